/- A part of a proof over the abstract machine. No conditions. -/
import Derived.Test.YtofafocfemikcaaGreatSHP4b
import Derived.Test.YtofafocfemikcaaGreatSHR3
set_option linter.unusedSimpArgs false
set_option linter.unnecessarySimpa false
set_option linter.unusedVariables false
namespace Go.Proofs.YtofafocfemikcaaGreat
open Go Go.Ab Wm NumPlain
set_option maxRecDepth 10000
set_option maxHeartbeats 4000000
theorem put_it {HA h2:H} {s s':AS} {L:List ItA} {done:List ShellPlain.It} {Y:ItA} {x:ShellPlain.It} {k:Blk} (g':Grown h2 5 encA s' (L++[Y])) (hd:HeldL HA L done) (hh:Held HA Y x) (hap:ApA HA s L) (oy:∀ b,ownB Y.s = some b→9 ≤ b∧b < HA.next∧ownB s ≠ some b) (hn':HA.next ≤ h2.next) (hf':∀ b,b < HA.next→ownB s ≠ some b→h2.f b = HA.f b) (hos':∀ b,ownB s' = some b→ownB s = some b ∨ HA.next ≤ b) (hos:∀ b,ownB s = some b→9 ≤ b) (h9:9 ≤ HA.next) :
  Grown (h2.set 8 k) 5 encA s' (L++[Y])∧HeldL (h2.set 8 k) (L++[Y]) (done++[x])∧ApA (h2.set 8 k) s' (L++[Y])∧(∀ b,ownB s' = some b→9 ≤ b):=by
 have q9:∀ b,ownB s' = some b→9 ≤ b:=fun b hb=>by
  rcases hos' b hb with h | h
  ·exact hos _ h
  ·omega
 have al:∀ y ∈ L++[Y],∀ b,ownB y.s = some b→b < HA.next∧9 ≤ b∧ownB s ≠ some b:=fun y hy b hb=>by
  rcases List.mem_append.1 hy with h | h
  ·exact hap y h b hb
  ·rw [List.mem_singleton.1 h] at hb
   obtain ⟨h1,h2,h3⟩:=oy b hb
   exact ⟨h2,h1,h3⟩
 refine ⟨g'.keep (by simp) fun b hb=>by rw [set_at,if_neg (by have:=q9 b hb;omega)],(hd.snoc hh).keep (by simpa using hn') fun y hy b hb=>?_,fun y hy b hb=>?_,q9⟩
 ·obtain ⟨h1,h2',h3⟩:=al y hy b hb
  rw [set_at,if_neg (by omega),hf' b h1 h3]
 ·obtain ⟨h1,h2',h3⟩:=al y hy b hb
  refine ⟨by simp;omega,h2',fun hc=>?_⟩
  rcases hos' b hc with h | h
  ·exact h3 h
  ·omega
theorem parse_ok (g n c:UInt8) (l:BL) (hll:l.length < 9223372036854775805) (h:H):W K 30 [.one (bs (some (g::n::c::l)))] h = some (.ret (.tup [(true,[ii g.toNat,ii n.toNat,ii c.toNat,sl 5 encItem (opt ((ShellPlain.its 256 l).map itemW))]),(false,[.bool true])]) h):=by
 have m1:=b_ok g (n::c::l)
 have m2:=b_ok n (c::l)
 have m3:=b_ok c l
 have c1:=cv8 g
 have c2:=cv8 n
 have c3:=cv8 c
 obtain ⟨R,hR⟩:∃ R,ShellPlain.its 256 l = R:=⟨_,rfl⟩
 rw [hR]
 have hown:memL S.own 30 = false:=by kernel_rfl
 refine W_pure hp (by simp [pureV,m1,m2,m3,c1,c2,c3,bOk,outV,frzV,frzS,frzS_pure,frzP,pureS,pureL,K_own,hown]) (apart_does rfl rfl (by kernel_rfl) Tryz.func30 rfl (by simp [Tryz.f30]) ?_)
 simp only [Tryz.f30]
 refine hide ?_;intro Q1 hQ1
 repeat' (first
  | (replace hQ1:=hQ1;simp [m1,m2,m3,c1,c2,c3,bOk,outV,frzV,frzS,frzS_pure,frzP,pureS,pureL,K_own,hown])
  | refine hQ1 _ _ _ ?_
  | (first | apply cF | apply wN | apply wS) <;> intro hcnd <;> (try simp only [hcnd]) <;> (try simp [-List.isEmpty_iff,-List.isEmpty_eq_false_iff] at hcnd))
 clear m1 m2 m3
 obtain ⟨I,hI⟩:∃ I:Nat→Fr→H→Prop,I = fun k fr hh=>∃ (o:Option BL) (bad:Bool) (done:List ShellPlain.It) (s:AS) (L:List ItA),k = (if bad then 0 else (ls o).length + 1)∧hh.f 0 = some ⟨0,[4],true,[ii 0,ii 0,ii 0,.nilslc]⟩∧hh.f 1 = some ⟨0,[2],true,[bs o,.bool bad]⟩∧hh.f 8 = some ⟨0,[4],true,[ii g.toNat,ii n.toNat,ii c.toNat,s]⟩∧Grown hh 5 encA s L∧HeldL hh L done∧ApA hh s L ∧
  ((bad = false∧∃ r,o = some r∧done++ShellPlain.its (256 - done.length) r = R) ∨ (bad = true∧o = none∧done = R))∧done.length ≤ 256∧9 ≤ hh.next∧(∀ b,ownB s = some b→9 ≤ b)∧∃ j:Nat→AV,fr = (j 0::j 1::(.one (.ptr 0 0 0))::j 3::(.one (.ptr 1 0 0))::(.one (.ptr 8 0 0))::j 6::j 7::j 8::j 9::j 10::j 11::j 12::j 13::j 14::j 15::j 16::j 17::j 18::j 19::j 20::j 21::j 22::j 23::j 24::j 25::j 26::j 27::j 28::j 29::j 30::j 31::j 32::j 33::j 34::j 35::j 36::j 37::j 38::j 39::j 40::j 41::j 42::j 43::j 44::j 45::j 46::j 47::j 48::j 49::j 50::j 51::j 52::j 53::j 54::j 55::j 56::j 57::j 58::j 59::j 60::j 61::j 62::j 63::j 64::j 65::j 66::j 67::j 68::j 69::j 70::j 71::j 72::j 73::j 74::j 75::j 76::j 77::j 78::j 79::j 80::j 81::j 82::j 83::j 84::j 85::j 86::j 87::j 88::j 89::j 90::j 91::j 92::j 93::j 94::j 95::j 96::j 97::j 98::j 99::j 100::[]):=⟨_,rfl⟩
 refine does_loop hp I ?_ (l.length + 1) _ _ (by rw [hI];exact ⟨some l,false,[],.nilslc,[],by simp,by simp,by simp,by simp,grown_nil _ _ _,trivial,fun y hy=>(by cases hy),.inl ⟨rfl,l,rfl,by simpa using hR⟩,by simp,by simp,by simp [ownB],ex_get' (by simp)⟩)
 intro k fr hh hx
 rw [hI] at hx
 obtain ⟨o,bad,done,s,L,hk,f0,f1,f8,gr,hd,hap,hst,hd256,hn,hos,j,rfl⟩:=hx
 have hz:∀ k,frzS false (hh.set 0 k) 64 s = some (sl 5 encItem (opt (done.map itemW))):=fun k =>
  list_frz (gr.keep (h':=hh.set 0 k) (by simp) fun b hb=>by rw [set_at,if_neg (by have:=hos b hb;omega)]) (hd.keep (by simp) fun y hy b hb=>by rw [set_at,if_neg (by have:=(hap y hy b hb).2.1;omega)])
 have hLs:∀ h,lenA s (some (.slice 62)) h = some (one (ii done.length) h):=fun h=>by
  have:=len_grown (by omega) len_itA gr 62 h
  rwa [hd.len] at this
 rcases hst with ⟨rfl,r,rfl,hR2⟩ | ⟨rfl,rfl,hR2⟩
 rotate_left
 ·subst hR2
  simp only [bs_none] at f1
  first | (refine hide ?_;intro Q2 hQ2) | have hQ2:=True.intro
  repeat' (first
   | (replace hQ2:=hQ2;simp [f0,f1,f8,hz,outV,frzV,frzS,frzS_pure,frzP,pureS,pureL,K_own,hown])
   | (refine hQ2 _ _ _ ?_;clear hQ2 Q2;first | simp only [] | simp [f0,f1,f8,hz,outV,frzV,frzS,frzS_pure,frzP,pureS,pureL,K_own,hown] | skip)
   | (refine hadQ (by assumption) ?_;(try clear hQ2);first | simp only [] | simp [f0,f1,f8,hz,outV,frzV,frzS,frzS_pure,frzP,pureS,pureL,K_own,hown] | skip)
   | ((fail_if_success replace hQ2:=hQ2);(first | refine hide ?_ | refine hideS ?_ | refine hideB ?_);intro Q2 hQ2)
   | (first | apply cF | apply wN | apply wS) <;> intro hcnd <;> (try simp only [hcnd]) <;> (try simp [-List.isEmpty_iff,-List.isEmpty_eq_false_iff] at hcnd))
  all_goals trace_state
 have hL:∀ h,lenA (bs (some r)) (some (.slice 5)) h = some (one (ii r.length) h):=fun h=>lenA_bs _ _ _
 rcases r with _ | ⟨a,r⟩
 ·have e:done = R:=by simpa using hR2
  subst e
  first | (refine hide ?_;intro Q3 hQ3) | have hQ3:=True.intro
  repeat' (first
   | (replace hQ3:=hQ3;simp [f0,f1,f8,hL,hz,outV,frzV,frzS,frzS_pure,frzP,pureS,pureL,K_own,hown])
   | (refine hQ3 _ _ _ ?_;clear hQ3 Q3;first | simp only [] | simp [f0,f1,f8,hL,hz,outV,frzV,frzS,frzS_pure,frzP,pureS,pureL,K_own,hown] | skip)
   | (refine hadQ (by assumption) ?_;(try clear hQ3);first | simp only [] | simp [f0,f1,f8,hL,hz,outV,frzV,frzS,frzS_pure,frzP,pureS,pureL,K_own,hown] | skip)
   | ((fail_if_success replace hQ3:=hQ3);(first | refine hide ?_ | refine hideS ?_ | refine hideB ?_);intro Q3 hQ3)
   | (first | apply cF | apply wN | apply wS) <;> intro hcnd <;> (try simp only [hcnd]) <;> (try simp [-List.isEmpty_iff,-List.isEmpty_eq_false_iff] at hcnd))
  all_goals trace_state
 by_cases hfull:done.length = 256
 ·have e:done = R:=by rw [hfull] at hR2;simpa using hR2
  subst e
  first | (refine hide ?_;intro Q4 hQ4) | have hQ4:=True.intro
  repeat' (first
   | (replace hQ4:=hQ4;simp [f0,f1,f8,hL,hLs,hfull,hz,outV,frzV,frzS,frzS_pure,frzP,pureS,pureL,K_own,hown])
   | (refine hQ4 _ _ _ ?_;clear hQ4 Q4;first | simp only [] | simp [f0,f1,f8,hL,hLs,hfull,hz,outV,frzV,frzS,frzS_pure,frzP,pureS,pureL,K_own,hown] | skip)
   | (refine hadQ (by assumption) ?_;(try clear hQ4);first | simp only [] | simp [f0,f1,f8,hL,hLs,hfull,hz,outV,frzV,frzS,frzS_pure,frzP,pureS,pureL,K_own,hown] | skip)
   | ((fail_if_success replace hQ4:=hQ4);(first | refine hide ?_ | refine hideS ?_ | refine hideB ?_);intro Q4 hQ4)
   | (first | apply cF | apply wN | apply wS) <;> intro hcnd <;> (try simp only [hcnd]) <;> (try simp [-List.isEmpty_iff,-List.isEmpty_eq_false_iff] at hcnd))
  all_goals trace_state
 have hfl:done.length < 256:=by omega
 have hlt:decide ((done.length:Int) < 256) = true:=by simp;omega
 have hlt2:(done.length:Int) < 256:=by omega
 have em:256 - done.length = (255 - done.length) + 1:=by omega
 obtain ⟨H1,e1,h1f1,fr1⟩:=byte_yes a r hh (by omega) f1
 have hn1:=fr1.next
 have g0:H1.f 0 = some ⟨0,[4],true,[ii 0,ii 0,ii 0,.nilslc]⟩:=by rw [fr1.f 0 (by omega) (by omega)];exact f0
 have g8:H1.f 8 = some ⟨0,[4],true,[ii g.toNat,ii n.toNat,ii c.toNat,s]⟩:=by rw [fr1.f 8 (by omega) (by omega)];exact f8
 have gr1:Grown H1 5 encA s L:=gr.keep hn1 fun b hb=>fr1.f b (owns_lt gr.1 hb) (by have:=hos b hb;omega)
 have hd1:HeldL H1 L done:=hd.keep hn1 fun y hy b hb=>fr1.f b (hap y hy b hb).1 (by have:=(hap y hy b hb).2.1;omega)
 have hap1:ApA H1 s L:=fun y hy b hb=>⟨by have:=(hap y hy b hb).1;omega,(hap y hy b hb).2⟩
 have hN1:9 ≤ H1.next:=by omega
 clear gr hd hap fr1 hz
 have ca:=cv8 a
 have hab:=a.toNat_lt
 obtain ⟨A,hA⟩:∃ A:Int,(a.toNat:Int) = A:=⟨_,rfl⟩
 rw [hA] at ca
 have xne:¬ 1 = H1.next:=by omega
 have xn0:¬ 0 = H1.next:=by omega
 have xn8:¬ 8 = H1.next:=by omega
 have xm1:¬ H1.next = 1:=by omega
 have xm0:¬ H1.next = 0:=by omega
 have xm8:¬ H1.next = 8:=by omega
 by_cases hkk:A < 1 ∨ 8 < A
 ·have hR3:done++ShellPlain.its (256 - done.length) r = R:=by
   rw [em] at hR2 ⊢
   rwa [ShellPlain.its_skip (by omega)] at hR2
  have q1:¬ A = 1:=by omega
  have q2:¬ A = 2:=by omega
  have q3:¬ A = 3:=by omega
  have q4:¬ A = 4:=by omega
  have q5:¬ A = 5:=by omega
  have q6:¬ A = 6:=by omega
  have q7:¬ A = 7:=by omega
  have q8:¬ A = 8:=by omega
  have b1:(A == 1) = false:=by simpa using q1
  have b2:(A == 2) = false:=by simpa using q2
  have b3:(A == 3) = false:=by simpa using q3
  have b4:(A == 4) = false:=by simpa using q4
  have b5:(A == 5) = false:=by simpa using q5
  have b6:(A == 6) = false:=by simpa using q6
  have b7:(A == 7) = false:=by simpa using q7
  have b8:(A == 8) = false:=by simpa using q8
  first | (refine hide ?_;intro Q5 hQ5) | have hQ5:=True.intro
  repeat' (first
   | (replace hQ5:=hQ5;simp [f0,f1,f8,hL,hLs,hlt,hlt2,e1,ca,q1,q2,q3,q4,q5,q6,q7,q8,b1,b2,b3,b4,b5,b6,b7,b8,outV,frzV,frzS,frzS_pure,frzP,pureS,pureL,K_own,hown])
   | (refine hQ5 _ _ _ ?_;clear hQ5 Q5;first | simp only [] | simp [f0,f1,f8,hL,hLs,hlt,hlt2,e1,ca,q1,q2,q3,q4,q5,q6,q7,q8,b1,b2,b3,b4,b5,b6,b7,b8,outV,frzV,frzS,frzS_pure,frzP,pureS,pureL,K_own,hown] | skip)
   | (refine hadQ (by assumption) ?_;(try clear hQ5);first | simp only [] | simp [f0,f1,f8,hL,hLs,hlt,hlt2,e1,ca,q1,q2,q3,q4,q5,q6,q7,q8,b1,b2,b3,b4,b5,b6,b7,b8,outV,frzV,frzS,frzS_pure,frzP,pureS,pureL,K_own,hown] | skip)
   | ((fail_if_success replace hQ5:=hQ5);(first | refine hide ?_ | refine hideS ?_ | refine hideB ?_);intro Q5 hQ5)
   | (first | apply cF | apply wN | apply wS) <;> intro hcnd <;> (try simp only [hcnd]) <;> (try simp [-List.isEmpty_iff,-List.isEmpty_eq_false_iff] at hcnd))
  all_goals first | omega | (refine ⟨r.length + 1,by subst hk;simp, ?_⟩;rw [hI];exact ⟨some r,false,done,s,L,by simp,by simp [g0,xn0],by simp [h1f1,xne],by simp [g8,xn8],gr1.new _,hd1.keep (by simp) (fun y hy b hb=>by rw [new_at,if_neg (by have:=(hap1 y hy b hb).1;omega)]),fun y hy b hb=>⟨by have:=(hap1 y hy b hb).1;simp;omega,(hap1 y hy b hb).2⟩,.inl ⟨rfl,r,rfl,hR3⟩,hd256,by simp;omega,hos,ex_get' (by simp)⟩) | trace_state
 ·have eA:a.toNat = A.toNat:=by omega
  have hLl:=hd1.len
  rcases (show A = 1 ∨ A = 2 ∨ A = 3 ∨ A = 4 ∨ A = 5 ∨ A = 6 ∨ A = 7 ∨ A = 8 by omega) with rfl | rfl | rfl | rfl | rfl | rfl | rfl | rfl
  ·obtain ⟨v2,H2,e2,w2,F2,i2⟩:=byte_any (some r) (H1.new ⟨0,[5],true,[ii 1,.int .i64 0,.int .i64 0,.int .i64 0,.nilslc]⟩) (by first | omega | (simp <;> omega)) (by simp [h1f1,xne])
   have n2:=F2.next
   try simp only [new_next,set_next] at n2
   have z2:H2.f 0 = some ⟨0,[4],true,[ii 0,ii 0,ii 0,.nilslc]⟩:=by rw [F2.f 0 (by first | omega | (simp <;> omega)) (by omega)];simp [g0,xn0,xm0]
   have y2:H2.f 8 = some ⟨0,[4],true,[ii g.toNat,ii n.toNat,ii c.toNat,s]⟩:=by rw [F2.f 8 (by first | omega | (simp <;> omega)) (by omega)];simp [g8,xn8,xm8]
   have x2:H2.f H1.next = some ⟨0,[5],true,[ii 1,.int .i64 0,.int .i64 0,.int .i64 0,.nilslc]⟩:=by rw [F2.f _ (by first | omega | (simp <;> omega)) (by omega)];simp
   have k2:∀ b,b < H1.next→b ≠ 1→H2.f b = H1.f b:=fun b hb hb1=>by rw [F2.f b (by first | omega | (simp <;> omega)) hb1];rw [new_at,if_neg (by omega)]
   have c2:=cv8 v2
   obtain ⟨v3,H3,e3,w3,F3,i3⟩:=byte_any (stB (some r)) H2 (by first | omega | (simp <;> omega)) (by simp [w2,xne,x2])
   have n3:=F3.next
   try simp only [new_next,set_next] at n3
   have z3:H3.f 0 = some ⟨0,[4],true,[ii 0,ii 0,ii 0,.nilslc]⟩:=by rw [F3.f 0 (by first | omega | (simp <;> omega)) (by omega)];simp [z2,xn0,xm0]
   have y3:H3.f 8 = some ⟨0,[4],true,[ii g.toNat,ii n.toNat,ii c.toNat,s]⟩:=by rw [F3.f 8 (by first | omega | (simp <;> omega)) (by omega)];simp [y2,xn8,xm8]
   have x3:H3.f H1.next = some ⟨0,[5],true,[ii 1,.int .i64 0,.int .i64 0,.int .i64 0,.nilslc]⟩:=by rw [F3.f _ (by first | omega | (simp <;> omega)) (by omega)];simp [x2]
   have k3:∀ b,b < H1.next→b ≠ 1→H3.f b = H1.f b:=fun b hb hb1=>by rw [F3.f b (by first | omega | (simp <;> omega)) hb1];rw [k2 b hb hb1]
   have c3:=cv8 v3
   obtain ⟨v4,H4,e4,w4,F4,i4⟩:=pair_any (stB (stB (some r))) (H3.set H1.next ⟨0,[5],true,[ii 1,ii v2.toNat,.int .i64 0,ii v3.toNat,.nilslc]⟩) (by first | omega | (simp <;> omega)) (by simp [w3,xne,x3])
   have n4:=F4.next
   try simp only [new_next,set_next] at n4
   have z4:H4.f 0 = some ⟨0,[4],true,[ii 0,ii 0,ii 0,.nilslc]⟩:=by rw [F4.f 0 (by first | omega | (simp <;> omega)) (by omega)];simp [z3,xn0,xm0]
   have y4:H4.f 8 = some ⟨0,[4],true,[ii g.toNat,ii n.toNat,ii c.toNat,s]⟩:=by rw [F4.f 8 (by first | omega | (simp <;> omega)) (by omega)];simp [y3,xn8,xm8]
   have x4:H4.f H1.next = some ⟨0,[5],true,[ii 1,ii v2.toNat,.int .i64 0,ii v3.toNat,.nilslc]⟩:=by rw [F4.f _ (by first | omega | (simp <;> omega)) (by omega)];simp [x3]
   have k4:∀ b,b < H1.next→b ≠ 1→H4.f b = H1.f b:=fun b hb hb1=>by rw [F4.f b (by first | omega | (simp <;> omega)) hb1];rw [set_at,if_neg (by omega),k3 b hb hb1]
   have b11:((1:Int) == 1) = true:=by decide
   have b12:((1:Int) == 2) = false:=by decide
   have b13:((1:Int) == 3) = false:=by decide
   have b14:((1:Int) == 4) = false:=by decide
   have b15:((1:Int) == 5) = false:=by decide
   have b16:((1:Int) == 6) = false:=by decide
   have b17:((1:Int) == 7) = false:=by decide
   have b18:((1:Int) == 8) = false:=by decide
   cases hfin:stP (stB (stB (some r))) with
   | none =>
    rw [hfin] at w4
    have hi:=it_bad1 hfin
    have hR3:done = R:=by rw [em,ShellPlain.its_none (by omega) (by rw [eA];exact hi)] at hR2;simpa using hR2
    subst hR3
    simp only [rdT,bs_none,Option.isNone_none] at w4
    first | (refine hide ?_;intro Q6 hQ6) | have hQ6:=True.intro
    repeat' (first
     | (replace hQ6:=hQ6;simp [c2,e2,x2,z2,y2,c3,e3,x3,z3,y3,e4,x4,z4,y4,f0,f1,f8,hL,hLs,hlt,hlt2,e1,ca,g0,g8,h1f1,xne,xn0,xn8,xm1,xm0,xm8,b11,b12,b13,b14,b15,b16,b17,b18,w4,outV,frzV,frzS,frzS_pure,frzP,pureS,pureL,K_own,hown])
     | (refine hQ6 _ _ _ ?_;clear hQ6 Q6;first | simp only [] | simp [c2,e2,x2,z2,y2,c3,e3,x3,z3,y3,e4,x4,z4,y4,f0,f1,f8,hL,hLs,hlt,hlt2,e1,ca,g0,g8,h1f1,xne,xn0,xn8,xm1,xm0,xm8,b11,b12,b13,b14,b15,b16,b17,b18,w4,outV,frzV,frzS,frzS_pure,frzP,pureS,pureL,K_own,hown] | skip)
     | (refine hadQ (by assumption) ?_;(try clear hQ6);first | simp only [] | simp [c2,e2,x2,z2,y2,c3,e3,x3,z3,y3,e4,x4,z4,y4,f0,f1,f8,hL,hLs,hlt,hlt2,e1,ca,g0,g8,h1f1,xne,xn0,xn8,xm1,xm0,xm8,b11,b12,b13,b14,b15,b16,b17,b18,w4,outV,frzV,frzS,frzS_pure,frzP,pureS,pureL,K_own,hown] | skip)
     | ((fail_if_success replace hQ6:=hQ6);(first | refine hide ?_ | refine hideS ?_ | refine hideB ?_);intro Q6 hQ6)
     | (first | apply cF | apply wN | apply wS) <;> intro hcnd <;> (try simp only [hcnd]) <;> (try simp [-List.isEmpty_iff,-List.isEmpty_eq_false_iff] at hcnd))
    all_goals (refine ⟨0,by subst hk;simp, ?_⟩;rw [hI];exact ⟨none,true,done,s,L,by simp,by simp [z4,xn0],by simp [w4,xne,bs_none],by simp [y4,xn8],gr1.keep (by simp <;> omega) (fun b hb=>by have h1:=owns_lt gr1.1 hb;have h2:=hos b hb;rw [set_at,if_neg (by omega),k4 b h1 (by omega)]),hd1.keep (by simp <;> omega) (fun y hy b hb=>by have h1:=hap1 y hy b hb;rw [set_at,if_neg (by omega),k4 b h1.1 (by omega)]),fun y hy b hb=>by have h1:=hap1 y hy b hb;exact ⟨by simp <;> omega,h1.2⟩,.inr ⟨rfl,rfl,rfl⟩,hd256,by simp <;> omega,hos,ex_get' (by simp)⟩)
   | some r' =>
    rw [hfin] at w4
    simp only [rdT,Option.isNone_some] at w4
    obtain ⟨ug,uc,ua,ub,rfl⟩:=it_ok1 hfin
    have j2:=i2 ug _ rfl
    have j3:=i3 uc _ rfl
    have j4:=i4 ua ub _ rfl
    obtain ⟨x,hx⟩:∃ x:ShellPlain.It,x = ⟨1,ug.toNat,ShellPlain.int2 ua ub,uc.toNat,[]⟩:=⟨_,rfl⟩
    have hi:ShellPlain.item 1 (ug::uc::ua::ub::r') = some (x,r'):=by subst hx;simp [ShellPlain.item]
    have hR3:(done++[x])++ShellPlain.its (256 - (done++[x]).length) r' = R:=by
     rw [em,ShellPlain.its_some (by omega) (by rw [eA];exact hi)] at hR2
     rw [← hR2,List.append_assoc];congr 2;simp <;> omega
    have hle:=ShellPlain.item_le hi
    first | (refine hide ?_;intro Q7 hQ7) | have hQ7:=True.intro
    repeat' (first
     | (replace hQ7:=hQ7;simp [c2,e2,x2,z2,y2,c3,e3,x3,z3,y3,e4,x4,z4,y4,f0,f1,f8,hL,hLs,hlt,hlt2,e1,ca,g0,g8,h1f1,xne,xn0,xn8,xm1,xm0,xm8,b11,b12,b13,b14,b15,b16,b17,b18,w4,outV,frzV,frzS,frzS_pure,frzP,pureS,pureL,K_own,hown])
     | (refine hQ7 _ _ _ ?_;clear hQ7 Q7;first | simp only [] | simp [c2,e2,x2,z2,y2,c3,e3,x3,z3,y3,e4,x4,z4,y4,f0,f1,f8,hL,hLs,hlt,hlt2,e1,ca,g0,g8,h1f1,xne,xn0,xn8,xm1,xm0,xm8,b11,b12,b13,b14,b15,b16,b17,b18,w4,outV,frzV,frzS,frzS_pure,frzP,pureS,pureL,K_own,hown] | skip)
     | (refine hadQ (by assumption) ?_;(try clear hQ7);first | simp only [] | simp [c2,e2,x2,z2,y2,c3,e3,x3,z3,y3,e4,x4,z4,y4,f0,f1,f8,hL,hLs,hlt,hlt2,e1,ca,g0,g8,h1f1,xne,xn0,xn8,xm1,xm0,xm8,b11,b12,b13,b14,b15,b16,b17,b18,w4,outV,frzV,frzS,frzS_pure,frzP,pureS,pureL,K_own,hown] | skip)
     | ((fail_if_success replace hQ7:=hQ7);(first | refine hide ?_ | refine hideS ?_ | refine hideB ?_);intro Q7 hQ7)
     | (first | apply cF | apply wN | apply wS) <;> intro hcnd <;> (try simp only [hcnd]) <;> (try simp [-List.isEmpty_iff,-List.isEmpty_eq_false_iff] at hcnd))
    have gA:Grown (H4.set H1.next ⟨0,[5],true,[ii 1,ii v2.toNat,ii v4,ii v3.toNat,.nilslc]⟩) 5 encA s L:=gr1.keep (by simp <;> omega) (fun b hb=>by have h1:=owns_lt gr1.1 hb;have h2:=hos b hb;rw [set_at,if_neg (by omega),k4 b h1 (by omega)])
    have hA1:∀ b,b < H1.next→b ≠ 1→(H4.set H1.next ⟨0,[5],true,[ii 1,ii v2.toNat,ii v4,ii v3.toNat,.nilslc]⟩).f b = H1.f b:=fun b hb hb1=>by rw [set_at,if_neg (by omega),k4 b hb hb1]
    have nA:H1.next + 1 ≤ (H4.set H1.next ⟨0,[5],true,[ii 1,ii v2.toNat,ii v4,ii v3.toNat,.nilslc]⟩).next:=by simp <;> omega
    have u0:(H4.set H1.next ⟨0,[5],true,[ii 1,ii v2.toNat,ii v4,ii v3.toNat,.nilslc]⟩).f 0 = some ⟨0,[4],true,[ii 0,ii 0,ii 0,.nilslc]⟩:=by simp [z4,xn0]
    have u8:(H4.set H1.next ⟨0,[5],true,[ii 1,ii v2.toNat,ii v4,ii v3.toNat,.nilslc]⟩).f 8 = some ⟨0,[4],true,[ii g.toNat,ii n.toNat,ii c.toNat,s]⟩:=by simp [y4,xn8]
    have u1:(H4.set H1.next ⟨0,[5],true,[ii 1,ii v2.toNat,ii v4,ii v3.toNat,.nilslc]⟩).f 1 = some (rdT (some r')):=by simp [w4,xne]
    have oy:∀ b,ownB (⟨1,v2.toNat,v4,v3.toNat,.nilslc⟩:ItA).s = some b→H1.next ≤ b:=fun b hb=>by simp [ownB] at hb
    have hh:Held (H4.set H1.next ⟨0,[5],true,[ii 1,ii v2.toNat,ii v4,ii v3.toNat,.nilslc]⟩) ⟨1,v2.toNat,v4,v3.toNat,.nilslc⟩ x:=by subst hx;exact ⟨by simp,by simp [j2,j3,j4],by simp [j2,j3,j4],by simp [j2,j3,j4],fun h=>absurd h (by simp),fun _=>rfl⟩
    have oz:∀ b,ownB (⟨1,v2.toNat,v4,v3.toNat,.nilslc⟩:ItA).s = some b→b < (H4.set H1.next ⟨0,[5],true,[ii 1,ii v2.toNat,ii v4,ii v3.toNat,.nilslc]⟩).next:=fun b hb=>by simp [ownB] at hb
    have hdA:HeldL (H4.set H1.next ⟨0,[5],true,[ii 1,ii v2.toNat,ii v4,ii v3.toNat,.nilslc]⟩) L done:=hd1.keep (by omega) (fun y hy b hb=>by have h1:=hap1 y hy b hb;rw [hA1 b h1.1 (by omega)])
    have apA:ApA (H4.set H1.next ⟨0,[5],true,[ii 1,ii v2.toNat,ii v4,ii v3.toNat,.nilslc]⟩) s L:=fun y hy b hb=>by have h1:=hap1 y hy b hb;exact ⟨by omega,h1.2⟩
    refine call_growR Tryz.underlying25 (by simp) (by simp) Tryz.bytes62 (by omega) len_itA gA ⟨1,v2.toNat,v4,v3.toNat,.nilslc⟩ (by simp [limit];omega) ?hc ?hn (fun s' h2 g' hn' hf' hos'=>?_)
    case hc=>simp [encA]
    case hn=>simp
    have e0:=hf' 0 (by omega) (fun hc=>by have:=hos _ hc;omega)
    have e1':=hf' 1 (by omega) (fun hc=>by have:=hos _ hc;omega)
    have e8:=hf' 8 (by omega) (fun hc=>by have:=hos _ hc;omega)
    rw [u0] at e0;rw [u1] at e1';rw [u8] at e8
    simp only [rdT,Option.isNone_some] at e1'
    have pk:=fun k=>put_it (k:=k) g' hdA hh apA (fun b hb=>⟨by have:=oy b hb;omega,oz b hb,fun hc=>by have h1:=owns_lt gr1.1 hc;have h2:=oy b hb;omega⟩) hn' hf' hos' hos (by omega)
    clear gA hA1 u0 u1 u8 oy oz hh hdA apA g' hf' hos'
    first | (refine hide ?_;intro Q8 hQ8) | have hQ8:=True.intro
    repeat' (first
     | (replace hQ8:=hQ8;simp [e0,e1',e8,outV,frzV,frzS,frzS_pure,frzP,pureS,pureL,K_own,hown])
     | (refine hQ8 _ _ _ ?_;clear hQ8 Q8;first | simp only [] | simp [e0,e1',e8,outV,frzV,frzS,frzS_pure,frzP,pureS,pureL,K_own,hown] | skip)
     | (refine hadQ (by assumption) ?_;(try clear hQ8);first | simp only [] | simp [e0,e1',e8,outV,frzV,frzS,frzS_pure,frzP,pureS,pureL,K_own,hown] | skip)
     | ((fail_if_success replace hQ8:=hQ8);(first | refine hide ?_ | refine hideS ?_ | refine hideB ?_);intro Q8 hQ8)
     | (first | apply cF | apply wN | apply wS) <;> intro hcnd <;> (try simp only [hcnd]) <;> (try simp [-List.isEmpty_iff,-List.isEmpty_eq_false_iff] at hcnd))
    all_goals first | omega | skip
    all_goals (refine ⟨r'.length + 1,by have hle:=hle;subst hk;simp at hle ⊢ <;> omega, ?_⟩;rw [hI];exact ⟨some r',false,done++[x],s',L++[⟨1,v2.toNat,v4,v3.toNat,.nilslc⟩],by simp,by simp [e0],by simp [e1'],by simp [e8],(pk _).1,(pk _).2.1,(pk _).2.2.1,.inl ⟨rfl,r',rfl,hR3⟩,by simp <;> omega,by simp <;> omega,(pk (rdT none)).2.2.2,ex_get' (by simp)⟩)
  ·obtain ⟨v2,H2,e2,w2,F2,i2⟩:=pair_any (some r) (H1.new ⟨0,[5],true,[ii 2,.int .i64 0,.int .i64 0,.int .i64 0,.nilslc]⟩) (by first | omega | (simp <;> omega)) (by simp [h1f1,xne])
   have n2:=F2.next
   try simp only [new_next,set_next] at n2
   have z2:H2.f 0 = some ⟨0,[4],true,[ii 0,ii 0,ii 0,.nilslc]⟩:=by rw [F2.f 0 (by first | omega | (simp <;> omega)) (by omega)];simp [g0,xn0,xm0]
   have y2:H2.f 8 = some ⟨0,[4],true,[ii g.toNat,ii n.toNat,ii c.toNat,s]⟩:=by rw [F2.f 8 (by first | omega | (simp <;> omega)) (by omega)];simp [g8,xn8,xm8]
   have x2:H2.f H1.next = some ⟨0,[5],true,[ii 2,.int .i64 0,.int .i64 0,.int .i64 0,.nilslc]⟩:=by rw [F2.f _ (by first | omega | (simp <;> omega)) (by omega)];simp
   have k2:∀ b,b < H1.next→b ≠ 1→H2.f b = H1.f b:=fun b hb hb1=>by rw [F2.f b (by first | omega | (simp <;> omega)) hb1];rw [new_at,if_neg (by omega)]
   have b21:((2:Int) == 1) = false:=by decide
   have b22:((2:Int) == 2) = true:=by decide
   have b23:((2:Int) == 3) = false:=by decide
   have b24:((2:Int) == 4) = false:=by decide
   have b25:((2:Int) == 5) = false:=by decide
   have b26:((2:Int) == 6) = false:=by decide
   have b27:((2:Int) == 7) = false:=by decide
   have b28:((2:Int) == 8) = false:=by decide
   cases hfin:stP (some r) with
   | none =>
    rw [hfin] at w2
    have hi:=it_bad2 (.inl rfl) hfin
    have hR3:done = R:=by rw [em,ShellPlain.its_none (by omega) (by rw [eA];exact hi)] at hR2;simpa using hR2
    subst hR3
    simp only [rdT,bs_none,Option.isNone_none] at w2
    first | (refine hide ?_;intro Q9 hQ9) | have hQ9:=True.intro
    repeat' (first
     | (replace hQ9:=hQ9;simp [e2,x2,z2,y2,f0,f1,f8,hL,hLs,hlt,hlt2,e1,ca,g0,g8,h1f1,xne,xn0,xn8,xm1,xm0,xm8,b21,b22,b23,b24,b25,b26,b27,b28,w2,outV,frzV,frzS,frzS_pure,frzP,pureS,pureL,K_own,hown])
     | (refine hQ9 _ _ _ ?_;clear hQ9 Q9;first | simp only [] | simp [e2,x2,z2,y2,f0,f1,f8,hL,hLs,hlt,hlt2,e1,ca,g0,g8,h1f1,xne,xn0,xn8,xm1,xm0,xm8,b21,b22,b23,b24,b25,b26,b27,b28,w2,outV,frzV,frzS,frzS_pure,frzP,pureS,pureL,K_own,hown] | skip)
     | (refine hadQ (by assumption) ?_;(try clear hQ9);first | simp only [] | simp [e2,x2,z2,y2,f0,f1,f8,hL,hLs,hlt,hlt2,e1,ca,g0,g8,h1f1,xne,xn0,xn8,xm1,xm0,xm8,b21,b22,b23,b24,b25,b26,b27,b28,w2,outV,frzV,frzS,frzS_pure,frzP,pureS,pureL,K_own,hown] | skip)
     | ((fail_if_success replace hQ9:=hQ9);(first | refine hide ?_ | refine hideS ?_ | refine hideB ?_);intro Q9 hQ9)
     | (first | apply cF | apply wN | apply wS) <;> intro hcnd <;> (try simp only [hcnd]) <;> (try simp [-List.isEmpty_iff,-List.isEmpty_eq_false_iff] at hcnd))
    all_goals (refine ⟨0,by subst hk;simp, ?_⟩;rw [hI];exact ⟨none,true,done,s,L,by simp,by simp [z2,xn0],by simp [w2,xne,bs_none],by simp [y2,xn8],gr1.keep (by simp <;> omega) (fun b hb=>by have h1:=owns_lt gr1.1 hb;have h2:=hos b hb;rw [set_at,if_neg (by omega),k2 b h1 (by omega)]),hd1.keep (by simp <;> omega) (fun y hy b hb=>by have h1:=hap1 y hy b hb;rw [set_at,if_neg (by omega),k2 b h1.1 (by omega)]),fun y hy b hb=>by have h1:=hap1 y hy b hb;exact ⟨by simp <;> omega,h1.2⟩,.inr ⟨rfl,rfl,rfl⟩,hd256,by simp <;> omega,hos,ex_get' (by simp)⟩)
   | some r' =>
    rw [hfin] at w2
    simp only [rdT,Option.isNone_some] at w2
    obtain ⟨ua,ub,rfl⟩:=it_ok2 hfin
    have j2:=i2 ua ub _ rfl
    obtain ⟨x,hx⟩:∃ x:ShellPlain.It,x = ⟨2,0,ShellPlain.int2 ua ub,0,[]⟩:=⟨_,rfl⟩
    have hi:ShellPlain.item 2 (ua::ub::r') = some (x,r'):=by subst hx;simp [ShellPlain.item]
    have hR3:(done++[x])++ShellPlain.its (256 - (done++[x]).length) r' = R:=by
     rw [em,ShellPlain.its_some (by omega) (by rw [eA];exact hi)] at hR2
     rw [← hR2,List.append_assoc];congr 2;simp <;> omega
    have hle:=ShellPlain.item_le hi
    first | (refine hide ?_;intro Q10 hQ10) | have hQ10:=True.intro
    repeat' (first
     | (replace hQ10:=hQ10;simp [e2,x2,z2,y2,f0,f1,f8,hL,hLs,hlt,hlt2,e1,ca,g0,g8,h1f1,xne,xn0,xn8,xm1,xm0,xm8,b21,b22,b23,b24,b25,b26,b27,b28,w2,outV,frzV,frzS,frzS_pure,frzP,pureS,pureL,K_own,hown])
     | (refine hQ10 _ _ _ ?_;clear hQ10 Q10;first | simp only [] | simp [e2,x2,z2,y2,f0,f1,f8,hL,hLs,hlt,hlt2,e1,ca,g0,g8,h1f1,xne,xn0,xn8,xm1,xm0,xm8,b21,b22,b23,b24,b25,b26,b27,b28,w2,outV,frzV,frzS,frzS_pure,frzP,pureS,pureL,K_own,hown] | skip)
     | (refine hadQ (by assumption) ?_;(try clear hQ10);first | simp only [] | simp [e2,x2,z2,y2,f0,f1,f8,hL,hLs,hlt,hlt2,e1,ca,g0,g8,h1f1,xne,xn0,xn8,xm1,xm0,xm8,b21,b22,b23,b24,b25,b26,b27,b28,w2,outV,frzV,frzS,frzS_pure,frzP,pureS,pureL,K_own,hown] | skip)
     | ((fail_if_success replace hQ10:=hQ10);(first | refine hide ?_ | refine hideS ?_ | refine hideB ?_);intro Q10 hQ10)
     | (first | apply cF | apply wN | apply wS) <;> intro hcnd <;> (try simp only [hcnd]) <;> (try simp [-List.isEmpty_iff,-List.isEmpty_eq_false_iff] at hcnd))
    have gA:Grown (H2.set H1.next ⟨0,[5],true,[ii 2,.int .i64 0,ii v2,.int .i64 0,.nilslc]⟩) 5 encA s L:=gr1.keep (by simp <;> omega) (fun b hb=>by have h1:=owns_lt gr1.1 hb;have h2:=hos b hb;rw [set_at,if_neg (by omega),k2 b h1 (by omega)])
    have hA1:∀ b,b < H1.next→b ≠ 1→(H2.set H1.next ⟨0,[5],true,[ii 2,.int .i64 0,ii v2,.int .i64 0,.nilslc]⟩).f b = H1.f b:=fun b hb hb1=>by rw [set_at,if_neg (by omega),k2 b hb hb1]
    have nA:H1.next + 1 ≤ (H2.set H1.next ⟨0,[5],true,[ii 2,.int .i64 0,ii v2,.int .i64 0,.nilslc]⟩).next:=by simp <;> omega
    have u0:(H2.set H1.next ⟨0,[5],true,[ii 2,.int .i64 0,ii v2,.int .i64 0,.nilslc]⟩).f 0 = some ⟨0,[4],true,[ii 0,ii 0,ii 0,.nilslc]⟩:=by simp [z2,xn0]
    have u8:(H2.set H1.next ⟨0,[5],true,[ii 2,.int .i64 0,ii v2,.int .i64 0,.nilslc]⟩).f 8 = some ⟨0,[4],true,[ii g.toNat,ii n.toNat,ii c.toNat,s]⟩:=by simp [y2,xn8]
    have u1:(H2.set H1.next ⟨0,[5],true,[ii 2,.int .i64 0,ii v2,.int .i64 0,.nilslc]⟩).f 1 = some (rdT (some r')):=by simp [w2,xne]
    have oy:∀ b,ownB (⟨2,0,v2,0,.nilslc⟩:ItA).s = some b→H1.next ≤ b:=fun b hb=>by simp [ownB] at hb
    have hh:Held (H2.set H1.next ⟨0,[5],true,[ii 2,.int .i64 0,ii v2,.int .i64 0,.nilslc]⟩) ⟨2,0,v2,0,.nilslc⟩ x:=by subst hx;exact ⟨by simp,by simp [j2],by simp [j2],by simp [j2],fun h=>absurd h (by simp),fun _=>rfl⟩
    have oz:∀ b,ownB (⟨2,0,v2,0,.nilslc⟩:ItA).s = some b→b < (H2.set H1.next ⟨0,[5],true,[ii 2,.int .i64 0,ii v2,.int .i64 0,.nilslc]⟩).next:=fun b hb=>by simp [ownB] at hb
    have hdA:HeldL (H2.set H1.next ⟨0,[5],true,[ii 2,.int .i64 0,ii v2,.int .i64 0,.nilslc]⟩) L done:=hd1.keep (by omega) (fun y hy b hb=>by have h1:=hap1 y hy b hb;rw [hA1 b h1.1 (by omega)])
    have apA:ApA (H2.set H1.next ⟨0,[5],true,[ii 2,.int .i64 0,ii v2,.int .i64 0,.nilslc]⟩) s L:=fun y hy b hb=>by have h1:=hap1 y hy b hb;exact ⟨by omega,h1.2⟩
    refine call_growR Tryz.underlying25 (by simp) (by simp) Tryz.bytes62 (by omega) len_itA gA ⟨2,0,v2,0,.nilslc⟩ (by simp [limit];omega) ?hc ?hn (fun s' h2 g' hn' hf' hos'=>?_)
    case hc=>simp [encA]
    case hn=>simp
    have e0:=hf' 0 (by omega) (fun hc=>by have:=hos _ hc;omega)
    have e1':=hf' 1 (by omega) (fun hc=>by have:=hos _ hc;omega)
    have e8:=hf' 8 (by omega) (fun hc=>by have:=hos _ hc;omega)
    rw [u0] at e0;rw [u1] at e1';rw [u8] at e8
    simp only [rdT,Option.isNone_some] at e1'
    have pk:=fun k=>put_it (k:=k) g' hdA hh apA (fun b hb=>⟨by have:=oy b hb;omega,oz b hb,fun hc=>by have h1:=owns_lt gr1.1 hc;have h2:=oy b hb;omega⟩) hn' hf' hos' hos (by omega)
    clear gA hA1 u0 u1 u8 oy oz hh hdA apA g' hf' hos'
    first | (refine hide ?_;intro Q11 hQ11) | have hQ11:=True.intro
    repeat' (first
     | (replace hQ11:=hQ11;simp [e0,e1',e8,outV,frzV,frzS,frzS_pure,frzP,pureS,pureL,K_own,hown])
     | (refine hQ11 _ _ _ ?_;clear hQ11 Q11;first | simp only [] | simp [e0,e1',e8,outV,frzV,frzS,frzS_pure,frzP,pureS,pureL,K_own,hown] | skip)
     | (refine hadQ (by assumption) ?_;(try clear hQ11);first | simp only [] | simp [e0,e1',e8,outV,frzV,frzS,frzS_pure,frzP,pureS,pureL,K_own,hown] | skip)
     | ((fail_if_success replace hQ11:=hQ11);(first | refine hide ?_ | refine hideS ?_ | refine hideB ?_);intro Q11 hQ11)
     | (first | apply cF | apply wN | apply wS) <;> intro hcnd <;> (try simp only [hcnd]) <;> (try simp [-List.isEmpty_iff,-List.isEmpty_eq_false_iff] at hcnd))
    all_goals first | omega | skip
    all_goals (refine ⟨r'.length + 1,by have hle:=hle;subst hk;simp at hle ⊢ <;> omega, ?_⟩;rw [hI];exact ⟨some r',false,done++[x],s',L++[⟨2,0,v2,0,.nilslc⟩],by simp,by simp [e0],by simp [e1'],by simp [e8],(pk _).1,(pk _).2.1,(pk _).2.2.1,.inl ⟨rfl,r',rfl,hR3⟩,by simp <;> omega,by simp <;> omega,(pk (rdT none)).2.2.2,ex_get' (by simp)⟩)
  ·obtain ⟨v2,H2,e2,w2,F2,i2⟩:=pair_any (some r) (H1.new ⟨0,[5],true,[ii 3,.int .i64 0,.int .i64 0,.int .i64 0,.nilslc]⟩) (by first | omega | (simp <;> omega)) (by simp [h1f1,xne])
   have n2:=F2.next
   try simp only [new_next,set_next] at n2
   have z2:H2.f 0 = some ⟨0,[4],true,[ii 0,ii 0,ii 0,.nilslc]⟩:=by rw [F2.f 0 (by first | omega | (simp <;> omega)) (by omega)];simp [g0,xn0,xm0]
   have y2:H2.f 8 = some ⟨0,[4],true,[ii g.toNat,ii n.toNat,ii c.toNat,s]⟩:=by rw [F2.f 8 (by first | omega | (simp <;> omega)) (by omega)];simp [g8,xn8,xm8]
   have x2:H2.f H1.next = some ⟨0,[5],true,[ii 3,.int .i64 0,.int .i64 0,.int .i64 0,.nilslc]⟩:=by rw [F2.f _ (by first | omega | (simp <;> omega)) (by omega)];simp
   have k2:∀ b,b < H1.next→b ≠ 1→H2.f b = H1.f b:=fun b hb hb1=>by rw [F2.f b (by first | omega | (simp <;> omega)) hb1];rw [new_at,if_neg (by omega)]
   have b31:((3:Int) == 1) = false:=by decide
   have b32:((3:Int) == 2) = false:=by decide
   have b33:((3:Int) == 3) = true:=by decide
   have b34:((3:Int) == 4) = false:=by decide
   have b35:((3:Int) == 5) = false:=by decide
   have b36:((3:Int) == 6) = false:=by decide
   have b37:((3:Int) == 7) = false:=by decide
   have b38:((3:Int) == 8) = false:=by decide
   cases hfin:stP (some r) with
   | none =>
    rw [hfin] at w2
    have hi:=it_bad2 (.inr (.inl rfl)) hfin
    have hR3:done = R:=by rw [em,ShellPlain.its_none (by omega) (by rw [eA];exact hi)] at hR2;simpa using hR2
    subst hR3
    simp only [rdT,bs_none,Option.isNone_none] at w2
    first | (refine hide ?_;intro Q12 hQ12) | have hQ12:=True.intro
    repeat' (first
     | (replace hQ12:=hQ12;simp [e2,x2,z2,y2,f0,f1,f8,hL,hLs,hlt,hlt2,e1,ca,g0,g8,h1f1,xne,xn0,xn8,xm1,xm0,xm8,b31,b32,b33,b34,b35,b36,b37,b38,w2,outV,frzV,frzS,frzS_pure,frzP,pureS,pureL,K_own,hown])
     | (refine hQ12 _ _ _ ?_;clear hQ12 Q12;first | simp only [] | simp [e2,x2,z2,y2,f0,f1,f8,hL,hLs,hlt,hlt2,e1,ca,g0,g8,h1f1,xne,xn0,xn8,xm1,xm0,xm8,b31,b32,b33,b34,b35,b36,b37,b38,w2,outV,frzV,frzS,frzS_pure,frzP,pureS,pureL,K_own,hown] | skip)
     | (refine hadQ (by assumption) ?_;(try clear hQ12);first | simp only [] | simp [e2,x2,z2,y2,f0,f1,f8,hL,hLs,hlt,hlt2,e1,ca,g0,g8,h1f1,xne,xn0,xn8,xm1,xm0,xm8,b31,b32,b33,b34,b35,b36,b37,b38,w2,outV,frzV,frzS,frzS_pure,frzP,pureS,pureL,K_own,hown] | skip)
     | ((fail_if_success replace hQ12:=hQ12);(first | refine hide ?_ | refine hideS ?_ | refine hideB ?_);intro Q12 hQ12)
     | (first | apply cF | apply wN | apply wS) <;> intro hcnd <;> (try simp only [hcnd]) <;> (try simp [-List.isEmpty_iff,-List.isEmpty_eq_false_iff] at hcnd))
    all_goals (refine ⟨0,by subst hk;simp, ?_⟩;rw [hI];exact ⟨none,true,done,s,L,by simp,by simp [z2,xn0],by simp [w2,xne,bs_none],by simp [y2,xn8],gr1.keep (by simp <;> omega) (fun b hb=>by have h1:=owns_lt gr1.1 hb;have h2:=hos b hb;rw [set_at,if_neg (by omega),k2 b h1 (by omega)]),hd1.keep (by simp <;> omega) (fun y hy b hb=>by have h1:=hap1 y hy b hb;rw [set_at,if_neg (by omega),k2 b h1.1 (by omega)]),fun y hy b hb=>by have h1:=hap1 y hy b hb;exact ⟨by simp <;> omega,h1.2⟩,.inr ⟨rfl,rfl,rfl⟩,hd256,by simp <;> omega,hos,ex_get' (by simp)⟩)
   | some r' =>
    rw [hfin] at w2
    simp only [rdT,Option.isNone_some] at w2
    obtain ⟨ua,ub,rfl⟩:=it_ok2 hfin
    have j2:=i2 ua ub _ rfl
    obtain ⟨x,hx⟩:∃ x:ShellPlain.It,x = ⟨3,0,ShellPlain.int2 ua ub,0,[]⟩:=⟨_,rfl⟩
    have hi:ShellPlain.item 3 (ua::ub::r') = some (x,r'):=by subst hx;simp [ShellPlain.item]
    have hR3:(done++[x])++ShellPlain.its (256 - (done++[x]).length) r' = R:=by
     rw [em,ShellPlain.its_some (by omega) (by rw [eA];exact hi)] at hR2
     rw [← hR2,List.append_assoc];congr 2;simp <;> omega
    have hle:=ShellPlain.item_le hi
    first | (refine hide ?_;intro Q13 hQ13) | have hQ13:=True.intro
    repeat' (first
     | (replace hQ13:=hQ13;simp [e2,x2,z2,y2,f0,f1,f8,hL,hLs,hlt,hlt2,e1,ca,g0,g8,h1f1,xne,xn0,xn8,xm1,xm0,xm8,b31,b32,b33,b34,b35,b36,b37,b38,w2,outV,frzV,frzS,frzS_pure,frzP,pureS,pureL,K_own,hown])
     | (refine hQ13 _ _ _ ?_;clear hQ13 Q13;first | simp only [] | simp [e2,x2,z2,y2,f0,f1,f8,hL,hLs,hlt,hlt2,e1,ca,g0,g8,h1f1,xne,xn0,xn8,xm1,xm0,xm8,b31,b32,b33,b34,b35,b36,b37,b38,w2,outV,frzV,frzS,frzS_pure,frzP,pureS,pureL,K_own,hown] | skip)
     | (refine hadQ (by assumption) ?_;(try clear hQ13);first | simp only [] | simp [e2,x2,z2,y2,f0,f1,f8,hL,hLs,hlt,hlt2,e1,ca,g0,g8,h1f1,xne,xn0,xn8,xm1,xm0,xm8,b31,b32,b33,b34,b35,b36,b37,b38,w2,outV,frzV,frzS,frzS_pure,frzP,pureS,pureL,K_own,hown] | skip)
     | ((fail_if_success replace hQ13:=hQ13);(first | refine hide ?_ | refine hideS ?_ | refine hideB ?_);intro Q13 hQ13)
     | (first | apply cF | apply wN | apply wS) <;> intro hcnd <;> (try simp only [hcnd]) <;> (try simp [-List.isEmpty_iff,-List.isEmpty_eq_false_iff] at hcnd))
    have gA:Grown (H2.set H1.next ⟨0,[5],true,[ii 3,.int .i64 0,ii v2,.int .i64 0,.nilslc]⟩) 5 encA s L:=gr1.keep (by simp <;> omega) (fun b hb=>by have h1:=owns_lt gr1.1 hb;have h2:=hos b hb;rw [set_at,if_neg (by omega),k2 b h1 (by omega)])
    have hA1:∀ b,b < H1.next→b ≠ 1→(H2.set H1.next ⟨0,[5],true,[ii 3,.int .i64 0,ii v2,.int .i64 0,.nilslc]⟩).f b = H1.f b:=fun b hb hb1=>by rw [set_at,if_neg (by omega),k2 b hb hb1]
    have nA:H1.next + 1 ≤ (H2.set H1.next ⟨0,[5],true,[ii 3,.int .i64 0,ii v2,.int .i64 0,.nilslc]⟩).next:=by simp <;> omega
    have u0:(H2.set H1.next ⟨0,[5],true,[ii 3,.int .i64 0,ii v2,.int .i64 0,.nilslc]⟩).f 0 = some ⟨0,[4],true,[ii 0,ii 0,ii 0,.nilslc]⟩:=by simp [z2,xn0]
    have u8:(H2.set H1.next ⟨0,[5],true,[ii 3,.int .i64 0,ii v2,.int .i64 0,.nilslc]⟩).f 8 = some ⟨0,[4],true,[ii g.toNat,ii n.toNat,ii c.toNat,s]⟩:=by simp [y2,xn8]
    have u1:(H2.set H1.next ⟨0,[5],true,[ii 3,.int .i64 0,ii v2,.int .i64 0,.nilslc]⟩).f 1 = some (rdT (some r')):=by simp [w2,xne]
    have oy:∀ b,ownB (⟨3,0,v2,0,.nilslc⟩:ItA).s = some b→H1.next ≤ b:=fun b hb=>by simp [ownB] at hb
    have hh:Held (H2.set H1.next ⟨0,[5],true,[ii 3,.int .i64 0,ii v2,.int .i64 0,.nilslc]⟩) ⟨3,0,v2,0,.nilslc⟩ x:=by subst hx;exact ⟨by simp,by simp [j2],by simp [j2],by simp [j2],fun h=>absurd h (by simp),fun _=>rfl⟩
    have oz:∀ b,ownB (⟨3,0,v2,0,.nilslc⟩:ItA).s = some b→b < (H2.set H1.next ⟨0,[5],true,[ii 3,.int .i64 0,ii v2,.int .i64 0,.nilslc]⟩).next:=fun b hb=>by simp [ownB] at hb
    have hdA:HeldL (H2.set H1.next ⟨0,[5],true,[ii 3,.int .i64 0,ii v2,.int .i64 0,.nilslc]⟩) L done:=hd1.keep (by omega) (fun y hy b hb=>by have h1:=hap1 y hy b hb;rw [hA1 b h1.1 (by omega)])
    have apA:ApA (H2.set H1.next ⟨0,[5],true,[ii 3,.int .i64 0,ii v2,.int .i64 0,.nilslc]⟩) s L:=fun y hy b hb=>by have h1:=hap1 y hy b hb;exact ⟨by omega,h1.2⟩
    refine call_growR Tryz.underlying25 (by simp) (by simp) Tryz.bytes62 (by omega) len_itA gA ⟨3,0,v2,0,.nilslc⟩ (by simp [limit];omega) ?hc ?hn (fun s' h2 g' hn' hf' hos'=>?_)
    case hc=>simp [encA]
    case hn=>simp
    have e0:=hf' 0 (by omega) (fun hc=>by have:=hos _ hc;omega)
    have e1':=hf' 1 (by omega) (fun hc=>by have:=hos _ hc;omega)
    have e8:=hf' 8 (by omega) (fun hc=>by have:=hos _ hc;omega)
    rw [u0] at e0;rw [u1] at e1';rw [u8] at e8
    simp only [rdT,Option.isNone_some] at e1'
    have pk:=fun k=>put_it (k:=k) g' hdA hh apA (fun b hb=>⟨by have:=oy b hb;omega,oz b hb,fun hc=>by have h1:=owns_lt gr1.1 hc;have h2:=oy b hb;omega⟩) hn' hf' hos' hos (by omega)
    clear gA hA1 u0 u1 u8 oy oz hh hdA apA g' hf' hos'
    first | (refine hide ?_;intro Q14 hQ14) | have hQ14:=True.intro
    repeat' (first
     | (replace hQ14:=hQ14;simp [e0,e1',e8,outV,frzV,frzS,frzS_pure,frzP,pureS,pureL,K_own,hown])
     | (refine hQ14 _ _ _ ?_;clear hQ14 Q14;first | simp only [] | simp [e0,e1',e8,outV,frzV,frzS,frzS_pure,frzP,pureS,pureL,K_own,hown] | skip)
     | (refine hadQ (by assumption) ?_;(try clear hQ14);first | simp only [] | simp [e0,e1',e8,outV,frzV,frzS,frzS_pure,frzP,pureS,pureL,K_own,hown] | skip)
     | ((fail_if_success replace hQ14:=hQ14);(first | refine hide ?_ | refine hideS ?_ | refine hideB ?_);intro Q14 hQ14)
     | (first | apply cF | apply wN | apply wS) <;> intro hcnd <;> (try simp only [hcnd]) <;> (try simp [-List.isEmpty_iff,-List.isEmpty_eq_false_iff] at hcnd))
    all_goals first | omega | skip
    all_goals (refine ⟨r'.length + 1,by have hle:=hle;subst hk;simp at hle ⊢ <;> omega, ?_⟩;rw [hI];exact ⟨some r',false,done++[x],s',L++[⟨3,0,v2,0,.nilslc⟩],by simp,by simp [e0],by simp [e1'],by simp [e8],(pk _).1,(pk _).2.1,(pk _).2.2.1,.inl ⟨rfl,r',rfl,hR3⟩,by simp <;> omega,by simp <;> omega,(pk (rdT none)).2.2.2,ex_get' (by simp)⟩)
  ·obtain ⟨v2,H2,e2,w2,F2,i2⟩:=pair_any (some r) (H1.new ⟨0,[5],true,[ii 4,.int .i64 0,.int .i64 0,.int .i64 0,.nilslc]⟩) (by first | omega | (simp <;> omega)) (by simp [h1f1,xne])
   have n2:=F2.next
   try simp only [new_next,set_next] at n2
   have z2:H2.f 0 = some ⟨0,[4],true,[ii 0,ii 0,ii 0,.nilslc]⟩:=by rw [F2.f 0 (by first | omega | (simp <;> omega)) (by omega)];simp [g0,xn0,xm0]
   have y2:H2.f 8 = some ⟨0,[4],true,[ii g.toNat,ii n.toNat,ii c.toNat,s]⟩:=by rw [F2.f 8 (by first | omega | (simp <;> omega)) (by omega)];simp [g8,xn8,xm8]
   have x2:H2.f H1.next = some ⟨0,[5],true,[ii 4,.int .i64 0,.int .i64 0,.int .i64 0,.nilslc]⟩:=by rw [F2.f _ (by first | omega | (simp <;> omega)) (by omega)];simp
   have k2:∀ b,b < H1.next→b ≠ 1→H2.f b = H1.f b:=fun b hb hb1=>by rw [F2.f b (by first | omega | (simp <;> omega)) hb1];rw [new_at,if_neg (by omega)]
   have b41:((4:Int) == 1) = false:=by decide
   have b42:((4:Int) == 2) = false:=by decide
   have b43:((4:Int) == 3) = false:=by decide
   have b44:((4:Int) == 4) = true:=by decide
   have b45:((4:Int) == 5) = false:=by decide
   have b46:((4:Int) == 6) = false:=by decide
   have b47:((4:Int) == 7) = false:=by decide
   have b48:((4:Int) == 8) = false:=by decide
   cases hfin:stP (some r) with
   | none =>
    rw [hfin] at w2
    have hi:=it_bad2 (.inr (.inr rfl)) hfin
    have hR3:done = R:=by rw [em,ShellPlain.its_none (by omega) (by rw [eA];exact hi)] at hR2;simpa using hR2
    subst hR3
    simp only [rdT,bs_none,Option.isNone_none] at w2
    first | (refine hide ?_;intro Q15 hQ15) | have hQ15:=True.intro
    repeat' (first
     | (replace hQ15:=hQ15;simp [e2,x2,z2,y2,f0,f1,f8,hL,hLs,hlt,hlt2,e1,ca,g0,g8,h1f1,xne,xn0,xn8,xm1,xm0,xm8,b41,b42,b43,b44,b45,b46,b47,b48,w2,outV,frzV,frzS,frzS_pure,frzP,pureS,pureL,K_own,hown])
     | (refine hQ15 _ _ _ ?_;clear hQ15 Q15;first | simp only [] | simp [e2,x2,z2,y2,f0,f1,f8,hL,hLs,hlt,hlt2,e1,ca,g0,g8,h1f1,xne,xn0,xn8,xm1,xm0,xm8,b41,b42,b43,b44,b45,b46,b47,b48,w2,outV,frzV,frzS,frzS_pure,frzP,pureS,pureL,K_own,hown] | skip)
     | (refine hadQ (by assumption) ?_;(try clear hQ15);first | simp only [] | simp [e2,x2,z2,y2,f0,f1,f8,hL,hLs,hlt,hlt2,e1,ca,g0,g8,h1f1,xne,xn0,xn8,xm1,xm0,xm8,b41,b42,b43,b44,b45,b46,b47,b48,w2,outV,frzV,frzS,frzS_pure,frzP,pureS,pureL,K_own,hown] | skip)
     | ((fail_if_success replace hQ15:=hQ15);(first | refine hide ?_ | refine hideS ?_ | refine hideB ?_);intro Q15 hQ15)
     | (first | apply cF | apply wN | apply wS) <;> intro hcnd <;> (try simp only [hcnd]) <;> (try simp [-List.isEmpty_iff,-List.isEmpty_eq_false_iff] at hcnd))
    all_goals (refine ⟨0,by subst hk;simp, ?_⟩;rw [hI];exact ⟨none,true,done,s,L,by simp,by simp [z2,xn0],by simp [w2,xne,bs_none],by simp [y2,xn8],gr1.keep (by simp <;> omega) (fun b hb=>by have h1:=owns_lt gr1.1 hb;have h2:=hos b hb;rw [set_at,if_neg (by omega),k2 b h1 (by omega)]),hd1.keep (by simp <;> omega) (fun y hy b hb=>by have h1:=hap1 y hy b hb;rw [set_at,if_neg (by omega),k2 b h1.1 (by omega)]),fun y hy b hb=>by have h1:=hap1 y hy b hb;exact ⟨by simp <;> omega,h1.2⟩,.inr ⟨rfl,rfl,rfl⟩,hd256,by simp <;> omega,hos,ex_get' (by simp)⟩)
   | some r' =>
    rw [hfin] at w2
    simp only [rdT,Option.isNone_some] at w2
    obtain ⟨ua,ub,rfl⟩:=it_ok2 hfin
    have j2:=i2 ua ub _ rfl
    obtain ⟨x,hx⟩:∃ x:ShellPlain.It,x = ⟨4,0,ShellPlain.int2 ua ub,0,[]⟩:=⟨_,rfl⟩
    have hi:ShellPlain.item 4 (ua::ub::r') = some (x,r'):=by subst hx;simp [ShellPlain.item]
    have hR3:(done++[x])++ShellPlain.its (256 - (done++[x]).length) r' = R:=by
     rw [em,ShellPlain.its_some (by omega) (by rw [eA];exact hi)] at hR2
     rw [← hR2,List.append_assoc];congr 2;simp <;> omega
    have hle:=ShellPlain.item_le hi
    first | (refine hide ?_;intro Q16 hQ16) | have hQ16:=True.intro
    repeat' (first
     | (replace hQ16:=hQ16;simp [e2,x2,z2,y2,f0,f1,f8,hL,hLs,hlt,hlt2,e1,ca,g0,g8,h1f1,xne,xn0,xn8,xm1,xm0,xm8,b41,b42,b43,b44,b45,b46,b47,b48,w2,outV,frzV,frzS,frzS_pure,frzP,pureS,pureL,K_own,hown])
     | (refine hQ16 _ _ _ ?_;clear hQ16 Q16;first | simp only [] | simp [e2,x2,z2,y2,f0,f1,f8,hL,hLs,hlt,hlt2,e1,ca,g0,g8,h1f1,xne,xn0,xn8,xm1,xm0,xm8,b41,b42,b43,b44,b45,b46,b47,b48,w2,outV,frzV,frzS,frzS_pure,frzP,pureS,pureL,K_own,hown] | skip)
     | (refine hadQ (by assumption) ?_;(try clear hQ16);first | simp only [] | simp [e2,x2,z2,y2,f0,f1,f8,hL,hLs,hlt,hlt2,e1,ca,g0,g8,h1f1,xne,xn0,xn8,xm1,xm0,xm8,b41,b42,b43,b44,b45,b46,b47,b48,w2,outV,frzV,frzS,frzS_pure,frzP,pureS,pureL,K_own,hown] | skip)
     | ((fail_if_success replace hQ16:=hQ16);(first | refine hide ?_ | refine hideS ?_ | refine hideB ?_);intro Q16 hQ16)
     | (first | apply cF | apply wN | apply wS) <;> intro hcnd <;> (try simp only [hcnd]) <;> (try simp [-List.isEmpty_iff,-List.isEmpty_eq_false_iff] at hcnd))
    have gA:Grown (H2.set H1.next ⟨0,[5],true,[ii 4,.int .i64 0,ii v2,.int .i64 0,.nilslc]⟩) 5 encA s L:=gr1.keep (by simp <;> omega) (fun b hb=>by have h1:=owns_lt gr1.1 hb;have h2:=hos b hb;rw [set_at,if_neg (by omega),k2 b h1 (by omega)])
    have hA1:∀ b,b < H1.next→b ≠ 1→(H2.set H1.next ⟨0,[5],true,[ii 4,.int .i64 0,ii v2,.int .i64 0,.nilslc]⟩).f b = H1.f b:=fun b hb hb1=>by rw [set_at,if_neg (by omega),k2 b hb hb1]
    have nA:H1.next + 1 ≤ (H2.set H1.next ⟨0,[5],true,[ii 4,.int .i64 0,ii v2,.int .i64 0,.nilslc]⟩).next:=by simp <;> omega
    have u0:(H2.set H1.next ⟨0,[5],true,[ii 4,.int .i64 0,ii v2,.int .i64 0,.nilslc]⟩).f 0 = some ⟨0,[4],true,[ii 0,ii 0,ii 0,.nilslc]⟩:=by simp [z2,xn0]
    have u8:(H2.set H1.next ⟨0,[5],true,[ii 4,.int .i64 0,ii v2,.int .i64 0,.nilslc]⟩).f 8 = some ⟨0,[4],true,[ii g.toNat,ii n.toNat,ii c.toNat,s]⟩:=by simp [y2,xn8]
    have u1:(H2.set H1.next ⟨0,[5],true,[ii 4,.int .i64 0,ii v2,.int .i64 0,.nilslc]⟩).f 1 = some (rdT (some r')):=by simp [w2,xne]
    have oy:∀ b,ownB (⟨4,0,v2,0,.nilslc⟩:ItA).s = some b→H1.next ≤ b:=fun b hb=>by simp [ownB] at hb
    have hh:Held (H2.set H1.next ⟨0,[5],true,[ii 4,.int .i64 0,ii v2,.int .i64 0,.nilslc]⟩) ⟨4,0,v2,0,.nilslc⟩ x:=by subst hx;exact ⟨by simp,by simp [j2],by simp [j2],by simp [j2],fun h=>absurd h (by simp),fun _=>rfl⟩
    have oz:∀ b,ownB (⟨4,0,v2,0,.nilslc⟩:ItA).s = some b→b < (H2.set H1.next ⟨0,[5],true,[ii 4,.int .i64 0,ii v2,.int .i64 0,.nilslc]⟩).next:=fun b hb=>by simp [ownB] at hb
    have hdA:HeldL (H2.set H1.next ⟨0,[5],true,[ii 4,.int .i64 0,ii v2,.int .i64 0,.nilslc]⟩) L done:=hd1.keep (by omega) (fun y hy b hb=>by have h1:=hap1 y hy b hb;rw [hA1 b h1.1 (by omega)])
    have apA:ApA (H2.set H1.next ⟨0,[5],true,[ii 4,.int .i64 0,ii v2,.int .i64 0,.nilslc]⟩) s L:=fun y hy b hb=>by have h1:=hap1 y hy b hb;exact ⟨by omega,h1.2⟩
    refine call_growR Tryz.underlying25 (by simp) (by simp) Tryz.bytes62 (by omega) len_itA gA ⟨4,0,v2,0,.nilslc⟩ (by simp [limit];omega) ?hc ?hn (fun s' h2 g' hn' hf' hos'=>?_)
    case hc=>simp [encA]
    case hn=>simp
    have e0:=hf' 0 (by omega) (fun hc=>by have:=hos _ hc;omega)
    have e1':=hf' 1 (by omega) (fun hc=>by have:=hos _ hc;omega)
    have e8:=hf' 8 (by omega) (fun hc=>by have:=hos _ hc;omega)
    rw [u0] at e0;rw [u1] at e1';rw [u8] at e8
    simp only [rdT,Option.isNone_some] at e1'
    have pk:=fun k=>put_it (k:=k) g' hdA hh apA (fun b hb=>⟨by have:=oy b hb;omega,oz b hb,fun hc=>by have h1:=owns_lt gr1.1 hc;have h2:=oy b hb;omega⟩) hn' hf' hos' hos (by omega)
    clear gA hA1 u0 u1 u8 oy oz hh hdA apA g' hf' hos'
    first | (refine hide ?_;intro Q17 hQ17) | have hQ17:=True.intro
    repeat' (first
     | (replace hQ17:=hQ17;simp [e0,e1',e8,outV,frzV,frzS,frzS_pure,frzP,pureS,pureL,K_own,hown])
     | (refine hQ17 _ _ _ ?_;clear hQ17 Q17;first | simp only [] | simp [e0,e1',e8,outV,frzV,frzS,frzS_pure,frzP,pureS,pureL,K_own,hown] | skip)
     | (refine hadQ (by assumption) ?_;(try clear hQ17);first | simp only [] | simp [e0,e1',e8,outV,frzV,frzS,frzS_pure,frzP,pureS,pureL,K_own,hown] | skip)
     | ((fail_if_success replace hQ17:=hQ17);(first | refine hide ?_ | refine hideS ?_ | refine hideB ?_);intro Q17 hQ17)
     | (first | apply cF | apply wN | apply wS) <;> intro hcnd <;> (try simp only [hcnd]) <;> (try simp [-List.isEmpty_iff,-List.isEmpty_eq_false_iff] at hcnd))
    all_goals first | omega | skip
    all_goals (refine ⟨r'.length + 1,by have hle:=hle;subst hk;simp at hle ⊢ <;> omega, ?_⟩;rw [hI];exact ⟨some r',false,done++[x],s',L++[⟨4,0,v2,0,.nilslc⟩],by simp,by simp [e0],by simp [e1'],by simp [e8],(pk _).1,(pk _).2.1,(pk _).2.2.1,.inl ⟨rfl,r',rfl,hR3⟩,by simp <;> omega,by simp <;> omega,(pk (rdT none)).2.2.2,ex_get' (by simp)⟩)
  ·obtain ⟨v2,H2,e2,w2,F2,i2⟩:=byte_any (some r) (H1.new ⟨0,[5],true,[ii 5,.int .i64 0,.int .i64 0,.int .i64 0,.nilslc]⟩) (by first | omega | (simp <;> omega)) (by simp [h1f1,xne])
   have n2:=F2.next
   try simp only [new_next,set_next] at n2
   have z2:H2.f 0 = some ⟨0,[4],true,[ii 0,ii 0,ii 0,.nilslc]⟩:=by rw [F2.f 0 (by first | omega | (simp <;> omega)) (by omega)];simp [g0,xn0,xm0]
   have y2:H2.f 8 = some ⟨0,[4],true,[ii g.toNat,ii n.toNat,ii c.toNat,s]⟩:=by rw [F2.f 8 (by first | omega | (simp <;> omega)) (by omega)];simp [g8,xn8,xm8]
   have x2:H2.f H1.next = some ⟨0,[5],true,[ii 5,.int .i64 0,.int .i64 0,.int .i64 0,.nilslc]⟩:=by rw [F2.f _ (by first | omega | (simp <;> omega)) (by omega)];simp
   have k2:∀ b,b < H1.next→b ≠ 1→H2.f b = H1.f b:=fun b hb hb1=>by rw [F2.f b (by first | omega | (simp <;> omega)) hb1];rw [new_at,if_neg (by omega)]
   have c2:=cv8 v2
   obtain ⟨v3,H3,e3,w3,F3,i3⟩:=pair_any (stB (some r)) (H2.set H1.next ⟨0,[5],true,[ii 5,ii v2.toNat,.int .i64 0,.int .i64 0,.nilslc]⟩) (by first | omega | (simp <;> omega)) (by simp [w2,xne,x2])
   have n3:=F3.next
   try simp only [new_next,set_next] at n3
   have z3:H3.f 0 = some ⟨0,[4],true,[ii 0,ii 0,ii 0,.nilslc]⟩:=by rw [F3.f 0 (by first | omega | (simp <;> omega)) (by omega)];simp [z2,xn0,xm0]
   have y3:H3.f 8 = some ⟨0,[4],true,[ii g.toNat,ii n.toNat,ii c.toNat,s]⟩:=by rw [F3.f 8 (by first | omega | (simp <;> omega)) (by omega)];simp [y2,xn8,xm8]
   have x3:H3.f H1.next = some ⟨0,[5],true,[ii 5,ii v2.toNat,.int .i64 0,.int .i64 0,.nilslc]⟩:=by rw [F3.f _ (by first | omega | (simp <;> omega)) (by omega)];simp [x2]
   have k3:∀ b,b < H1.next→b ≠ 1→H3.f b = H1.f b:=fun b hb hb1=>by rw [F3.f b (by first | omega | (simp <;> omega)) hb1];rw [set_at,if_neg (by omega),k2 b hb hb1]
   have b51:((5:Int) == 1) = false:=by decide
   have b52:((5:Int) == 2) = false:=by decide
   have b53:((5:Int) == 3) = false:=by decide
   have b54:((5:Int) == 4) = false:=by decide
   have b55:((5:Int) == 5) = true:=by decide
   have b56:((5:Int) == 6) = false:=by decide
   have b57:((5:Int) == 7) = false:=by decide
   have b58:((5:Int) == 8) = false:=by decide
   cases hfin:stP (stB (some r)) with
   | none =>
    rw [hfin] at w3
    have hi:=it_bad5 hfin
    have hR3:done = R:=by rw [em,ShellPlain.its_none (by omega) (by rw [eA];exact hi)] at hR2;simpa using hR2
    subst hR3
    simp only [rdT,bs_none,Option.isNone_none] at w3
    first | (refine hide ?_;intro Q18 hQ18) | have hQ18:=True.intro
    repeat' (first
     | (replace hQ18:=hQ18;simp [c2,e2,x2,z2,y2,e3,x3,z3,y3,f0,f1,f8,hL,hLs,hlt,hlt2,e1,ca,g0,g8,h1f1,xne,xn0,xn8,xm1,xm0,xm8,b51,b52,b53,b54,b55,b56,b57,b58,w3,outV,frzV,frzS,frzS_pure,frzP,pureS,pureL,K_own,hown])
     | (refine hQ18 _ _ _ ?_;clear hQ18 Q18;first | simp only [] | simp [c2,e2,x2,z2,y2,e3,x3,z3,y3,f0,f1,f8,hL,hLs,hlt,hlt2,e1,ca,g0,g8,h1f1,xne,xn0,xn8,xm1,xm0,xm8,b51,b52,b53,b54,b55,b56,b57,b58,w3,outV,frzV,frzS,frzS_pure,frzP,pureS,pureL,K_own,hown] | skip)
     | (refine hadQ (by assumption) ?_;(try clear hQ18);first | simp only [] | simp [c2,e2,x2,z2,y2,e3,x3,z3,y3,f0,f1,f8,hL,hLs,hlt,hlt2,e1,ca,g0,g8,h1f1,xne,xn0,xn8,xm1,xm0,xm8,b51,b52,b53,b54,b55,b56,b57,b58,w3,outV,frzV,frzS,frzS_pure,frzP,pureS,pureL,K_own,hown] | skip)
     | ((fail_if_success replace hQ18:=hQ18);(first | refine hide ?_ | refine hideS ?_ | refine hideB ?_);intro Q18 hQ18)
     | (first | apply cF | apply wN | apply wS) <;> intro hcnd <;> (try simp only [hcnd]) <;> (try simp [-List.isEmpty_iff,-List.isEmpty_eq_false_iff] at hcnd))
    all_goals (refine ⟨0,by subst hk;simp, ?_⟩;rw [hI];exact ⟨none,true,done,s,L,by simp,by simp [z3,xn0],by simp [w3,xne,bs_none],by simp [y3,xn8],gr1.keep (by simp <;> omega) (fun b hb=>by have h1:=owns_lt gr1.1 hb;have h2:=hos b hb;rw [set_at,if_neg (by omega),k3 b h1 (by omega)]),hd1.keep (by simp <;> omega) (fun y hy b hb=>by have h1:=hap1 y hy b hb;rw [set_at,if_neg (by omega),k3 b h1.1 (by omega)]),fun y hy b hb=>by have h1:=hap1 y hy b hb;exact ⟨by simp <;> omega,h1.2⟩,.inr ⟨rfl,rfl,rfl⟩,hd256,by simp <;> omega,hos,ex_get' (by simp)⟩)
   | some r' =>
    rw [hfin] at w3
    simp only [rdT,Option.isNone_some] at w3
    obtain ⟨ug,ua,ub,rfl⟩:=it_ok5 hfin
    have j2:=i2 ug _ rfl
    have j3:=i3 ua ub _ rfl
    obtain ⟨x,hx⟩:∃ x:ShellPlain.It,x = ⟨5,ug.toNat,ShellPlain.int2 ua ub,0,[]⟩:=⟨_,rfl⟩
    have hi:ShellPlain.item 5 (ug::ua::ub::r') = some (x,r'):=by subst hx;simp [ShellPlain.item]
    have hR3:(done++[x])++ShellPlain.its (256 - (done++[x]).length) r' = R:=by
     rw [em,ShellPlain.its_some (by omega) (by rw [eA];exact hi)] at hR2
     rw [← hR2,List.append_assoc];congr 2;simp <;> omega
    have hle:=ShellPlain.item_le hi
    first | (refine hide ?_;intro Q19 hQ19) | have hQ19:=True.intro
    repeat' (first
     | (replace hQ19:=hQ19;simp [c2,e2,x2,z2,y2,e3,x3,z3,y3,f0,f1,f8,hL,hLs,hlt,hlt2,e1,ca,g0,g8,h1f1,xne,xn0,xn8,xm1,xm0,xm8,b51,b52,b53,b54,b55,b56,b57,b58,w3,outV,frzV,frzS,frzS_pure,frzP,pureS,pureL,K_own,hown])
     | (refine hQ19 _ _ _ ?_;clear hQ19 Q19;first | simp only [] | simp [c2,e2,x2,z2,y2,e3,x3,z3,y3,f0,f1,f8,hL,hLs,hlt,hlt2,e1,ca,g0,g8,h1f1,xne,xn0,xn8,xm1,xm0,xm8,b51,b52,b53,b54,b55,b56,b57,b58,w3,outV,frzV,frzS,frzS_pure,frzP,pureS,pureL,K_own,hown] | skip)
     | (refine hadQ (by assumption) ?_;(try clear hQ19);first | simp only [] | simp [c2,e2,x2,z2,y2,e3,x3,z3,y3,f0,f1,f8,hL,hLs,hlt,hlt2,e1,ca,g0,g8,h1f1,xne,xn0,xn8,xm1,xm0,xm8,b51,b52,b53,b54,b55,b56,b57,b58,w3,outV,frzV,frzS,frzS_pure,frzP,pureS,pureL,K_own,hown] | skip)
     | ((fail_if_success replace hQ19:=hQ19);(first | refine hide ?_ | refine hideS ?_ | refine hideB ?_);intro Q19 hQ19)
     | (first | apply cF | apply wN | apply wS) <;> intro hcnd <;> (try simp only [hcnd]) <;> (try simp [-List.isEmpty_iff,-List.isEmpty_eq_false_iff] at hcnd))
    have gA:Grown (H3.set H1.next ⟨0,[5],true,[ii 5,ii v2.toNat,ii v3,.int .i64 0,.nilslc]⟩) 5 encA s L:=gr1.keep (by simp <;> omega) (fun b hb=>by have h1:=owns_lt gr1.1 hb;have h2:=hos b hb;rw [set_at,if_neg (by omega),k3 b h1 (by omega)])
    have hA1:∀ b,b < H1.next→b ≠ 1→(H3.set H1.next ⟨0,[5],true,[ii 5,ii v2.toNat,ii v3,.int .i64 0,.nilslc]⟩).f b = H1.f b:=fun b hb hb1=>by rw [set_at,if_neg (by omega),k3 b hb hb1]
    have nA:H1.next + 1 ≤ (H3.set H1.next ⟨0,[5],true,[ii 5,ii v2.toNat,ii v3,.int .i64 0,.nilslc]⟩).next:=by simp <;> omega
    have u0:(H3.set H1.next ⟨0,[5],true,[ii 5,ii v2.toNat,ii v3,.int .i64 0,.nilslc]⟩).f 0 = some ⟨0,[4],true,[ii 0,ii 0,ii 0,.nilslc]⟩:=by simp [z3,xn0]
    have u8:(H3.set H1.next ⟨0,[5],true,[ii 5,ii v2.toNat,ii v3,.int .i64 0,.nilslc]⟩).f 8 = some ⟨0,[4],true,[ii g.toNat,ii n.toNat,ii c.toNat,s]⟩:=by simp [y3,xn8]
    have u1:(H3.set H1.next ⟨0,[5],true,[ii 5,ii v2.toNat,ii v3,.int .i64 0,.nilslc]⟩).f 1 = some (rdT (some r')):=by simp [w3,xne]
    have oy:∀ b,ownB (⟨5,v2.toNat,v3,0,.nilslc⟩:ItA).s = some b→H1.next ≤ b:=fun b hb=>by simp [ownB] at hb
    have hh:Held (H3.set H1.next ⟨0,[5],true,[ii 5,ii v2.toNat,ii v3,.int .i64 0,.nilslc]⟩) ⟨5,v2.toNat,v3,0,.nilslc⟩ x:=by subst hx;exact ⟨by simp,by simp [j2,j3],by simp [j2,j3],by simp [j2,j3],fun h=>absurd h (by simp),fun _=>rfl⟩
    have oz:∀ b,ownB (⟨5,v2.toNat,v3,0,.nilslc⟩:ItA).s = some b→b < (H3.set H1.next ⟨0,[5],true,[ii 5,ii v2.toNat,ii v3,.int .i64 0,.nilslc]⟩).next:=fun b hb=>by simp [ownB] at hb
    have hdA:HeldL (H3.set H1.next ⟨0,[5],true,[ii 5,ii v2.toNat,ii v3,.int .i64 0,.nilslc]⟩) L done:=hd1.keep (by omega) (fun y hy b hb=>by have h1:=hap1 y hy b hb;rw [hA1 b h1.1 (by omega)])
    have apA:ApA (H3.set H1.next ⟨0,[5],true,[ii 5,ii v2.toNat,ii v3,.int .i64 0,.nilslc]⟩) s L:=fun y hy b hb=>by have h1:=hap1 y hy b hb;exact ⟨by omega,h1.2⟩
    refine call_growR Tryz.underlying25 (by simp) (by simp) Tryz.bytes62 (by omega) len_itA gA ⟨5,v2.toNat,v3,0,.nilslc⟩ (by simp [limit];omega) ?hc ?hn (fun s' h2 g' hn' hf' hos'=>?_)
    case hc=>simp [encA]
    case hn=>simp
    have e0:=hf' 0 (by omega) (fun hc=>by have:=hos _ hc;omega)
    have e1':=hf' 1 (by omega) (fun hc=>by have:=hos _ hc;omega)
    have e8:=hf' 8 (by omega) (fun hc=>by have:=hos _ hc;omega)
    rw [u0] at e0;rw [u1] at e1';rw [u8] at e8
    simp only [rdT,Option.isNone_some] at e1'
    have pk:=fun k=>put_it (k:=k) g' hdA hh apA (fun b hb=>⟨by have:=oy b hb;omega,oz b hb,fun hc=>by have h1:=owns_lt gr1.1 hc;have h2:=oy b hb;omega⟩) hn' hf' hos' hos (by omega)
    clear gA hA1 u0 u1 u8 oy oz hh hdA apA g' hf' hos'
    first | (refine hide ?_;intro Q20 hQ20) | have hQ20:=True.intro
    repeat' (first
     | (replace hQ20:=hQ20;simp [e0,e1',e8,outV,frzV,frzS,frzS_pure,frzP,pureS,pureL,K_own,hown])
     | (refine hQ20 _ _ _ ?_;clear hQ20 Q20;first | simp only [] | simp [e0,e1',e8,outV,frzV,frzS,frzS_pure,frzP,pureS,pureL,K_own,hown] | skip)
     | (refine hadQ (by assumption) ?_;(try clear hQ20);first | simp only [] | simp [e0,e1',e8,outV,frzV,frzS,frzS_pure,frzP,pureS,pureL,K_own,hown] | skip)
     | ((fail_if_success replace hQ20:=hQ20);(first | refine hide ?_ | refine hideS ?_ | refine hideB ?_);intro Q20 hQ20)
     | (first | apply cF | apply wN | apply wS) <;> intro hcnd <;> (try simp only [hcnd]) <;> (try simp [-List.isEmpty_iff,-List.isEmpty_eq_false_iff] at hcnd))
    all_goals first | omega | skip
    all_goals (refine ⟨r'.length + 1,by have hle:=hle;subst hk;simp at hle ⊢ <;> omega, ?_⟩;rw [hI];exact ⟨some r',false,done++[x],s',L++[⟨5,v2.toNat,v3,0,.nilslc⟩],by simp,by simp [e0],by simp [e1'],by simp [e8],(pk _).1,(pk _).2.1,(pk _).2.2.1,.inl ⟨rfl,r',rfl,hR3⟩,by simp <;> omega,by simp <;> omega,(pk (rdT none)).2.2.2,ex_get' (by simp)⟩)
  ·obtain ⟨v2,H2,e2,w2,F2,i2⟩:=byte_any (some r) (H1.new ⟨0,[5],true,[ii 6,.int .i64 0,.int .i64 0,.int .i64 0,.nilslc]⟩) (by first | omega | (simp <;> omega)) (by simp [h1f1,xne])
   have n2:=F2.next
   try simp only [new_next,set_next] at n2
   have z2:H2.f 0 = some ⟨0,[4],true,[ii 0,ii 0,ii 0,.nilslc]⟩:=by rw [F2.f 0 (by first | omega | (simp <;> omega)) (by omega)];simp [g0,xn0,xm0]
   have y2:H2.f 8 = some ⟨0,[4],true,[ii g.toNat,ii n.toNat,ii c.toNat,s]⟩:=by rw [F2.f 8 (by first | omega | (simp <;> omega)) (by omega)];simp [g8,xn8,xm8]
   have x2:H2.f H1.next = some ⟨0,[5],true,[ii 6,.int .i64 0,.int .i64 0,.int .i64 0,.nilslc]⟩:=by rw [F2.f _ (by first | omega | (simp <;> omega)) (by omega)];simp
   have k2:∀ b,b < H1.next→b ≠ 1→H2.f b = H1.f b:=fun b hb hb1=>by rw [F2.f b (by first | omega | (simp <;> omega)) hb1];rw [new_at,if_neg (by omega)]
   have c2:=cv8 v2
   obtain ⟨v3,H3,e3,w3,F3,o3,i3⟩:=some_any (stB (some r)) (H2.set H1.next ⟨0,[5],true,[ii 6,.int .i64 0,.int .i64 0,ii v2.toNat,.nilslc]⟩) (by first | omega | (simp <;> omega)) (by simp [w2,xne,x2])
   have n3:=F3.next
   try simp only [new_next,set_next] at n3
   have z3:H3.f 0 = some ⟨0,[4],true,[ii 0,ii 0,ii 0,.nilslc]⟩:=by rw [F3.f 0 (by first | omega | (simp <;> omega)) (by omega)];simp [z2,xn0,xm0]
   have y3:H3.f 8 = some ⟨0,[4],true,[ii g.toNat,ii n.toNat,ii c.toNat,s]⟩:=by rw [F3.f 8 (by first | omega | (simp <;> omega)) (by omega)];simp [y2,xn8,xm8]
   have x3:H3.f H1.next = some ⟨0,[5],true,[ii 6,.int .i64 0,.int .i64 0,ii v2.toNat,.nilslc]⟩:=by rw [F3.f _ (by first | omega | (simp <;> omega)) (by omega)];simp [x2]
   have k3:∀ b,b < H1.next→b ≠ 1→H3.f b = H1.f b:=fun b hb hb1=>by rw [F3.f b (by first | omega | (simp <;> omega)) hb1];rw [set_at,if_neg (by omega),k2 b hb hb1]
   have b61:((6:Int) == 1) = false:=by decide
   have b62:((6:Int) == 2) = false:=by decide
   have b63:((6:Int) == 3) = false:=by decide
   have b64:((6:Int) == 4) = false:=by decide
   have b65:((6:Int) == 5) = false:=by decide
   have b66:((6:Int) == 6) = true:=by decide
   have b67:((6:Int) == 7) = false:=by decide
   have b68:((6:Int) == 8) = false:=by decide
   cases hfin:stS (stB (some r)) with
   | none =>
    rw [hfin] at w3
    have hi:=it_bad6 hfin
    have hR3:done = R:=by rw [em,ShellPlain.its_none (by omega) (by rw [eA];exact hi)] at hR2;simpa using hR2
    subst hR3
    simp only [rdT,bs_none,Option.isNone_none] at w3
    first | (refine hide ?_;intro Q21 hQ21) | have hQ21:=True.intro
    repeat' (first
     | (replace hQ21:=hQ21;simp [c2,e2,x2,z2,y2,e3,x3,z3,y3,f0,f1,f8,hL,hLs,hlt,hlt2,e1,ca,g0,g8,h1f1,xne,xn0,xn8,xm1,xm0,xm8,b61,b62,b63,b64,b65,b66,b67,b68,w3,outV,frzV,frzS,frzS_pure,frzP,pureS,pureL,K_own,hown])
     | (refine hQ21 _ _ _ ?_;clear hQ21 Q21;first | simp only [] | simp [c2,e2,x2,z2,y2,e3,x3,z3,y3,f0,f1,f8,hL,hLs,hlt,hlt2,e1,ca,g0,g8,h1f1,xne,xn0,xn8,xm1,xm0,xm8,b61,b62,b63,b64,b65,b66,b67,b68,w3,outV,frzV,frzS,frzS_pure,frzP,pureS,pureL,K_own,hown] | skip)
     | (refine hadQ (by assumption) ?_;(try clear hQ21);first | simp only [] | simp [c2,e2,x2,z2,y2,e3,x3,z3,y3,f0,f1,f8,hL,hLs,hlt,hlt2,e1,ca,g0,g8,h1f1,xne,xn0,xn8,xm1,xm0,xm8,b61,b62,b63,b64,b65,b66,b67,b68,w3,outV,frzV,frzS,frzS_pure,frzP,pureS,pureL,K_own,hown] | skip)
     | ((fail_if_success replace hQ21:=hQ21);(first | refine hide ?_ | refine hideS ?_ | refine hideB ?_);intro Q21 hQ21)
     | (first | apply cF | apply wN | apply wS) <;> intro hcnd <;> (try simp only [hcnd]) <;> (try simp [-List.isEmpty_iff,-List.isEmpty_eq_false_iff] at hcnd))
    all_goals (refine ⟨0,by subst hk;simp, ?_⟩;rw [hI];exact ⟨none,true,done,s,L,by simp,by simp [z3,xn0],by simp [w3,xne,bs_none],by simp [y3,xn8],gr1.keep (by simp <;> omega) (fun b hb=>by have h1:=owns_lt gr1.1 hb;have h2:=hos b hb;rw [set_at,if_neg (by omega),k3 b h1 (by omega)]),hd1.keep (by simp <;> omega) (fun y hy b hb=>by have h1:=hap1 y hy b hb;rw [set_at,if_neg (by omega),k3 b h1.1 (by omega)]),fun y hy b hb=>by have h1:=hap1 y hy b hb;exact ⟨by simp <;> omega,h1.2⟩,.inr ⟨rfl,rfl,rfl⟩,hd256,by simp <;> omega,hos,ex_get' (by simp)⟩)
   | some r' =>
    rw [hfin] at w3
    simp only [rdT,Option.isNone_some] at w3
    obtain ⟨uc,ua,ub,uq,rfl,hm,rfl⟩:=it_ok6 hfin
    have j2:=i2 uc _ rfl
    have j3:=i3 ua ub _ rfl hm
    obtain ⟨x,hx⟩:∃ x:ShellPlain.It,x = ⟨6,0,0,uc.toNat,uq.take (ua.toNat * 256 + ub.toNat)⟩:=⟨_,rfl⟩
    have hi:ShellPlain.item 6 (uc::ua::ub::uq) = some (x,(uq.drop (ua.toNat * 256 + ub.toNat))):=by subst hx;simp [ShellPlain.item,hm]
    have hR3:(done++[x])++ShellPlain.its (256 - (done++[x]).length) (uq.drop (ua.toNat * 256 + ub.toNat)) = R:=by
     rw [em,ShellPlain.its_some (by omega) (by rw [eA];exact hi)] at hR2
     rw [← hR2,List.append_assoc];congr 2;simp <;> omega
    have hle:=ShellPlain.item_le hi
    first | (refine hide ?_;intro Q22 hQ22) | have hQ22:=True.intro
    repeat' (first
     | (replace hQ22:=hQ22;simp [c2,e2,x2,z2,y2,e3,x3,z3,y3,f0,f1,f8,hL,hLs,hlt,hlt2,e1,ca,g0,g8,h1f1,xne,xn0,xn8,xm1,xm0,xm8,b61,b62,b63,b64,b65,b66,b67,b68,w3,outV,frzV,frzS,frzS_pure,frzP,pureS,pureL,K_own,hown])
     | (refine hQ22 _ _ _ ?_;clear hQ22 Q22;first | simp only [] | simp [c2,e2,x2,z2,y2,e3,x3,z3,y3,f0,f1,f8,hL,hLs,hlt,hlt2,e1,ca,g0,g8,h1f1,xne,xn0,xn8,xm1,xm0,xm8,b61,b62,b63,b64,b65,b66,b67,b68,w3,outV,frzV,frzS,frzS_pure,frzP,pureS,pureL,K_own,hown] | skip)
     | (refine hadQ (by assumption) ?_;(try clear hQ22);first | simp only [] | simp [c2,e2,x2,z2,y2,e3,x3,z3,y3,f0,f1,f8,hL,hLs,hlt,hlt2,e1,ca,g0,g8,h1f1,xne,xn0,xn8,xm1,xm0,xm8,b61,b62,b63,b64,b65,b66,b67,b68,w3,outV,frzV,frzS,frzS_pure,frzP,pureS,pureL,K_own,hown] | skip)
     | ((fail_if_success replace hQ22:=hQ22);(first | refine hide ?_ | refine hideS ?_ | refine hideB ?_);intro Q22 hQ22)
     | (first | apply cF | apply wN | apply wS) <;> intro hcnd <;> (try simp only [hcnd]) <;> (try simp [-List.isEmpty_iff,-List.isEmpty_eq_false_iff] at hcnd))
    have gA:Grown (H3.set H1.next ⟨0,[5],true,[ii 6,.int .i64 0,.int .i64 0,ii v2.toNat,v3]⟩) 5 encA s L:=gr1.keep (by simp <;> omega) (fun b hb=>by have h1:=owns_lt gr1.1 hb;have h2:=hos b hb;rw [set_at,if_neg (by omega),k3 b h1 (by omega)])
    have hA1:∀ b,b < H1.next→b ≠ 1→(H3.set H1.next ⟨0,[5],true,[ii 6,.int .i64 0,.int .i64 0,ii v2.toNat,v3]⟩).f b = H1.f b:=fun b hb hb1=>by rw [set_at,if_neg (by omega),k3 b hb hb1]
    have nA:H1.next + 1 ≤ (H3.set H1.next ⟨0,[5],true,[ii 6,.int .i64 0,.int .i64 0,ii v2.toNat,v3]⟩).next:=by simp <;> omega
    have u0:(H3.set H1.next ⟨0,[5],true,[ii 6,.int .i64 0,.int .i64 0,ii v2.toNat,v3]⟩).f 0 = some ⟨0,[4],true,[ii 0,ii 0,ii 0,.nilslc]⟩:=by simp [z3,xn0]
    have u8:(H3.set H1.next ⟨0,[5],true,[ii 6,.int .i64 0,.int .i64 0,ii v2.toNat,v3]⟩).f 8 = some ⟨0,[4],true,[ii g.toNat,ii n.toNat,ii c.toNat,s]⟩:=by simp [y3,xn8]
    have u1:(H3.set H1.next ⟨0,[5],true,[ii 6,.int .i64 0,.int .i64 0,ii v2.toNat,v3]⟩).f 1 = some (rdT (some (uq.drop (ua.toNat * 256 + ub.toNat)))):=by simp [w3,xne]
    have oy:∀ b,ownB (⟨6,0,0,v2.toNat,v3⟩:ItA).s = some b→H1.next ≤ b:=fun b hb=>by have:=o3 b hb;simp at this;omega
    have hb2:Held H3 ⟨6,0,0,v2.toNat,v3⟩ x:=by subst hx;exact ⟨by simp,by simp,by simp,by simp [j2],fun _=>j3,fun h=>absurd h (by simp)⟩
    have oz:∀ b,ownB (⟨6,0,0,v2.toNat,v3⟩:ItA).s = some b→b < (H3.set H1.next ⟨0,[5],true,[ii 6,.int .i64 0,.int .i64 0,ii v2.toNat,v3]⟩).next:=fun b hb=>by have:=owns_lt j3.1 hb;simpa using this
    have hh:Held (H3.set H1.next ⟨0,[5],true,[ii 6,.int .i64 0,.int .i64 0,ii v2.toNat,v3]⟩) ⟨6,0,0,v2.toNat,v3⟩ x:=hb2.keep (by simp) (fun b hb=>by have h1:=o3 b hb;simp only [set_next,new_next] at h1;rw [set_at,if_neg (by omega)])
    have hdA:HeldL (H3.set H1.next ⟨0,[5],true,[ii 6,.int .i64 0,.int .i64 0,ii v2.toNat,v3]⟩) L done:=hd1.keep (by omega) (fun y hy b hb=>by have h1:=hap1 y hy b hb;rw [hA1 b h1.1 (by omega)])
    have apA:ApA (H3.set H1.next ⟨0,[5],true,[ii 6,.int .i64 0,.int .i64 0,ii v2.toNat,v3]⟩) s L:=fun y hy b hb=>by have h1:=hap1 y hy b hb;exact ⟨by omega,h1.2⟩
    refine call_growR Tryz.underlying25 (by simp) (by simp) Tryz.bytes62 (by omega) len_itA gA ⟨6,0,0,v2.toNat,v3⟩ (by simp [limit];omega) ?hc ?hn (fun s' h2 g' hn' hf' hos'=>?_)
    case hc=>simp [encA]
    case hn=>simp
    have e0:=hf' 0 (by omega) (fun hc=>by have:=hos _ hc;omega)
    have e1':=hf' 1 (by omega) (fun hc=>by have:=hos _ hc;omega)
    have e8:=hf' 8 (by omega) (fun hc=>by have:=hos _ hc;omega)
    rw [u0] at e0;rw [u1] at e1';rw [u8] at e8
    simp only [rdT,Option.isNone_some] at e1'
    have pk:=fun k=>put_it (k:=k) g' hdA hh apA (fun b hb=>⟨by have:=oy b hb;omega,oz b hb,fun hc=>by have h1:=owns_lt gr1.1 hc;have h2:=oy b hb;omega⟩) hn' hf' hos' hos (by omega)
    clear gA hA1 u0 u1 u8 oy oz hh hdA apA g' hf' hos'
    first | (refine hide ?_;intro Q23 hQ23) | have hQ23:=True.intro
    repeat' (first
     | (replace hQ23:=hQ23;simp [e0,e1',e8,outV,frzV,frzS,frzS_pure,frzP,pureS,pureL,K_own,hown])
     | (refine hQ23 _ _ _ ?_;clear hQ23 Q23;first | simp only [] | simp [e0,e1',e8,outV,frzV,frzS,frzS_pure,frzP,pureS,pureL,K_own,hown] | skip)
     | (refine hadQ (by assumption) ?_;(try clear hQ23);first | simp only [] | simp [e0,e1',e8,outV,frzV,frzS,frzS_pure,frzP,pureS,pureL,K_own,hown] | skip)
     | ((fail_if_success replace hQ23:=hQ23);(first | refine hide ?_ | refine hideS ?_ | refine hideB ?_);intro Q23 hQ23)
     | (first | apply cF | apply wN | apply wS) <;> intro hcnd <;> (try simp only [hcnd]) <;> (try simp [-List.isEmpty_iff,-List.isEmpty_eq_false_iff] at hcnd))
    all_goals first | omega | skip
    all_goals (refine ⟨(uq.drop (ua.toNat * 256 + ub.toNat)).length + 1,by have hle:=hle;subst hk;simp at hle ⊢ <;> omega, ?_⟩;rw [hI];exact ⟨some (uq.drop (ua.toNat * 256 + ub.toNat)),false,done++[x],s',L++[⟨6,0,0,v2.toNat,v3⟩],by simp,by simp [e0],by simp [e1'],by simp [e8],(pk _).1,(pk _).2.1,(pk _).2.2.1,.inl ⟨rfl,(uq.drop (ua.toNat * 256 + ub.toNat)),rfl,hR3⟩,by simp <;> omega,by simp <;> omega,(pk (rdT none)).2.2.2,ex_get' (by simp)⟩)
  ·obtain ⟨v2,H2,e2,w2,F2,o2,i2⟩:=some_any (some r) (H1.new ⟨0,[5],true,[ii 7,.int .i64 0,.int .i64 0,.int .i64 0,.nilslc]⟩) (by first | omega | (simp <;> omega)) (by simp [h1f1,xne])
   have n2:=F2.next
   try simp only [new_next,set_next] at n2
   have z2:H2.f 0 = some ⟨0,[4],true,[ii 0,ii 0,ii 0,.nilslc]⟩:=by rw [F2.f 0 (by first | omega | (simp <;> omega)) (by omega)];simp [g0,xn0,xm0]
   have y2:H2.f 8 = some ⟨0,[4],true,[ii g.toNat,ii n.toNat,ii c.toNat,s]⟩:=by rw [F2.f 8 (by first | omega | (simp <;> omega)) (by omega)];simp [g8,xn8,xm8]
   have x2:H2.f H1.next = some ⟨0,[5],true,[ii 7,.int .i64 0,.int .i64 0,.int .i64 0,.nilslc]⟩:=by rw [F2.f _ (by first | omega | (simp <;> omega)) (by omega)];simp
   have k2:∀ b,b < H1.next→b ≠ 1→H2.f b = H1.f b:=fun b hb hb1=>by rw [F2.f b (by first | omega | (simp <;> omega)) hb1];rw [new_at,if_neg (by omega)]
   have b71:((7:Int) == 1) = false:=by decide
   have b72:((7:Int) == 2) = false:=by decide
   have b73:((7:Int) == 3) = false:=by decide
   have b74:((7:Int) == 4) = false:=by decide
   have b75:((7:Int) == 5) = false:=by decide
   have b76:((7:Int) == 6) = false:=by decide
   have b77:((7:Int) == 7) = true:=by decide
   have b78:((7:Int) == 8) = false:=by decide
   cases hfin:stS (some r) with
   | none =>
    rw [hfin] at w2
    have hi:=it_bad7 hfin
    have hR3:done = R:=by rw [em,ShellPlain.its_none (by omega) (by rw [eA];exact hi)] at hR2;simpa using hR2
    subst hR3
    simp only [rdT,bs_none,Option.isNone_none] at w2
    first | (refine hide ?_;intro Q24 hQ24) | have hQ24:=True.intro
    repeat' (first
     | (replace hQ24:=hQ24;simp [e2,x2,z2,y2,f0,f1,f8,hL,hLs,hlt,hlt2,e1,ca,g0,g8,h1f1,xne,xn0,xn8,xm1,xm0,xm8,b71,b72,b73,b74,b75,b76,b77,b78,w2,outV,frzV,frzS,frzS_pure,frzP,pureS,pureL,K_own,hown])
     | (refine hQ24 _ _ _ ?_;clear hQ24 Q24;first | simp only [] | simp [e2,x2,z2,y2,f0,f1,f8,hL,hLs,hlt,hlt2,e1,ca,g0,g8,h1f1,xne,xn0,xn8,xm1,xm0,xm8,b71,b72,b73,b74,b75,b76,b77,b78,w2,outV,frzV,frzS,frzS_pure,frzP,pureS,pureL,K_own,hown] | skip)
     | (refine hadQ (by assumption) ?_;(try clear hQ24);first | simp only [] | simp [e2,x2,z2,y2,f0,f1,f8,hL,hLs,hlt,hlt2,e1,ca,g0,g8,h1f1,xne,xn0,xn8,xm1,xm0,xm8,b71,b72,b73,b74,b75,b76,b77,b78,w2,outV,frzV,frzS,frzS_pure,frzP,pureS,pureL,K_own,hown] | skip)
     | ((fail_if_success replace hQ24:=hQ24);(first | refine hide ?_ | refine hideS ?_ | refine hideB ?_);intro Q24 hQ24)
     | (first | apply cF | apply wN | apply wS) <;> intro hcnd <;> (try simp only [hcnd]) <;> (try simp [-List.isEmpty_iff,-List.isEmpty_eq_false_iff] at hcnd))
    all_goals (refine ⟨0,by subst hk;simp, ?_⟩;rw [hI];exact ⟨none,true,done,s,L,by simp,by simp [z2,xn0],by simp [w2,xne,bs_none],by simp [y2,xn8],gr1.keep (by simp <;> omega) (fun b hb=>by have h1:=owns_lt gr1.1 hb;have h2:=hos b hb;rw [set_at,if_neg (by omega),k2 b h1 (by omega)]),hd1.keep (by simp <;> omega) (fun y hy b hb=>by have h1:=hap1 y hy b hb;rw [set_at,if_neg (by omega),k2 b h1.1 (by omega)]),fun y hy b hb=>by have h1:=hap1 y hy b hb;exact ⟨by simp <;> omega,h1.2⟩,.inr ⟨rfl,rfl,rfl⟩,hd256,by simp <;> omega,hos,ex_get' (by simp)⟩)
   | some r' =>
    rw [hfin] at w2
    simp only [rdT,Option.isNone_some] at w2
    obtain ⟨ua,ub,uq,rfl,hm,rfl⟩:=it_ok7 hfin
    have j2:=i2 ua ub _ rfl hm
    obtain ⟨x,hx⟩:∃ x:ShellPlain.It,x = ⟨7,0,0,0,uq.take (ua.toNat * 256 + ub.toNat)⟩:=⟨_,rfl⟩
    have hi:ShellPlain.item 7 (ua::ub::uq) = some (x,(uq.drop (ua.toNat * 256 + ub.toNat))):=by subst hx;simp [ShellPlain.item,hm]
    have hR3:(done++[x])++ShellPlain.its (256 - (done++[x]).length) (uq.drop (ua.toNat * 256 + ub.toNat)) = R:=by
     rw [em,ShellPlain.its_some (by omega) (by rw [eA];exact hi)] at hR2
     rw [← hR2,List.append_assoc];congr 2;simp <;> omega
    have hle:=ShellPlain.item_le hi
    first | (refine hide ?_;intro Q25 hQ25) | have hQ25:=True.intro
    repeat' (first
     | (replace hQ25:=hQ25;simp [e2,x2,z2,y2,f0,f1,f8,hL,hLs,hlt,hlt2,e1,ca,g0,g8,h1f1,xne,xn0,xn8,xm1,xm0,xm8,b71,b72,b73,b74,b75,b76,b77,b78,w2,outV,frzV,frzS,frzS_pure,frzP,pureS,pureL,K_own,hown])
     | (refine hQ25 _ _ _ ?_;clear hQ25 Q25;first | simp only [] | simp [e2,x2,z2,y2,f0,f1,f8,hL,hLs,hlt,hlt2,e1,ca,g0,g8,h1f1,xne,xn0,xn8,xm1,xm0,xm8,b71,b72,b73,b74,b75,b76,b77,b78,w2,outV,frzV,frzS,frzS_pure,frzP,pureS,pureL,K_own,hown] | skip)
     | (refine hadQ (by assumption) ?_;(try clear hQ25);first | simp only [] | simp [e2,x2,z2,y2,f0,f1,f8,hL,hLs,hlt,hlt2,e1,ca,g0,g8,h1f1,xne,xn0,xn8,xm1,xm0,xm8,b71,b72,b73,b74,b75,b76,b77,b78,w2,outV,frzV,frzS,frzS_pure,frzP,pureS,pureL,K_own,hown] | skip)
     | ((fail_if_success replace hQ25:=hQ25);(first | refine hide ?_ | refine hideS ?_ | refine hideB ?_);intro Q25 hQ25)
     | (first | apply cF | apply wN | apply wS) <;> intro hcnd <;> (try simp only [hcnd]) <;> (try simp [-List.isEmpty_iff,-List.isEmpty_eq_false_iff] at hcnd))
    have gA:Grown (H2.set H1.next ⟨0,[5],true,[ii 7,.int .i64 0,.int .i64 0,.int .i64 0,v2]⟩) 5 encA s L:=gr1.keep (by simp <;> omega) (fun b hb=>by have h1:=owns_lt gr1.1 hb;have h2:=hos b hb;rw [set_at,if_neg (by omega),k2 b h1 (by omega)])
    have hA1:∀ b,b < H1.next→b ≠ 1→(H2.set H1.next ⟨0,[5],true,[ii 7,.int .i64 0,.int .i64 0,.int .i64 0,v2]⟩).f b = H1.f b:=fun b hb hb1=>by rw [set_at,if_neg (by omega),k2 b hb hb1]
    have nA:H1.next + 1 ≤ (H2.set H1.next ⟨0,[5],true,[ii 7,.int .i64 0,.int .i64 0,.int .i64 0,v2]⟩).next:=by simp <;> omega
    have u0:(H2.set H1.next ⟨0,[5],true,[ii 7,.int .i64 0,.int .i64 0,.int .i64 0,v2]⟩).f 0 = some ⟨0,[4],true,[ii 0,ii 0,ii 0,.nilslc]⟩:=by simp [z2,xn0]
    have u8:(H2.set H1.next ⟨0,[5],true,[ii 7,.int .i64 0,.int .i64 0,.int .i64 0,v2]⟩).f 8 = some ⟨0,[4],true,[ii g.toNat,ii n.toNat,ii c.toNat,s]⟩:=by simp [y2,xn8]
    have u1:(H2.set H1.next ⟨0,[5],true,[ii 7,.int .i64 0,.int .i64 0,.int .i64 0,v2]⟩).f 1 = some (rdT (some (uq.drop (ua.toNat * 256 + ub.toNat)))):=by simp [w2,xne]
    have oy:∀ b,ownB (⟨7,0,0,0,v2⟩:ItA).s = some b→H1.next ≤ b:=fun b hb=>by have:=o2 b hb;simp at this;omega
    have hb2:Held H2 ⟨7,0,0,0,v2⟩ x:=by subst hx;exact ⟨by simp,by simp,by simp,by simp,fun _=>j2,fun h=>absurd h (by simp)⟩
    have oz:∀ b,ownB (⟨7,0,0,0,v2⟩:ItA).s = some b→b < (H2.set H1.next ⟨0,[5],true,[ii 7,.int .i64 0,.int .i64 0,.int .i64 0,v2]⟩).next:=fun b hb=>by have:=owns_lt j2.1 hb;simpa using this
    have hh:Held (H2.set H1.next ⟨0,[5],true,[ii 7,.int .i64 0,.int .i64 0,.int .i64 0,v2]⟩) ⟨7,0,0,0,v2⟩ x:=hb2.keep (by simp) (fun b hb=>by have h1:=o2 b hb;simp only [set_next,new_next] at h1;rw [set_at,if_neg (by omega)])
    have hdA:HeldL (H2.set H1.next ⟨0,[5],true,[ii 7,.int .i64 0,.int .i64 0,.int .i64 0,v2]⟩) L done:=hd1.keep (by omega) (fun y hy b hb=>by have h1:=hap1 y hy b hb;rw [hA1 b h1.1 (by omega)])
    have apA:ApA (H2.set H1.next ⟨0,[5],true,[ii 7,.int .i64 0,.int .i64 0,.int .i64 0,v2]⟩) s L:=fun y hy b hb=>by have h1:=hap1 y hy b hb;exact ⟨by omega,h1.2⟩
    refine call_growR Tryz.underlying25 (by simp) (by simp) Tryz.bytes62 (by omega) len_itA gA ⟨7,0,0,0,v2⟩ (by simp [limit];omega) ?hc ?hn (fun s' h2 g' hn' hf' hos'=>?_)
    case hc=>simp [encA]
    case hn=>simp
    have e0:=hf' 0 (by omega) (fun hc=>by have:=hos _ hc;omega)
    have e1':=hf' 1 (by omega) (fun hc=>by have:=hos _ hc;omega)
    have e8:=hf' 8 (by omega) (fun hc=>by have:=hos _ hc;omega)
    rw [u0] at e0;rw [u1] at e1';rw [u8] at e8
    simp only [rdT,Option.isNone_some] at e1'
    have pk:=fun k=>put_it (k:=k) g' hdA hh apA (fun b hb=>⟨by have:=oy b hb;omega,oz b hb,fun hc=>by have h1:=owns_lt gr1.1 hc;have h2:=oy b hb;omega⟩) hn' hf' hos' hos (by omega)
    clear gA hA1 u0 u1 u8 oy oz hh hdA apA g' hf' hos'
    first | (refine hide ?_;intro Q26 hQ26) | have hQ26:=True.intro
    repeat' (first
     | (replace hQ26:=hQ26;simp [e0,e1',e8,outV,frzV,frzS,frzS_pure,frzP,pureS,pureL,K_own,hown])
     | (refine hQ26 _ _ _ ?_;clear hQ26 Q26;first | simp only [] | simp [e0,e1',e8,outV,frzV,frzS,frzS_pure,frzP,pureS,pureL,K_own,hown] | skip)
     | (refine hadQ (by assumption) ?_;(try clear hQ26);first | simp only [] | simp [e0,e1',e8,outV,frzV,frzS,frzS_pure,frzP,pureS,pureL,K_own,hown] | skip)
     | ((fail_if_success replace hQ26:=hQ26);(first | refine hide ?_ | refine hideS ?_ | refine hideB ?_);intro Q26 hQ26)
     | (first | apply cF | apply wN | apply wS) <;> intro hcnd <;> (try simp only [hcnd]) <;> (try simp [-List.isEmpty_iff,-List.isEmpty_eq_false_iff] at hcnd))
    all_goals first | omega | skip
    all_goals (refine ⟨(uq.drop (ua.toNat * 256 + ub.toNat)).length + 1,by have hle:=hle;subst hk;simp at hle ⊢ <;> omega, ?_⟩;rw [hI];exact ⟨some (uq.drop (ua.toNat * 256 + ub.toNat)),false,done++[x],s',L++[⟨7,0,0,0,v2⟩],by simp,by simp [e0],by simp [e1'],by simp [e8],(pk _).1,(pk _).2.1,(pk _).2.2.1,.inl ⟨rfl,(uq.drop (ua.toNat * 256 + ub.toNat)),rfl,hR3⟩,by simp <;> omega,by simp <;> omega,(pk (rdT none)).2.2.2,ex_get' (by simp)⟩)
  ·have b81:((8:Int) == 1) = false:=by decide
   have b82:((8:Int) == 2) = false:=by decide
   have b83:((8:Int) == 3) = false:=by decide
   have b84:((8:Int) == 4) = false:=by decide
   have b85:((8:Int) == 5) = false:=by decide
   have b86:((8:Int) == 6) = false:=by decide
   have b87:((8:Int) == 7) = false:=by decide
   have b88:((8:Int) == 8) = true:=by decide
   obtain ⟨x,hx⟩:∃ x:ShellPlain.It,x = ⟨8,0,0,0,[]⟩:=⟨_,rfl⟩
   have hi:ShellPlain.item 8 r = some (x,r):=by subst hx;simp [ShellPlain.item]
   have hR3:(done++[x])++ShellPlain.its (256 - (done++[x]).length) r = R:=by
    rw [em,ShellPlain.its_some (by omega) (by rw [eA];exact hi)] at hR2
    rw [← hR2,List.append_assoc];congr 2;simp <;> omega
   have hle:=ShellPlain.item_le hi
   first | (refine hide ?_;intro Q27 hQ27) | have hQ27:=True.intro
   repeat' (first
    | (replace hQ27:=hQ27;simp [f0,f1,f8,hL,hLs,hlt,hlt2,e1,ca,g0,g8,h1f1,xne,xn0,xn8,xm1,xm0,xm8,b81,b82,b83,b84,b85,b86,b87,b88,h1f1,outV,frzV,frzS,frzS_pure,frzP,pureS,pureL,K_own,hown])
    | (refine hQ27 _ _ _ ?_;clear hQ27 Q27;first | simp only [] | simp [f0,f1,f8,hL,hLs,hlt,hlt2,e1,ca,g0,g8,h1f1,xne,xn0,xn8,xm1,xm0,xm8,b81,b82,b83,b84,b85,b86,b87,b88,h1f1,outV,frzV,frzS,frzS_pure,frzP,pureS,pureL,K_own,hown] | skip)
    | (refine hadQ (by assumption) ?_;(try clear hQ27);first | simp only [] | simp [f0,f1,f8,hL,hLs,hlt,hlt2,e1,ca,g0,g8,h1f1,xne,xn0,xn8,xm1,xm0,xm8,b81,b82,b83,b84,b85,b86,b87,b88,h1f1,outV,frzV,frzS,frzS_pure,frzP,pureS,pureL,K_own,hown] | skip)
    | ((fail_if_success replace hQ27:=hQ27);(first | refine hide ?_ | refine hideS ?_ | refine hideB ?_);intro Q27 hQ27)
    | (first | apply cF | apply wN | apply wS) <;> intro hcnd <;> (try simp only [hcnd]) <;> (try simp [-List.isEmpty_iff,-List.isEmpty_eq_false_iff] at hcnd))
   have gA:Grown (H1.new ⟨0,[5],true,[ii 8,.int .i64 0,.int .i64 0,.int .i64 0,.nilslc]⟩) 5 encA s L:=gr1.new _
   have hA1:∀ b,b < H1.next→b ≠ 1→(H1.new ⟨0,[5],true,[ii 8,.int .i64 0,.int .i64 0,.int .i64 0,.nilslc]⟩).f b = H1.f b:=fun b hb hb1=>by rw [new_at,if_neg (by omega)]
   have nA:H1.next + 1 ≤ (H1.new ⟨0,[5],true,[ii 8,.int .i64 0,.int .i64 0,.int .i64 0,.nilslc]⟩).next:=by simp <;> omega
   have u0:(H1.new ⟨0,[5],true,[ii 8,.int .i64 0,.int .i64 0,.int .i64 0,.nilslc]⟩).f 0 = some ⟨0,[4],true,[ii 0,ii 0,ii 0,.nilslc]⟩:=by simp [g0,xn0]
   have u8:(H1.new ⟨0,[5],true,[ii 8,.int .i64 0,.int .i64 0,.int .i64 0,.nilslc]⟩).f 8 = some ⟨0,[4],true,[ii g.toNat,ii n.toNat,ii c.toNat,s]⟩:=by simp [g8,xn8]
   have u1:(H1.new ⟨0,[5],true,[ii 8,.int .i64 0,.int .i64 0,.int .i64 0,.nilslc]⟩).f 1 = some (rdT (some r)):=by simp [h1f1,xne]
   have oy:∀ b,ownB (⟨8,0,0,0,.nilslc⟩:ItA).s = some b→H1.next ≤ b:=fun b hb=>by simp [ownB] at hb
   have hh:Held (H1.new ⟨0,[5],true,[ii 8,.int .i64 0,.int .i64 0,.int .i64 0,.nilslc]⟩) ⟨8,0,0,0,.nilslc⟩ x:=by subst hx;exact ⟨by simp,by simp,by simp,by simp,fun h=>absurd h (by simp),fun _=>rfl⟩
   have oz:∀ b,ownB (⟨8,0,0,0,.nilslc⟩:ItA).s = some b→b < (H1.new ⟨0,[5],true,[ii 8,.int .i64 0,.int .i64 0,.int .i64 0,.nilslc]⟩).next:=fun b hb=>by simp [ownB] at hb
   have hdA:HeldL (H1.new ⟨0,[5],true,[ii 8,.int .i64 0,.int .i64 0,.int .i64 0,.nilslc]⟩) L done:=hd1.keep (by omega) (fun y hy b hb=>by have h1:=hap1 y hy b hb;rw [hA1 b h1.1 (by omega)])
   have apA:ApA (H1.new ⟨0,[5],true,[ii 8,.int .i64 0,.int .i64 0,.int .i64 0,.nilslc]⟩) s L:=fun y hy b hb=>by have h1:=hap1 y hy b hb;exact ⟨by omega,h1.2⟩
   refine call_growR Tryz.underlying25 (by simp) (by simp) Tryz.bytes62 (by omega) len_itA gA ⟨8,0,0,0,.nilslc⟩ (by simp [limit];omega) ?hc ?hn (fun s' h2 g' hn' hf' hos'=>?_)
   case hc=>simp [encA]
   case hn=>simp
   have e0:=hf' 0 (by omega) (fun hc=>by have:=hos _ hc;omega)
   have e1':=hf' 1 (by omega) (fun hc=>by have:=hos _ hc;omega)
   have e8:=hf' 8 (by omega) (fun hc=>by have:=hos _ hc;omega)
   rw [u0] at e0;rw [u1] at e1';rw [u8] at e8
   simp only [rdT,Option.isNone_some] at e1'
   have pk:=fun k=>put_it (k:=k) g' hdA hh apA (fun b hb=>⟨by have:=oy b hb;omega,oz b hb,fun hc=>by have h1:=owns_lt gr1.1 hc;have h2:=oy b hb;omega⟩) hn' hf' hos' hos (by omega)
   clear gA hA1 u0 u1 u8 oy oz hh hdA apA g' hf' hos'
   first | (refine hide ?_;intro Q28 hQ28) | have hQ28:=True.intro
   repeat' (first
    | (replace hQ28:=hQ28;simp [e0,e1',e8,outV,frzV,frzS,frzS_pure,frzP,pureS,pureL,K_own,hown])
    | (refine hQ28 _ _ _ ?_;clear hQ28 Q28;first | simp only [] | simp [e0,e1',e8,outV,frzV,frzS,frzS_pure,frzP,pureS,pureL,K_own,hown] | skip)
    | (refine hadQ (by assumption) ?_;(try clear hQ28);first | simp only [] | simp [e0,e1',e8,outV,frzV,frzS,frzS_pure,frzP,pureS,pureL,K_own,hown] | skip)
    | ((fail_if_success replace hQ28:=hQ28);(first | refine hide ?_ | refine hideS ?_ | refine hideB ?_);intro Q28 hQ28)
    | (first | apply cF | apply wN | apply wS) <;> intro hcnd <;> (try simp only [hcnd]) <;> (try simp [-List.isEmpty_iff,-List.isEmpty_eq_false_iff] at hcnd))
   all_goals first | omega | skip
   all_goals (refine ⟨r.length + 1,by have hle:=hle;subst hk;simp at hle ⊢ <;> omega, ?_⟩;rw [hI];exact ⟨some r,false,done++[x],s',L++[⟨8,0,0,0,.nilslc⟩],by simp,by simp [e0],by simp [e1'],by simp [e8],(pk _).1,(pk _).2.1,(pk _).2.2.1,.inl ⟨rfl,r,rfl,hR3⟩,by simp <;> omega,by simp <;> omega,(pk (rdT none)).2.2.2,ex_get' (by simp)⟩)
end Go.Proofs.YtofafocfemikcaaGreat
