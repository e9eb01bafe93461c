/- A part of a proof over the abstract machine. No conditions. -/
import Derived.Test.YtofafocfemikcaaGreatSHR2
import Derived.Test.YtofafocfemikcaaGreatC7
set_option linter.unusedSimpArgs false
set_option linter.unnecessarySimpa false
set_option linter.unusedVariables false
namespace Go.Proofs.YtofafocfemikcaaGreat
open Go Go.Ab Wm NumPlain
set_option maxRecDepth 10000
set_option maxHeartbeats 4000000
theorem call_growR {α:Type} {C:Conf} {P:Program} {t el size bytes:Nat} (ht:P.underlying t = some (.slice el)) (h1:elemT P t = some el) (h2:sizeT P el = some size) (h3:bytesT P el = some bytes) (h0:0 < size) {enc:α→List AS} (he:∀ x,(enc x).length = size)
  {h:H} {s:AS} {l:List α} (g:Grown h size enc s l) (x:α) (hlim:(l.length + 1 + 600) * bytes + (l.length + 1) ≤ limit) {cells:List AS} (hc:cells = enc x) {n:Nat} (hn:n = h.next) {K:AV→H→Prop} {Kp:AS→H→Prop}
  (hk:∀ s' h',Grown h' size enc s' (l++[x])→h.next ≤ h'.next→(∀ b,b < h.next→ownB s ≠ some b→h'.f b = h.f b)→(∀ b,ownB s' = some b→ownB s = some b ∨ h.next ≤ b)→K (.one s') h') :
  onR (((appendA P t t (h.new ⟨0,[size],true,cells⟩) s (.slc n 0 0 1 size none)).bind fun p=>some (OR.val (AV.one p.1) p.2)).bind (afterO (W C))) K Kp:=by
 subst hn
 obtain ⟨s',h',e,g',a,b,c⟩:=grow_one ht h1 h2 h3 h0 he g x hlim hc
 rw [e]
 simp only [oqS,afterO,onR_ok]
 exact hk s' h' g' a b c
theorem len_grown {h:H} {size:Nat} (h0:0 < size) {α:Type} {enc:α→List AS} (he:∀ x,(enc x).length = size) {s:AS} {l:List α} (gr:Grown h size enc s l) (u:Nat) (hh:H):lenA s (some (.slice u)) hh = some (one (ii l.length) hh):=by
 obtain ⟨o,o2⟩:=gr
 clear o2
 have hl:=flat_length he l
 cases s <;> simp only [Owns] at o
 ·rw [o] at hl
  simp only [List.length_nil] at hl
  rcases Nat.mul_eq_zero.1 hl.symm with e | e
  ·simp [lenA,lenS,e]
  ·omega
 ·obtain ⟨rfl,rfl,rfl,hl2,_⟩:=o
  rw [hl] at hl2
  have:=Nat.eq_of_mul_eq_mul_right h0 hl2
  simp [lenA,lenS,this]
theorem decode_no (o:Option BL) (ho:(ls o).length < 3) (h:H):W K 17 [.one (bs o)] h = some (.ret (.tup [(true,[ii 0,ii 0,ii 0,.nilslc]),(false,[ii 12])]) h):=by
 have n1:∀ (o:Option BL) (bad:Bool) (h':H),h'.f 1 = some (rB o bad)→W K 32 [.one (.ptr 1 0 0),.one (.int .i64 1)] h' = some (.ret (.one (ii (rV o bad 1))) (h'.set 1 (rB (rO o bad 1) (noB o bad 1)))):=fun o bad h' hf=>number_t o bad 1 (by omega) hf
 have m1:=n1 o false
 have m2:=n1 (rO o false 1) (noB o false 1)
 have m3:=n1 (rO (rO o false 1) (noB o false 1) 1) (noB (rO o false 1) (noB o false 1) 1)
 have hb:noB (rO (rO o false 1) (noB o false 1) 1) (noB (rO o false 1) (noB o false 1) 1) 1 = true:=by
  have:ls o = [] ∨ (∃ a,ls o = [a]) ∨ ∃ a b,ls o = [a,b]:=by
   rcases hl:ls o with _ | ⟨a,_ | ⟨b,_ | ⟨c,r⟩⟩⟩
   ·simp
   ·simp
   ·simp
   ·rw [hl] at ho;simp only [List.length_cons] at ho;omega
  cases o with
  | none=>simp [rO,noB]
  | some l=>rcases this with e | ⟨a,e⟩ | ⟨a,b,e⟩ <;> (simp only [ls_some] at e;subst e;simp [rO,noB])
 rw [hb] at m3
 simp only [rB] at m1 m2 m3
 have hown:memL S.own 17 = false:=by kernel_rfl
 refine W_pure hp (by simp [pureV,m1,m2,m3,outV,frzV,frzS,frzS_pure,frzP,pureS,pureL,K_own,hown]) (apart_does rfl rfl (by kernel_rfl) Tryz.func17 rfl (by simp [Tryz.f17]) ?_)
 simp only [Tryz.f17]
 refine hide ?_;intro Q1 hQ1
 repeat' (first
  | (replace hQ1:=hQ1;simp [m1,m2,m3,outV,frzV,frzS,frzS_pure,frzP,pureS,pureL,K_own,hown])
  | refine hQ1 _ _ _ ?_
  | (first | apply cF | apply wN | apply wS) <;> intro hcnd <;> (try simp only [hcnd]) <;> (try simp [-List.isEmpty_iff,-List.isEmpty_eq_false_iff] at hcnd))
 all_goals trace_state
theorem decode_ok (g n c:UInt8) (l:BL) (h:H) (hll:l.length < 9223372036854775805):W K 17 [.one (bs (some (g::n::c::l)))] h = some (.ret (.tup [(true,[ii g.toNat,ii n.toNat,ii c.toNat,sl 5 encItem (opt ((ShellPlain.its 256 l).map itemW))]),(false,[ii 0])]) h):=by
 have n1:∀ (a:UInt8) (l:BL) (h':H),h'.f 1 = some ⟨0,[2],true,[bs (some (a::l)),.bool false]⟩→W K 32 [.one (.ptr 1 0 0),.one (.int .i64 1)] h' = some (.ret (.one (ii a.toNat)) (h'.set 1 ⟨0,[2],true,[bs (some l),.bool false]⟩)):=fun a l h' hf=>by
  have:=number_t (some (a::l)) false 1 (by omega) hf
  simpa [rV,rX,rO,noB,numB_one,rB] using this
 have m1:=n1 g (n::c::l)
 have m2:=n1 n (c::l)
 have m3:=n1 c l
 obtain ⟨R,hR⟩:∃ R,ShellPlain.its 256 l = R:=⟨_,rfl⟩
 rw [hR]
 have hown:memL S.own 17 = false:=by kernel_rfl
 refine W_pure hp (by simp [pureV,m1,m2,m3,outV,frzV,frzS,frzS_pure,frzP,pureS,pureL,K_own,hown]) (apart_does rfl rfl (by kernel_rfl) Tryz.func17 rfl (by simp [Tryz.f17]) ?_)
 simp only [Tryz.f17]
 refine hide ?_;intro Q2 hQ2
 repeat' (first
  | (replace hQ2:=hQ2;simp [m1,m2,m3,outV,frzV,frzS,frzS_pure,frzP,pureS,pureL,K_own,hown])
  | refine hQ2 _ _ _ ?_
  | (first | apply cF | apply wN | apply wS) <;> intro hcnd <;> (try simp only [hcnd]) <;> (try simp [-List.isEmpty_iff,-List.isEmpty_eq_false_iff] at hcnd))
 obtain ⟨I,hI⟩:∃ I:Nat→Fr→H→Prop,I = fun k fr hh=>∃ (r:BL) (done:List ShellPlain.It) (s:AS),k = r.length∧hh.f 0 = some ⟨0,[4],true,[ii 0,ii 0,ii 0,.nilslc]⟩∧hh.f 1 = some ⟨0,[2],true,[bs (some r),.bool false]⟩∧hh.f 2 = some ⟨0,[4],true,[ii g.toNat,ii n.toNat,ii c.toNat,s]⟩∧Grown hh 5 encItem s (done.map itemW)∧done++ShellPlain.its (256 - done.length) r = R∧done.length ≤ 256∧3 ≤ hh.next∧(∀ b,ownB s = some b→3 ≤ b)∧∃ j:Nat→AV,fr = (j 0::j 1::(.one (.ptr 0 0 0))::j 3::(.one (.ptr 1 0 0))::(.one (.ptr 2 0 0))::j 6::j 7::j 8::j 9::j 10::j 11::j 12::j 13::j 14::j 15::j 16::j 17::j 18::j 19::j 20::j 21::j 22::j 23::j 24::j 25::j 26::j 27::j 28::j 29::j 30::j 31::j 32::j 33::j 34::j 35::j 36::j 37::j 38::j 39::j 40::j 41::j 42::j 43::j 44::j 45::j 46::j 47::j 48::j 49::j 50::j 51::j 52::j 53::j 54::j 55::j 56::j 57::[]):=⟨_,rfl⟩
 refine does_loop hp I ?_ l.length _ _ (by rw [hI];exact ⟨l,[],.nilslc,rfl,by simp,by simp,by simp,grown_nil _ _ _,by simpa using hR,by simp,by simp,by simp [ownB],ex_get' (by simp)⟩)
 intro k fr hh hx
 rw [hI] at hx
 obtain ⟨r,done,s,rfl,f0,f1,f2,gr,hR2,hd,hn,hos,j,rfl⟩:=hx
 have hL:∀ h,lenA (bs (some r)) (some (.slice 5)) h = some (one (ii r.length) h):=fun h=>lenA_bs _ _ _
 have hz:∀ k,frzS false (hh.set 0 k) 64 s = some (sl 5 encItem (opt (done.map itemW))):=fun k =>
  grown_frz (st:=false) len_item (by omega) (gr.keep (h':=hh.set 0 k) (by simp) fun b hb=>by rw [set_at,if_neg (by have:=hos b hb;omega)]) (cat_pure _ pure_item)
 have hLs:∀ h,lenA s (some (.slice 62)) h = some (one (ii done.length) h):=fun h=>by
  have:=len_grown (by omega) len_item gr 62 h
  simpa using this
 have z0:¬ hh.next = 0:=by omega
 have z1:¬ hh.next = 1:=by omega
 have z2:¬ hh.next = 2:=by omega
 have n0:¬ 0 = hh.next:=by omega
 have n1':¬ 1 = hh.next:=by omega
 have n2:¬ 2 = hh.next:=by omega
 rcases r with _ | ⟨a,r⟩
 ·-- all is read
  have e:done = R:=by simpa using hR2
  subst e
  first | (refine hide ?_;intro Q3 hQ3) | have hQ3:=True.intro
  repeat' (first
   | (replace hQ3:=hQ3;simp [f0,f1,f2,hL,hz,outV,frzV,frzS,frzS_pure,frzP,pureS,pureL,K_own,hown])
   | (refine hQ3 _ _ _ ?_;clear hQ3 Q3;first | simp only [] | simp [f0,f1,f2,hL,hz,outV,frzV,frzS,frzS_pure,frzP,pureS,pureL,K_own,hown] | skip)
   | (refine hadQ (by assumption) ?_;(try clear hQ3);first | simp only [] | simp [f0,f1,f2,hL,hz,outV,frzV,frzS,frzS_pure,frzP,pureS,pureL,K_own,hown] | skip)
   | ((fail_if_success replace hQ3:=hQ3);(first | refine hide ?_ | refine hideS ?_ | refine hideB ?_);intro Q3 hQ3)
   | (first | apply cF | apply wN | apply wS) <;> intro hcnd <;> (try simp only [hcnd]) <;> (try simp [-List.isEmpty_iff,-List.isEmpty_eq_false_iff] at hcnd))
  all_goals trace_state
 by_cases hfull:done.length = 256
 ·have e:done = R:=by rw [hfull] at hR2;simpa using hR2
  subst e
  have hfi:((done.length:Int) < 256) = False:=by simp;omega
  first | (refine hide ?_;intro Q4 hQ4) | have hQ4:=True.intro
  repeat' (first
   | (replace hQ4:=hQ4;simp [f0,f1,f2,hL,hLs,hfull,hz,outV,frzV,frzS,frzS_pure,frzP,pureS,pureL,K_own,hown])
   | (refine hQ4 _ _ _ ?_;clear hQ4 Q4;first | simp only [] | simp [f0,f1,f2,hL,hLs,hfull,hz,outV,frzV,frzS,frzS_pure,frzP,pureS,pureL,K_own,hown] | skip)
   | (refine hadQ (by assumption) ?_;(try clear hQ4);first | simp only [] | simp [f0,f1,f2,hL,hLs,hfull,hz,outV,frzV,frzS,frzS_pure,frzP,pureS,pureL,K_own,hown] | skip)
   | ((fail_if_success replace hQ4:=hQ4);(first | refine hide ?_ | refine hideS ?_ | refine hideB ?_);intro Q4 hQ4)
   | (first | apply cF | apply wN | apply wS) <;> intro hcnd <;> (try simp only [hcnd]) <;> (try simp [-List.isEmpty_iff,-List.isEmpty_eq_false_iff] at hcnd))
  all_goals trace_state
 ·have hfl:done.length < 256:=by omega
  have hlt:decide ((done.length:Int) < 256) = true:=by simp;omega
  have hlt2:(done.length:Int) < 256:=by omega
  have em:256 - done.length = (255 - done.length) + 1:=by omega
  have na:=n1 a r
  have hab:=a.toNat_lt
  obtain ⟨A,hA⟩:∃ A:Int,(a.toNat:Int) = A:=⟨_,rfl⟩
  rw [hA] at na
  by_cases hk:A < 1 ∨ 8 < A
  ·have hR3:done++ShellPlain.its (256 - done.length) r = R:=by
    rw [em] at hR2 ⊢
    rwa [ShellPlain.its_skip (by omega)] at hR2
   have c0:A < 1 ∨ (¬ A < 1∧8 < A):=by omega
   rcases c0 with c1 | ⟨c1,c2⟩
   all_goals
    first | (have c3:8 < A:=c2) | have c3:=True.intro
    first | (refine hide ?_;intro Q5 hQ5) | have hQ5:=True.intro
    repeat' (first
     | (replace hQ5:=hQ5;simp [f0,f1,f2,hL,hLs,hlt,hlt2,na,c1,c3,outV,frzV,frzS,frzS_pure,frzP,pureS,pureL,K_own,hown])
     | (refine hQ5 _ _ _ ?_;clear hQ5 Q5;first | simp only [] | simp [f0,f1,f2,hL,hLs,hlt,hlt2,na,c1,c3,outV,frzV,frzS,frzS_pure,frzP,pureS,pureL,K_own,hown] | skip)
     | (refine hadQ (by assumption) ?_;(try clear hQ5);first | simp only [] | simp [f0,f1,f2,hL,hLs,hlt,hlt2,na,c1,c3,outV,frzV,frzS,frzS_pure,frzP,pureS,pureL,K_own,hown] | skip)
     | ((fail_if_success replace hQ5:=hQ5);(first | refine hide ?_ | refine hideS ?_ | refine hideB ?_);intro Q5 hQ5)
     | (first | apply cF | apply wN | apply wS) <;> intro hcnd <;> (try simp only [hcnd]) <;> (try simp [-List.isEmpty_iff,-List.isEmpty_eq_false_iff] at hcnd))
    all_goals first | omega | (refine ⟨r.length,by simp, ?_⟩;rw [hI];exact ⟨r,done,s,rfl,by simp [f0],by simp,by simp [f2],gr.keep (by simp) (fun b hb=>by rw [set_at,if_neg (by have:=hos b hb;omega)]),hR3,hd,by simpa using hn,hos,ex_get' (by simp)⟩) | trace_state
  ·have c1:¬ A < 1:=by omega
   have c2:¬ 8 < A:=by omega
   obtain ⟨rr,e,hr⟩:=item_t (h:=hh.set 1 ⟨0,[2],true,[bs (some r),.bool false]⟩) (p:=1) A ⟨by omega,by omega⟩ (some r) false (by simp;omega) (by simp [rB])
   obtain ⟨v,h',rfl,rfl,w1,w2,w3⟩:=hr.ret
   have eA:A.toNat = a.toNat:=by omega
   have y0:h'.f 0 = some ⟨0,[4],true,[ii 0,ii 0,ii 0,.nilslc]⟩:=by rw [w3 0 (by simp;omega) (by omega)];simp [f0]
   have y2:h'.f 2 = some ⟨0,[4],true,[ii g.toNat,ii n.toNat,ii c.toNat,s]⟩:=by rw [w3 2 (by simp;omega) (by omega)];simp [f2]
   simp only [set_next] at w2
   have gr':Grown h' 5 encItem s (done.map itemW):=gr.keep w2 fun b hb=>by
    have h3:=hos b hb
    have h4:=owns_lt gr.1 hb
    rw [w3 b (by simpa using h4) (by omega),set_at,if_neg (by omega)]
   have x0:¬ h'.next = 0:=by omega
   have x1:¬ h'.next = 1:=by omega
   have x2:¬ h'.next = 2:=by omega
   have v0:¬ 0 = h'.next:=by omega
   have v1:¬ 1 = h'.next:=by omega
   have v2:¬ 2 = h'.next:=by omega
   cases hi:ShellPlain.item a.toNat r with
   | none =>
    have hM:=itM_none (k:=A) ⟨by omega,by omega⟩ (by rw [eA];exact hi)
    rw [hM] at w1
    have hR3:done = R:=by
     rw [em,ShellPlain.its_none (by omega) hi] at hR2
     simpa using hR2
    subst hR3
    have hz':∀ Y k,frzS false ((h'.new Y).set 0 k) 64 s = some (sl 5 encItem (opt (done.map itemW))):=fun Y k =>
     grown_frz (st:=false) len_item (by omega) (gr'.keep (h':=(h'.new Y).set 0 k) (by simp) fun b hb=>by have:=hos b hb;have:=owns_lt gr'.1 hb;rw [set_at,if_neg (by omega),new_at,if_neg (by omega)]) (cat_pure _ pure_item)
    generalize (itM A (some r) false).1 = y at *
    obtain ⟨y_kind,y_group,y_n,y_client,y_bytes⟩:=y
    simp only [encItem] at e
    simp only [rB] at w1
    first | (refine hide ?_;intro Q6 hQ6) | have hQ6:=True.intro
    repeat' (first
     | (replace hQ6:=hQ6;simp [f0,f1,f2,hL,hLs,hlt,hlt2,na,c1,c2,e,y0,y2,w1,x0,x1,x2,v0,v1,v2,hz',outV,frzV,frzS,frzS_pure,frzP,pureS,pureL,K_own,hown])
     | (refine hQ6 _ _ _ ?_;clear hQ6 Q6;first | simp only [] | simp [f0,f1,f2,hL,hLs,hlt,hlt2,na,c1,c2,e,y0,y2,w1,x0,x1,x2,v0,v1,v2,hz',outV,frzV,frzS,frzS_pure,frzP,pureS,pureL,K_own,hown] | skip)
     | (refine hadQ (by assumption) ?_;(try clear hQ6);first | simp only [] | simp [f0,f1,f2,hL,hLs,hlt,hlt2,na,c1,c2,e,y0,y2,w1,x0,x1,x2,v0,v1,v2,hz',outV,frzV,frzS,frzS_pure,frzP,pureS,pureL,K_own,hown] | skip)
     | ((fail_if_success replace hQ6:=hQ6);(first | refine hide ?_ | refine hideS ?_ | refine hideB ?_);intro Q6 hQ6)
     | (first | apply cF | apply wN | apply wS) <;> intro hcnd <;> (try simp only [hcnd]) <;> (try simp [-List.isEmpty_iff,-List.isEmpty_eq_false_iff] at hcnd))
    all_goals first | omega | trace_state
   | some q =>
    obtain ⟨x,r'⟩:=q
    have hM:=itM_some (k:=A) ⟨by omega,by omega⟩ (by rw [eA];exact hi)
    rw [hM] at w1 e
    simp only [rB] at w1
    simp only [encItem] at e
    have hR3:(done++[x])++ShellPlain.its (256 - (done++[x]).length) r' = R:=by
     rw [em,ShellPlain.its_some (by omega) hi] at hR2
     rw [← hR2,List.append_assoc]
     congr 2
     simp <;> omega
    have hle:=ShellPlain.item_le hi
    first | (refine hide ?_;intro Q7 hQ7) | have hQ7:=True.intro
    repeat' (first
     | (replace hQ7:=hQ7;simp [f0,f1,f2,hL,hLs,hlt,hlt2,na,c1,c2,e,y0,y2,w1,x0,x1,x2,v0,v1,v2,outV,frzV,frzS,frzS_pure,frzP,pureS,pureL,K_own,hown])
     | (refine hQ7 _ _ _ ?_;clear hQ7 Q7;first | simp only [] | simp [f0,f1,f2,hL,hLs,hlt,hlt2,na,c1,c2,e,y0,y2,w1,x0,x1,x2,v0,v1,v2,outV,frzV,frzS,frzS_pure,frzP,pureS,pureL,K_own,hown] | skip)
     | (refine hadQ (by assumption) ?_;(try clear hQ7);first | simp only [] | simp [f0,f1,f2,hL,hLs,hlt,hlt2,na,c1,c2,e,y0,y2,w1,x0,x1,x2,v0,v1,v2,outV,frzV,frzS,frzS_pure,frzP,pureS,pureL,K_own,hown] | skip)
     | ((fail_if_success replace hQ7:=hQ7);(first | refine hide ?_ | refine hideS ?_ | refine hideB ?_);intro Q7 hQ7)
     | (first | apply cF | apply wN | apply wS) <;> intro hcnd <;> (try simp only [hcnd]) <;> (try simp [-List.isEmpty_iff,-List.isEmpty_eq_false_iff] at hcnd))
    refine call_growR Tryz.underlying25 (by simp) (by simp) Tryz.bytes62 (by omega) len_item (gr'.new _) (itemW x) (by simp [limit];omega) ?hc ?hn (fun s' h2 g' hn' hf' hos'=>?_)
    case hc=>simp [encItem]
    case hn=>simp
    simp only [new_next] at hn' hf' hos'
    have e0:=hf' 0 (by omega) (fun hc=>by have:=hos _ hc;omega)
    have e1:=hf' 1 (by omega) (fun hc=>by have:=hos _ hc;omega)
    have e2:=hf' 2 (by omega) (fun hc=>by have:=hos _ hc;omega)
    simp [x0,x1,x2,v0,v1,v2,y0,w1,y2] at e0 e1 e2
    have q1:3 ≤ h2.next:=by omega
    have q2:∀ b,ownB s' = some b→3 ≤ b:=fun b hb=>by rcases hos' b hb with h | h;exact hos _ h;omega
    have g2:∀ k,Grown (h2.set 2 k) 5 encItem s' ((done++[x]).map itemW):=fun k=>by
     rw [List.map_append]
     exact g'.keep (by simp) fun b hb=>by rw [set_at,if_neg (by have:=q2 b hb;omega)]
    clear g' gr gr' hos hos' hf' hz e w3
    first | (refine hide ?_;intro Q8 hQ8) | have hQ8:=True.intro
    repeat' (first
     | (replace hQ8:=hQ8;simp [e0,e1,e2,outV,frzV,frzS,frzS_pure,frzP,pureS,pureL,K_own,hown])
     | (refine hQ8 _ _ _ ?_;clear hQ8 Q8;first | simp only [] | simp [e0,e1,e2,outV,frzV,frzS,frzS_pure,frzP,pureS,pureL,K_own,hown] | skip)
     | (refine hadQ (by assumption) ?_;(try clear hQ8);first | simp only [] | simp [e0,e1,e2,outV,frzV,frzS,frzS_pure,frzP,pureS,pureL,K_own,hown] | skip)
     | ((fail_if_success replace hQ8:=hQ8);(first | refine hide ?_ | refine hideS ?_ | refine hideB ?_);intro Q8 hQ8)
     | (first | apply cF | apply wN | apply wS) <;> intro hcnd <;> (try simp only [hcnd]) <;> (try simp [-List.isEmpty_iff,-List.isEmpty_eq_false_iff] at hcnd))
    all_goals first | omega | (refine ⟨r'.length,by simp <;> omega, ?_⟩;rw [hI];exact ⟨r',done++[x],s',rfl,by simp [e0],by simp [e1],by simp [e2],g2 _,hR3,by simp <;> omega,by simpa using q1,q2,ex_get' (by simp)⟩) | trace_state
end Go.Proofs.YtofafocfemikcaaGreat
