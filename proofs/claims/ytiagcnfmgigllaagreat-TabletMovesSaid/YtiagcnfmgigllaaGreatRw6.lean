/- A part of a proof over the abstract machine. No conditions. -/
import Derived.Test.YtiagcnfmgigllaaGreatW5
set_option linter.all false
namespace Go.Proofs.YtiagcnfmgigllaaGreat.Rw
open Go Go.Ab Wm NumPlain
set_option maxRecDepth 10000
set_option maxHeartbeats 4000000
theorem x0S (o:Option (List Version)) (g:Nat) (caps:List AS) (p:Version→Bool) (hg:∀ x h,W K g (.agg (c9 x)::caps.map AV.one) h = some (.ret (.one (.bool (p x))) h)) (hc:l0 false caps = true) (ho:(ls o).length < 9223372036854775807) :
  Fun K 272 [.one (sl 4 c9 o),.one (.fn g [] caps)] (fun h=>.ret (.one (ii (idx p (ls o)))) h):=by
 have hown:A8 S.own 272 = false:=by kernel_rfl
 refine ⟨by simp [s7,hc,c5,l0],fun hh=>c6 rfl rfl (by kernel_rfl) Tryz.func272 rfl (by simp [Tryz.f272]) ?_⟩
 simp only [Tryz.f272]
 refine c7 ?_;intro Q1 hQ1
 repeat' (first
  | (replace hQ1:=hQ1;simp [hc])
  | refine hQ1 _ _ _ ?_
  | (first | apply cF | apply wN | apply wS) <;> intro hcnd <;> (try simp only [hcnd]) <;> (try simp [-List.isEmpty_iff,-List.isEmpty_eq_false_iff] at hcnd))
 refine D5 hp (ls o) (fun a r fr hh=>∃ j,fr = ((.one (sl 4 c9 o))::(.one (.fn g [] caps))::j 2::j 3::(.one (ii 0))::j 5::j 6::(.one (ii (ls o).length))::(.one (ii a.length))::j 9::j 10::j 11::j 12::j 13::j 14::j 15::j 16::j 17::j 18::[])∧∀ y ∈ a,p y = false) ?_ ?_ _ _ (Y3 rfl (by simp))
 ·rintro a x r fr hh hl ⟨j,rfl,ha⟩
  obtain rfl:=O9 hl
  have hi:=I4 (P:=Tryz.prog) (enc:=c9) (s:=4) (l:=a++x::r) (i:=a.length) Tryz.underlying89 (by simp) (by omega) (by simp)
  have hr:=F3 (enc:=c9) (s:=4) C3 a x r (o:=0) (n:=4) (by omega)
  have hw:IntKind.i64.wrap ((a.length:Int) + 1) = ((a++[x]).length:Int):=by rw [J9];exact D3 (by simp at ho;omega)
  have hx:=hg x
  simp only [Nat.add_zero] at hr
  first | (refine c7 ?_;intro Q2 hQ2) | have hQ2:=oqk
  repeat' (first
   | (replace hQ2:=hQ2;simp [hi,hr,hx,hw,I8 (C3 x)])
   | (refine hQ2 _ _ _ ?_;clear hQ2 Q2;first | simp only [] | simp [hi] | skip)
   | (refine C5 (by assumption) ?_;(try clear hQ2);first | simp only [] | simp [u6,u5,p9,c5,l5,hown] | skip)
   | ((fail_if_success replace hQ2:=hQ2);(first | refine c7 ?_ | refine y5 ?_ | refine y3 ?_);intro Q2 hQ2)
   | (first | apply cF | apply wN | apply wS) <;> intro hcnd <;> (try simp only [hcnd]) <;> (try simp [-List.isEmpty_iff,-List.isEmpty_eq_false_iff] at hcnd))
  all_goals first | omega | exact (f0u ha ‹_›).symm | (refine Y3 (by simp) ?_;intro y hy;rcases oqe.mp hy with hy | hy;exact ha y hy;rw [List.mem_singleton.mp hy];assumption) | skip
 ·rintro fr hh ⟨j,rfl,ha⟩
  first | (refine c7 ?_;intro Q3 hQ3) | have hQ3:=oqk
  repeat' (first
   | (replace hQ3:=hQ3;simp [b0w ha])
   | (refine hQ3 _ _ _ ?_;clear hQ3 Q3;first | simp only [] | simp [b0w ha,u6,u5,p9,s8,H8,c5,l0,l5,hown] | skip)
   | (refine C5 (by assumption) ?_;(try clear hQ3);first | simp only [] | simp [b0w ha,u6,u5,p9,c5,l5,hown] | skip)
   | ((fail_if_success replace hQ3:=hQ3);(first | refine c7 ?_ | refine y5 ?_ | refine y3 ?_);intro Q3 hQ3)
   | (first | apply cF | apply wN | apply wS) <;> intro hcnd <;> (try simp only [hcnd]) <;> (try simp [-List.isEmpty_iff,-List.isEmpty_eq_false_iff] at hcnd))
  all_goals first | done | (simp_all [-List.isEmpty_iff,-List.isEmpty_eq_false_iff,← List.isEmpty_iff];done) | (simp_all;done) | (simp_all;omega) | (simp;omega) | (intros;omega) | (intros;simp only [oqj] at *;omega) | (intros;simp at *;omega) | skip
theorem v0p {h:H} {b v:Nat} {l:List Version} {z:List AS} (ar:Arr h c9 b v l z) (g:Nat) (caps:List AS) (p:Version→Bool) (hl:l.length < 4611686018427387904) (hi:W K 272 [.one (.slc b v 0 l.length 4 none),.one (.fn g [] caps)] h = some (.ret (.one (ii (idx p l))) h))
  (hg:∀ x h',h.next ≤ h'.next→(∀ y,y < h.next→y ≠ b→h'.f y = h.f y)→W K g (.agg (c9 x)::caps.map AV.one) h' = some (.ret (.one (.bool (p x))) h')) :
  ∃ r,W K 258 [.one (.slc b v 0 l.length 4 none),.one (.fn g [] caps)] h = some r∧Rets (fun q h'=>q = .one (.slc b v 0 (l.filter fun x=>!p x).length 4 none)∧(∃ z',Arr h' c9 b v (l.filter fun x=>!p x) z')∧h.next ≤ h'.next∧∀ y,y < h.next→y ≠ b→h'.f y = h.f y) r:=by
 refine Rets.intro fun P hP=>?_
 rcases s0H p l with ⟨hn,hm⟩ | ⟨a0,x0,r0,hl0,ha0,hx0⟩
 ·rw [hm] at hi
  have hfl:l.filter (fun x=>!p x) = l:=List.filter_eq_self.2 fun x hx=>by simp [hn x hx]
  rw [hfl] at hP
  refine H6 hp rfl rfl rfl Tryz.func258 rfl (by simp [Tryz.f258]) ?_
  simp only [Tryz.f258]
  refine c7 ?_;intro Q4 hQ4
  repeat' (first
   | (replace hQ4:=hQ4;simp [hi])
   | refine hQ4 _ _ _ ?_
   | (first | apply cF | apply wN | apply wS) <;> intro hcnd <;> (try simp only [hcnd]) <;> (try simp [-List.isEmpty_iff,-List.isEmpty_eq_false_iff] at hcnd))
  exact hP _ _ ⟨rfl,⟨z,ar⟩,oqg _,fun _ _ _=>rfl⟩
 ·have hk:=f0u (r:=r0) ha0 hx0
  rw [← hl0] at hk
  rw [hk] at hi
  have hfa:a0.filter (fun x=>!p x) = a0:=List.filter_eq_self.2 fun x hx=>by simp [ha0 x hx]
  have hll:l.length = a0.length + 1 + r0.length:=by rw [hl0];simp;omega
  have hw0:IntKind.i64.wrap ((a0.length:Int) + 1) = ((a0.length + 1:Nat):Int):=by rw [wrap_i64 (by omega) (by omega)];simp
  have hne:¬ ((a0.length:Int) = -1):=by omega
  refine H6 hp rfl rfl rfl Tryz.func258 rfl (by simp [Tryz.f258]) ?_
  simp only [Tryz.f258]
  refine c7 ?_;intro Q5 hQ5
  repeat' (first
   | (replace hQ5:=hQ5;simp [hi,hw0])
   | refine hQ5 _ _ _ ?_
   | (first | apply cF | apply wN | apply wS) <;> intro hcnd <;> (try simp only [hcnd]) <;> (try simp [-List.isEmpty_iff,-List.isEmpty_eq_false_iff] at hcnd))
  obtain ⟨I,hI⟩:∃ I:List Version→List Version→Fr→H→Prop,I = fun u w fr hh=>∃ mid:List Version,mid.length + (u.filter fun x=>!p x).length = 1 + u.length∧Arr hh c9 b v (a0++(u.filter fun x=>!p x)++mid++w) z∧h.next ≤ hh.next∧(∀ y,y < h.next→y ≠ b→hh.f y = h.f y) ∧
   ∃ j:Nat→AV,fr = ((.one (.slc b v 0 l.length 4 none))::(.one (.fn g [] caps))::j 2::j 3::j 4::(.one (ii (a0.length + (u.filter fun x=>!p x).length:Nat)))::(.one (ii (a0.length + 1 + u.length:Nat)))::j 7::j 8::j 9::j 10::j 11::j 12::j 13::j 14::j 15::j 16::j 17::j 18::j 19::j 20::j 21::j 22::j 23::j 24::j 25::j 26::j 27::j 28::j 29::j 30::j 31::j 32::j 33::j 34::j 35::j 36::j 37::j 38::j 39::j 40::j 41::[]):=⟨_,rfl⟩
  refine D5 hp r0 I ?_ ?_ _ _ (by rw [hI];exact ⟨[x0],by simp,by simpa [hl0] using ar,by simp,fun _ _ _=>rfl,s9 (by simp)⟩)
  ·intro u y w fr hh hr0 hx
   rw [hI] at hx
   obtain ⟨mid,hmid,har,hnx,hfm,j,rfl⟩:=hx
   have hlr:r0.length = u.length + 1 + w.length:=by rw [hr0];simp;omega
   have hfu:(u.filter fun x=>!p x).length ≤ u.length:=List.length_filter_le _ _
   have hbn:=har.1
   have hlt:decide ((a0.length + 1 + u.length:Nat) < (l.length:Int)) = true:=by simp;omega
   obtain ⟨fx,ex,M,hf,hM,_,hrd,hwr⟩:=har.cells C3
   have hpos:a0.length + 1 + u.length < (a0++(u.filter fun x=>!p x)++mid++y::w).length:=by simp;omega
   obtain ⟨h1,h2⟩:=hrd (a0.length + 1 + u.length) hpos
   have hget:(a0++(u.filter fun x=>!p x)++mid++y::w)[a0.length + 1 + u.length] = y:=by
    rw [List.getElem_append_right (by simp;omega)]
    have:a0.length + 1 + u.length - (a0++(u.filter fun x=>!p x)++mid).length = 0:=by simp;omega
    simp only [this,List.getElem_cons_zero]
   rw [hget] at h2
   have hx1:=O5 (P:=Tryz.prog) (size:=4) (b:=b) (v:=v) (n:=l.length) (i:=a0.length + 1 + u.length) Tryz.underlying89 (by simp) (by omega) (by omega)
   have hx2:=O5 (P:=Tryz.prog) (size:=4) (b:=b) (v:=v) (n:=l.length) (i:=a0.length + (u.filter fun x=>!p x).length) Tryz.underlying89 (by simp) (by omega) (by omega)
   have hwj:IntKind.i64.wrap (((a0.length + 1 + u.length:Nat):Int) + 1) = ((a0.length + 1 + (u++[y]).length:Nat):Int):=by rw [wrap_i64 (by omega) (by omega)];simp;omega
   have hwi:IntKind.i64.wrap (((a0.length + (u.filter fun x=>!p x).length:Nat):Int) + 1) = ((a0.length + (u.filter fun x=>!p x).length + 1:Nat):Int):=by rw [wrap_i64 (by omega) (by omega)];simp
   have hgy:=fun h' q1 q2=>hg y h' q1 q2
   have hne1:¬ b = hh.next:=by omega
   have hne2:¬ hh.next = b:=by omega
   have hly:=C3 y
   have hgy1:=hg y (hh.new ⟨0,[4],true,c9 y⟩) (by simp;omega) (fun q hq hqb=>by rw [K9,if_neg (by omega)];exact hfm q hq hqb)
   obtain ⟨kk,hkk⟩:∃ kk:Nat,a0.length + 1 + u.length = kk:=⟨_,rfl⟩
   obtain ⟨ki,hki⟩:∃ ki:Nat,a0.length + (u.filter fun x=>!p x).length = ki:=⟨_,rfl⟩
   have hki2:ki < (a0++(u.filter fun x=>!p x)++mid++y::w).length:=by simp;omega
   have h3:=(hrd ki hki2).1
   rw [hkk] at h1 h2 hx1 hwj hlt
   rw [hki] at hx2 hwi
   simp only [hkk,hki]
   have hlt2:kk < l.length:=by omega
   have hgrow:∀ k:Blk,Arr (hh.new k) c9 b v (a0++(u.filter fun x=>!p x)++mid++y::w) z:=fun k=>har.new k
   cases hpy:p y
   ·rw [hpy] at hgy1
    have hfy:((u++[y]).filter fun x=>!p x) = (u.filter fun x=>!p x)++[y]:=by simp [hpy]
    first | (refine c7 ?_;intro Q6 hQ6) | have hQ6:=oqk
    repeat' (first
     | (replace hQ6:=hQ6;simp [-lay,M8,-List.length_append,hlt2,hf,h1,h2,h3,hx1,hx2,hwj,hwi,hne1,hly,hgy1,I8 hly])
     | (refine hQ6 _ _ _ ?_;clear hQ6 Q6;first | simp only [] | simp [-lay,M8,-List.length_append,hlt,hlt2,hf,h1,h2,h3,hx1,hx2,hwj,hwi,hne1,hne2,hly,hgy1,I8 hly] | skip)
     | (refine C5 (by assumption) ?_;(try clear hQ6);first | simp only [] | simp [-lay,M8,-List.length_append,hlt,hlt2,hf,h1,h2,h3,hx1,hx2,hwj,hwi,hne1,hne2,hly,hgy1,I8 hly] | skip)
     | ((fail_if_success replace hQ6:=hQ6);(first | refine c7 ?_ | refine y5 ?_ | refine y3 ?_);intro Q6 hQ6)
     | (first | apply cF | apply wN | apply wS) <;> intro hcnd <;> (try simp only [hcnd]) <;> (try simp [-List.isEmpty_iff,-List.isEmpty_eq_false_iff] at hcnd))
    all_goals (
     obtain ⟨m0,mid',rfl⟩:∃ m0 mid',mid = m0::mid':=by
      cases mid with
      | nil=>simp at hmid;omega
      | cons m0 mid'=>exact ⟨m0,mid',rfl⟩
     rw [hI]
     refine ⟨mid'++[y], ?_, ?_, ?_, ?_, ?_⟩
     ·rw [hfy];simp at hmid ⊢;omega
     ·have hset:(a0++(u.filter fun x=>!p x)++(m0::mid')++y::w).set ki y = a0++((u++[y]).filter fun x=>!p x)++(mid'++[y])++w:=by
       rw [hfy,oqh,oqh a0,List.set_append_right _ _ (by omega),List.set_append_right _ _ (by omega)]
       have:ki - a0.length - (u.filter fun x=>!p x).length = 0:=by omega
       simp [this]
      have:=hwr ((hh.new ⟨0,[4],true,c9 y⟩).set b ⟨v,[M.length],fx,lay M (ki * 4) (c9 y)⟩) ki y hki2 (by simp;omega) (by simp)
      rw [hset] at this
      simpa [lay,hly] using this
     ·simp;omega
     ·intro q hq hqb
      rw [p0,if_neg hqb,K9,if_neg (by omega)];exact hfm q hq hqb
     ·have e1:a0.length + ((u++[y]).filter fun x=>!p x).length = ki + 1:=by rw [hfy];simp;omega
      rw [e1]
      exact s9 (by simp))
   ·rw [hpy] at hgy1
    have hfy:((u++[y]).filter fun x=>!p x) = (u.filter fun x=>!p x):=by simp [hpy]
    first | (refine c7 ?_;intro Q7 hQ7) | have hQ7:=oqk
    repeat' (first
     | (replace hQ7:=hQ7;simp [-lay,M8,-List.length_append,hlt2,hf,h1,h2,hx1,hwj,hly,hgy1,I8 hly])
     | (refine hQ7 _ _ _ ?_;clear hQ7 Q7;first | simp only [] | simp [-lay,M8,-List.length_append,hlt,hlt2,hf,h1,h2,h3,hx1,hx2,hwj,hwi,hne1,hne2,hly,hgy1,I8 hly] | skip)
     | (refine C5 (by assumption) ?_;(try clear hQ7);first | simp only [] | simp [-lay,M8,-List.length_append,hlt,hlt2,hf,h1,h2,h3,hx1,hx2,hwj,hwi,hne1,hne2,hly,hgy1,I8 hly] | skip)
     | ((fail_if_success replace hQ7:=hQ7);(first | refine c7 ?_ | refine y5 ?_ | refine y3 ?_);intro Q7 hQ7)
     | (first | apply cF | apply wN | apply wS) <;> intro hcnd <;> (try simp only [hcnd]) <;> (try simp [-List.isEmpty_iff,-List.isEmpty_eq_false_iff] at hcnd))
    all_goals (
     rw [hI]
     refine ⟨mid++[y], ?_, ?_, ?_, ?_, ?_⟩
     ·rw [hfy];simp;omega
     ·rw [hfy]
      have:=hgrow ⟨0,[4],true,c9 y⟩
      simpa using this
     ·simp;omega
     ·intro q hq hqb
      rw [K9,if_neg (by omega)];exact hfm q hq hqb
     ·rw [hfy,hki]
      exact s9 (by simp))
  ·intro fr hh hx
   rw [hI] at hx
   obtain ⟨mid,hmid,har,hnx,hfm,j,rfl⟩:=hx
   have hfu:(r0.filter fun x=>!p x).length ≤ r0.length:=List.length_filter_le _ _
   rw [List.append_nil] at har
   have har2:=f0F har
   have hlf:l.filter (fun x=>!p x) = a0++r0.filter fun x=>!p x:=by rw [hl0,List.filter_append,hfa,List.filter_cons];simp [hx0]
   obtain ⟨ki,hki⟩:∃ ki:Nat,a0.length + (r0.filter fun x=>!p x).length = ki:=⟨_,rfl⟩
   have hfl:(a0++r0.filter fun x=>!p x).length = ki:=by simp;omega
   have hml:mid.length = l.length - ki:=by omega
   have hkl:ki < l.length:=by omega
   have hlz:(cat c9 mid).length = mid.length * 4:=z7 C3 mid
   simp only [hki,← hll]
   obtain ⟨kb,hw,ha3⟩:=d0T C3 har2 (c:=d0d [ii 0,ii 0,.nilslc,.flt 0] (l.length - ki)) (by rw [oqa,hlz,hml,c0u];simp <;> omega)
   rw [hfl] at hw
   rw [hlf,hfl] at hP
   have hn0:¬ l.length - ki = 0:=by omega
   have hle:ki ≤ l.length:=by omega
   have hnl:¬ l.length < ki:=by omega
   first | (refine c7 ?_;intro Q8 hQ8) | have hQ8:=oqk
   repeat' (first
    | (replace hQ8:=hQ8;simp [-lay,-a0M,-d0d,hw,hn0,hle,hnl,J2,P2,K6,d0J])
    | (refine hQ8 _ _ _ ?_;clear hQ8 Q8;first | simp only [] | simp [-lay,-a0M,-d0d,hw,hn0,hle,hnl,hkl,J2,P2,K6,d0J] | skip)
    | (refine C5 (by assumption) ?_;(try clear hQ8);first | simp only [] | simp [-lay,-a0M,-d0d] | skip)
    | ((fail_if_success replace hQ8:=hQ8);(first | refine c7 ?_ | refine y5 ?_ | refine y3 ?_);intro Q8 hQ8)
    | (first | apply cF | apply wN | apply wS) <;> intro hcnd <;> (try simp only [hcnd]) <;> (try simp [-List.isEmpty_iff,-List.isEmpty_eq_false_iff] at hcnd))
   all_goals exact hP _ _ ⟨rfl,⟨_,ha3⟩,by simpa using hnx,fun q hq hqb=>by rw [p0,if_neg hqb];exact hfm q hq hqb⟩
theorem v0w (x:Version) (t:Int):Fun K 259 [.agg (c9 x),.one (.rp [ii t] 0)] (fun h=>.ret (.one (.bool (x.time == t))) h):=by
 obtain ⟨xt,⟨xk,xb,xn⟩⟩:=x
 simp only [c9]
 have hown:A8 S.own 259 = false:=by kernel_rfl
 refine ⟨by simp [s7,c5,l0],fun hh=>c6 rfl rfl (by kernel_rfl) Tryz.func259 rfl (by simp [Tryz.f259]) ?_⟩
 simp only [Tryz.f259]
 refine c7 ?_;intro Q9 hQ9
 repeat' (first
  | (replace hQ9:=hQ9;simp [u6,u5,p9,c5,l5,hown])
  | refine hQ9 _ _ _ ?_)
theorem y0V (x:Version) (t:Int):Fun K 261 [.agg (c9 x),.one (.rp [ii t] 0)] (fun h=>.ret (.one (.bool (x.time == t))) h):=by
 obtain ⟨xt,⟨xk,xb,xn⟩⟩:=x
 simp only [c9]
 have hown:A8 S.own 261 = false:=by kernel_rfl
 refine ⟨by simp [s7,c5,l0],fun hh=>c6 rfl rfl (by kernel_rfl) Tryz.func261 rfl (by simp [Tryz.f261]) ?_⟩
 simp only [Tryz.f261]
 refine c7 ?_;intro Q10 hQ10
 repeat' (first
  | (replace hQ10:=hQ10;simp [u6,u5,p9,c5,l5,hown])
  | refine hQ10 _ _ _ ?_)
theorem m0j {h:H} {p:Nat} {t:Int} (hf:h.f p = some ⟨0,[1],true,[ii t]⟩) (n:Nat):J8 h (n + 2) (.ptr p 0 0) = some (.rp [ii t] 0):=by
 simp [J8,hf,c5]
theorem x0c {h:H} (x:Version):(c9 x).mapM (J8 h 64) = some (c9 x):=d0x (by simp) (c0K x)
theorem x0Y {f:Nat} (hf:∀ x t,Fun K f [.agg (c9 x),.one (.rp [ii t] 0)] (fun h=>.ret (.one (.bool (x.time == t))) h)) {h:H} {p:Nat} {t:Int} (hb:h.f p = some ⟨0,[1],true,[ii t]⟩) (x:Version) :
  W K f [.agg (c9 x),.one (.ptr p 0 0)] h = some (.ret (.one (.bool (x.time == t))) h):=by
 refine (hf x t).view hp ?_
 unfold a0W
 rw [if_neg (by simp [s7,c5])]
 simp only [List.mapM_cons,List.mapM_nil,c0o,x0c,m0j hb 62,oqE,oqS,oqP]
theorem y0F {f:Nat} (hf:∀ x t,Fun K f [.agg (c9 x),.one (.rp [ii t] 0)] (fun h=>.ret (.one (.bool (x.time == t))) h)) (t:Int) (x:Version) (h:H) :
  W K f [.agg (c9 x),.one (.rp [ii t] 0)] h = some (.ret (.one (.bool (x.time == t))) h):=(hf x t).pure hp h
theorem t0W {h:H} {s:AS} {l:List Version} (a:Sl h 4 c9 s l) (n:Nat):∃ o:Option (List Version),ls o = l∧J8 h (n + 2) s = some (sl 4 c9 o):=by
 rcases a with ⟨rfl,rfl⟩ | ⟨b,v,z,rfl,ar⟩
 ·exact ⟨none,rfl,rfl⟩
 ·refine ⟨some l,rfl, ?_⟩
  have hr:=S0 (l:=[]) C3 ar
  simp only [oqc,Nat.zero_mul] at hr
  have h2:l0 false (cat c9 l) = true:=c0k _ fun x _=>d0g (st:=false) x
  have h3:∀ a ∈ cat c9 l,(∀ f x c,a ≠ .fn f x c)∧∀ t v,a ≠ .ifc t v:=by
   intro a ha
   obtain ⟨t,_,ht⟩:=List.mem_flatMap.1 ha
   exact c0K t a ht
  simp only [J8,hr,oqE,oqS,d0x h2 h3,sl]
theorem v0x {f:Nat} (hf:∀ x t,Fun K f [.agg (c9 x),.one (.rp [ii t] 0)] (fun h=>.ret (.one (.bool (x.time == t))) h)) {h:H} {p:Nat} {t:Int} (hb:h.f p = some ⟨0,[1],true,[ii t]⟩) {s:AS} {l:List Version} (a:Sl h 4 c9 s l) (hl:l.length < 1000000) :
  W K 272 [.one s,.one (.fn f [] [.ptr p 0 0])] h = some (.ret (.one (ii (idx (fun x=>x.time == t) l))) h):=by
 obtain ⟨o,ho,hv⟩:=t0W a 62
 rw [← ho] at hl ⊢
 refine (x0S o f [.rp [ii t] 0] (fun x=>x.time == t) (fun x h=>y0F hf t x h) (by simp [l0,c5]) (by omega)).view hp ?_
 unfold a0W
 rw [if_neg (by simp [s7,c5,l0])]
 have hp1:=m0j hb 61
 simp only [List.mapM_cons,List.mapM_nil,c0o,hv,oqE,oqS,oqP,J8,hb]
 simp [J8,c5]
theorem h0A {f:Nat} (hf:∀ x t,Fun K f [.agg (c9 x),.one (.rp [ii t] 0)] (fun h=>.ret (.one (.bool (x.time == t))) h)) {h:H} {p:Nat} {t:Int} (hpn:p < h.next) (hb:h.f p = some ⟨0,[1],true,[ii t]⟩) {s:AS} {l:List Version} (a:Sl h 4 c9 s l) (hs:z0 s ≠ some p) (hl:l.length < 1000000) :
  ∃ s' h',W K 258 [.one s,.one (.fn f [] [.ptr p 0 0])] h = some (.ret (.one s') h')∧Sl h' 4 c9 s' (l.filter fun x=>!(x.time == t))∧h.next ≤ h'.next∧(∀ y,y < h.next→z0 s ≠ some y→h'.f y = h.f y)∧(∀ y,z0 s' = some y→z0 s = some y)∧(s = .nilslc ↔ s' = .nilslc):=by
 have hi:=v0x hf hb a hl
 rcases a with ⟨rfl,rfl⟩ | ⟨bb,v,z,rfl,ar⟩
 ·refine ⟨.nilslc,h, ?_,.inl ⟨rfl,rfl⟩,oqg _,fun _ _ _=>rfl,fun _ h=>h,Iff.rfl⟩
  have hi':idx (fun x:Version=>x.time == t) ([]:List Version) = -1:=rfl
  rw [hi'] at hi
  refine A9 hp rfl rfl rfl Tryz.func258 rfl (by simp [Tryz.f258]) ?_
  simp only [Tryz.f258]
  refine c7 ?_;intro Q11 hQ11
  repeat' (first
   | (replace hQ11:=hQ11;simp [hi])
   | refine hQ11 _ _ _ ?_)
 ·have hbb:bb ≠ p:=fun e=>hs (by rw [e];rfl)
  obtain ⟨r,e,hr⟩:=v0p ar f [.ptr p 0 0] (fun x=>x.time == t) (by omega) hi (fun x h' hn hk=>x0Y hf (by rw [hk p hpn (Ne.symm hbb)];exact hb) x)
  obtain ⟨q,h',rfl,rfl,⟨z',a'⟩,hn,hk⟩:=hr.ret
  exact ⟨_,h',e,.inr ⟨bb,v,z',rfl,a'⟩,hn,fun y hy hyb=>hk y hy (fun e=>hyb (by rw [e];rfl)),fun y hy=>hy,by simp⟩
theorem o0r {h:H} {s:AS} {l:List Version} (w:Sl h 4 c9 s l) (i:Nat) (hi:i ≤ l.length) (x:Version) {bv:Nat} (hv:h.f bv = some ⟨0,[4],true,c9 x⟩) (hne:z0 s ≠ some bv) (hl:l.length < 1000000) :
  ∃ s' h',W K 260 [.one s,.one (ii i),.one (.slc bv 0 0 1 4 none)] h = some (.ret (.one s') h')∧(∃ b v z,s' = .slc b v 0 (l.insertIdx i x).length 4 none∧Arr h' c9 b v (l.insertIdx i x) z)∧h.next ≤ h'.next∧(∀ b,b < h.next→z0 s ≠ some b→h'.f b = h.f b)∧(∀ b,z0 s' = some b→z0 s = some b ∨ h.next ≤ b):=by
 obtain ⟨s',h',e,q⟩:=i0Y (P:=Tryz.prog) (t:=89) Tryz.underlying89 (by simp) (by simp) Tryz.bytes93 (by omega) C3 w i hi x hv hne (by simp only [J6];omega) (by omega)
 exact ⟨s',h',by rw [j0D hp (g:=t0O ⟨4,48⟩) rfl];exact e,q⟩
theorem u0H {h:H} {s:AS} {l:List RC} (w:Sl h 2 a0P s l) (i:Nat) (hi:i ≤ l.length) (x:RC) {bv:Nat} (hv:h.f bv = some ⟨0,[2],true,a0P x⟩) (hne:z0 s ≠ some bv) (hl:l.length < 1000000) :
  ∃ s' h',W K 257 [.one s,.one (ii i),.one (.slc bv 0 0 1 2 none)] h = some (.ret (.one s') h')∧(∃ b v z,s' = .slc b v 0 (l.insertIdx i x).length 2 none∧Arr h' a0P b v (l.insertIdx i x) z)∧h.next ≤ h'.next∧(∀ b,b < h.next→z0 s ≠ some b→h'.f b = h.f b)∧(∀ b,z0 s' = some b→z0 s = some b ∨ h.next ≤ b):=by
 obtain ⟨s',h',e,q⟩:=i0Y (P:=Tryz.prog) (t:=79) Tryz.underlying79 (by simp) (by simp) Tryz.bytes91 (by omega) c0R w i hi x hv hne (by simp only [J6];omega) (by omega)
 exact ⟨s',h',by rw [j0D hp (g:=t0O ⟨2,40⟩) rfl];exact e,q⟩
theorem t0Q {h:H} {s:AS} {rs:List RC} {o:Row} (w:RowSees h s rs o) (hp':c5 false s = true):s = sl 2 j9 o:=by
 have hs:=w.view h (oqg _) (fun _ _=>rfl)
 cases s with
 | nilslc=>simp [J8,c5] at hs;exact hs
 | vs n k cells=>simp only [J8,hp',if_true,oqI] at hs;exact hs
 | slc b v o n k c=>simp [c5] at hp'
 | _=>have:=w.arr;simp [Sees] at this
theorem q0P {h:H} {s:AS} {rs:List RC} {o:Row} (w:RowSees h s rs o) (hr:P3 o = true) (n:BL):W K 254 [.agg [s],.one (.str n)] h = some (.ret (.tup [(false,[ii (L6 (ls o) n)]),(false,[.bool (Z3 (ls o) n)])]) h):=by
 by_cases hp':c5 false s = true
 ·rw [t0Q w hp']
  exact (find_g o n hr).pure hp h
 ·refine (find_g o n hr).view hp ?_
  unfold a0W
  rw [if_neg (by simp [s7,l0,hp'])]
  have h1:J8 h 64 (.str n) = some (.str n):=by simp [J8,c5]
  simp only [List.mapM_cons,List.mapM_nil,c0o,w.view h (oqg _) (fun _ _=>rfl),h1,oqE,oqS,oqP]
theorem l0X {cs:List Column} {i:Nat} (hi:i < cs.length) (n:BL) (f:List Version→List Version):b0B cs i n f = cs.set i ⟨n,some (f (ls cs[i].l))⟩:=by
 unfold b0B
 rw [List.set_eq_take_append_cons_drop,if_pos hi,List.getElem?_eq_getElem hi];rfl
theorem p0L {cs:List Column} {i:Nat} (hi:i < cs.length) (n:BL) (f:List Version→List Version):b0B cs i n f = cs.set i ⟨n,some (f (ls ((cs[i]?).bind (·.l))))⟩:=by
 unfold b0B
 rw [List.set_eq_take_append_cons_drop,if_pos hi]
theorem x0t (o:Row) (n:BL) (t:Int) (B7:Int) (v_b:Option BL) (v_n:Nat) (hc:(I6 n && (!decide (t < 0) && (!decide (1099511627776 < t) && Q0 ⟨B7,v_b,v_n⟩))) = false) (h:H) :
  W K 238 [.agg [sl 2 j9 o],.one (.str n),.one (ii t),.agg [ii B7,bs v_b,.flt v_n]] h = some (.ret (.tup [(true,[.nilslc]),(false,[ii 1])]) h):=by
 have hn:=c0G n
 have hv:=b0d B7 v_b v_n
 cases h1:I6 n with
 | false =>
  rw [h1] at hn
  have hown:A8 S.own 238 = false:=by kernel_rfl
  refine p7 hp (by simp [s7,c5,l0]) (c6 rfl rfl (by kernel_rfl) Tryz.func238 rfl (by simp [Tryz.f238]) ?_)
  simp only [Tryz.f238]
  refine c7 ?_;intro Q1 hQ1
  repeat' (first
   | (replace hQ1:=hQ1;simp [hn,u6,u5,p9,H8,c5,l5,hown])
   | refine hQ1 _ _ _ ?_
   | (first | refine dF (id:=11) [0,1,2,3,4,5,6,7,8,9,10,11,12] [] ?_ | refine dF (id:=13) [0,1,2,3,4,5,6,7,8] [(2,4)] ?_ | refine dF (id:=14) [0,1,2,3,4,5,6,7,8,9,10] [] ?_))
 | true =>
  rw [h1] at hn hc
  by_cases t1:t < 0
  ·have c1:decide (t < 0) = true:=by simp [t1]
   have hown:A8 S.own 238 = false:=by kernel_rfl
   refine p7 hp (by simp [s7,c5,l0]) (c6 rfl rfl (by kernel_rfl) Tryz.func238 rfl (by simp [Tryz.f238]) ?_)
   simp only [Tryz.f238]
   refine c7 ?_;intro Q2 hQ2
   repeat' (first
    | (replace hQ2:=hQ2;simp [hn,t1,u6,u5,p9,H8,c5,l5,hown])
    | refine hQ2 _ _ _ ?_
    | (first | refine dF (id:=11) [0,1,2,3,4,5,6,7,8,9,10,11,12] [] ?_ | refine dF (id:=13) [0,1,2,3,4,5,6,7,8] [(2,4)] ?_ | refine dF (id:=14) [0,1,2,3,4,5,6,7,8,9,10] [] ?_))
  ·have c1:decide (t < 0) = false:=by simp [t1]
   by_cases t2:1099511627776 < t
   ·have c2:decide (1099511627776 < t) = true:=by simp [t2]
    have hown:A8 S.own 238 = false:=by kernel_rfl
    refine p7 hp (by simp [s7,c5,l0]) (c6 rfl rfl (by kernel_rfl) Tryz.func238 rfl (by simp [Tryz.f238]) ?_)
    simp only [Tryz.f238]
    refine c7 ?_;intro Q3 hQ3
    repeat' (first
     | (replace hQ3:=hQ3;simp [hn,t1,t2,u6,u5,p9,H8,c5,l5,hown])
     | refine hQ3 _ _ _ ?_
     | (first | refine dF (id:=11) [0,1,2,3,4,5,6,7,8,9,10,11,12] [] ?_ | refine dF (id:=13) [0,1,2,3,4,5,6,7,8] [(2,4)] ?_ | refine dF (id:=14) [0,1,2,3,4,5,6,7,8,9,10] [] ?_))
   ·have c2:decide (1099511627776 < t) = false:=by simp [t2]
    rw [c1,c2] at hc
    simp only [Bool.not_false,Bool.true_and] at hc
    rw [hc] at hv
    have hown:A8 S.own 238 = false:=by kernel_rfl
    refine p7 hp (by simp [s7,c5,l0]) (c6 rfl rfl (by kernel_rfl) Tryz.func238 rfl (by simp [Tryz.f238]) ?_)
    simp only [Tryz.f238]
    refine c7 ?_;intro Q4 hQ4
    repeat' (first
     | (replace hQ4:=hQ4;simp [hn,t1,t2,hv,u6,u5,p9,H8,c5,l5,hown])
     | refine hQ4 _ _ _ ?_
     | (first | refine dF (id:=11) [0,1,2,3,4,5,6,7,8,9,10,11,12] [] ?_ | refine dF (id:=13) [0,1,2,3,4,5,6,7,8] [(2,4)] ?_ | refine dF (id:=14) [0,1,2,3,4,5,6,7,8,9,10] [] ?_))
theorem put_c (o:Row) (ho:(ls o).length < 1000000) (n:BL) (t:Int) (B7:Int) (v_b:Option BL) (v_n:Nat) (h:H) :
  W K 238 [.agg [sl 2 j9 o],.one (.str n),.one (ii t),.agg [ii B7,bs v_b,.flt v_n]] h = some (.ret (.tup [(true,D6 (S8 o n t ⟨B7,v_b,v_n⟩).1),(false,[ii (S8 o n t ⟨B7,v_b,v_n⟩).2])]) h):=by
 cases hc:(I6 n && (!decide (t < 0) && (!decide (1099511627776 < t) && Q0 ⟨B7,v_b,v_n⟩))) with
 | false =>
  have e1:S8 o n t ⟨B7,v_b,v_n⟩ = (none,1):=by unfold S8;rw [if_pos hc]
  rw [e1]
  exact x0t o n t B7 v_b v_n hc h
 | true =>
  have hrB:=L5 o
  obtain ⟨res,hres⟩:∃ res,S8 o n t ⟨B7,v_b,v_n⟩ = res:=⟨_,rfl⟩
  rw [hres]
  unfold S8 at hres
  rw [if_neg (by rw [hc];simp)] at hres
  dsimp only at hres
  have hn:=c0G n
  have hv:=b0d B7 v_b v_n
  simp only [oqd,Bool.not_eq_true',decide_eq_false_iff_not] at hc
  obtain ⟨k1,t1,t2,k4⟩:=hc
  have c1:decide (t < 0) = false:=by simp [t1]
  have c2:decide (1099511627776 < t) = false:=by simp [t2]
  rw [k1] at hn
  rw [k4] at hv
  obtain ⟨hA0,hhA0⟩:∃ hA0,hA0 = (((H.empty.new ⟨0,[1],true,[sl 2 j9 o]⟩).new ⟨0,[1],true,[ii t]⟩).new ⟨0,[3],true,[ii B7,bs v_b,.flt v_n]⟩).new ⟨0,[1],true,[.nilslc]⟩:=⟨_,rfl⟩
  obtain ⟨r1,e1,hr1⟩:=copy_c (row_sees hA0 o) ho
  obtain ⟨q1,hA,rfl,s1,rs1,rfl,wA,nA,fA⟩:=hr1.ret
  have hA0n:hA0.next = 4:=by rw [hhA0];rfl
  rw [hA0n] at wA nA fA
  have f1:hA.f 1 = some ⟨0,[1],true,[ii t]⟩:=by rw [fA 1 (by omega),hhA0];simp
  have f2:hA.f 2 = some ⟨0,[3],true,[ii B7,bs v_b,.flt v_n]⟩:=by rw [fA 2 (by omega),hhA0];simp
  have f3:hA.f 3 = some ⟨0,[1],true,[.nilslc]⟩:=by rw [fA 3 (by omega),hhA0];simp
  rw [hhA0] at e1
  have wB:=wA.new ⟨0,[1],true,[s1]⟩
  have hfi:=q0P (RowAt.sees wB) hrB n
  generalize hO:rowCopy o = O at *
  generalize hI:L6 (ls O) n = I at *
  generalize hTb:Z3 (ls O) n = T at *
  have hm1:¬ 1 = hA.next:=by omega
  have hm2:¬ 2 = hA.next:=by omega
  have hm3:¬ 3 = hA.next:=by omega
  have hvb:B7 = 1→(ls v_b).length ≤ 1099511627776:=by
   intro hk
   simp only [Q0,hk,beq_self_eq_true,Bool.true_and,Bool.or_eq_true,oqj,d0E] at k4
   rcases k4 with h | h
   ·omega
   ·simp at h
  have hlenO:(ls O).length ≤ 4:=by simp only [P3,oqd,oqj] at hrB;exact hrB.2
  have hallO:(ls O).all a0t = true:=by simp only [P3,oqd] at hrB;exact hrB.1.1
  have hrl:=wA.col.len
  have hIle:I ≤ (ls O).length:=by rw [← hI];exact d0U _ _
  have hla:∀ (u:TypeId) (h':H),O7 s1 (some (.slice u)) h' = some (one (ii (ls O).length) h'):=fun u h'=>by
   have:=O4 h' u (wA.arr.sees c0R) (by omega) (z7 c0R rs1)
   rw [this,hrl]
  obtain ⟨p,hpe⟩:∃ p,p = hA.next:=⟨_,rfl⟩
  cases T with
  | false =>
   by_cases hl4:(ls O).length = 4
   ·rw [if_pos ⟨rfl,hl4⟩] at hres
    subst hres
    have hla4:∀ (u:TypeId) (h':H),O7 s1 (some (.slice u)) h' = some (one (ii 4) h'):=fun u h'=>by rw [hla,hl4];rfl
    have hsn:sl 2 j9 none = .nilslc:=rfl
    have hown:A8 S.own 238 = false:=by kernel_rfl
    refine p7 hp (by simp [s7,c5,l0]) (c6 rfl rfl (by kernel_rfl) Tryz.func238 rfl (by simp [Tryz.f238]) ?_)
    simp only [Tryz.f238]
    refine c7 ?_;intro Q5 hQ5
    repeat' (first
     | (replace hQ5:=hQ5;simp [hn,t1,t2,hv,e1,hfi,hla4,D6,hsn,f3,hm3,u6,u5,p9,H8,c5,l5,hown])
     | refine hQ5 _ _ _ ?_
     | (first | refine dF (id:=11) [0,1,2,3,4,5,6,7,8,9,10,11,12] [] ?_ | refine dF (id:=13) [0,1,2,3,4,5,6,7,8] [(2,4)] ?_ | refine dF (id:=14) [0,1,2,3,4,5,6,7,8,9,10] [] ?_))
   ·rw [if_neg (by rintro ⟨_,h⟩;exact hl4 h)] at hres
    simp only [oqF,if_false] at hres
    have hl4b:(((ls O).length:Int) == 4) = false:=by simp;omega
    have hl4c:¬ ((ls O).length:Int) = 4:=by omega
    obtain ⟨s2,hD,e2,⟨b,v,z,hs2,ar2⟩,nD,fD,oD⟩:=u0H (h:=(hA.new ⟨0,[1],true,[s1]⟩).new ⟨0,[2],true,a0P (n,.nilslc)⟩) (wB.new _).arr I (by omega) (n,.nilslc) (bv:=hA.next + 1) (by simp) (fun e=>by have:=wA.arr.lt e;omega) (by omega)
    simp only [A1] at nD fD oD
    have own1:∀ x,z0 s1 = some x→x < hA.next:=fun x hx=>wA.arr.lt hx
    have hDp:hD.f p = some ⟨0,[1],true,[s1]⟩:=by rw [fD p (by omega) (fun e=>by have:=own1 p e;omega),u4 (by simp;omega)];simp [hpe]
    have w2:=RowAt.insNil (wB.new ⟨0,[2],true,a0P (n,.nilslc)⟩) (by simp;omega) (i:=I) (by omega) hs2 ar2 (by simp;omega) (fun x hx hxx=>fD x (by simpa using hx) hxx) (fun x hx=>by
     rcases oD x hx with e | e
     ·exact .inl e
     ·exact .inr (by simpa using e))
    have hs2p:z0 s2 ≠ some p:=fun e=>by
     rcases oD p e with e | e
     ·have:=own1 p e;omega
     ·omega
    obtain ⟨hT,hhT⟩:∃ hT,hT = hD.set p ⟨0,[1],true,[s2]⟩:=⟨_,rfl⟩
    have w3:RowAt hT 4 s2 (rs1.insertIdx I (n,.nilslc)) (some ((ls O).insertIdx I ⟨n,none⟩)):=w2.keep (by rw [hhT];simp) fun x hx hxx=>by
     rw [hhT,p0,if_neg]
     rintro rfl
     rcases hxx with e | e
     ·exact hs2p e
     ·rw [h0n (by omega)] at e
      have:=(wA.col.lt _ e).2;omega
    have own0:∀ x,x < 4→hT.f x = hA.f x:=fun x hx=>by
     rw [hhT,p0,if_neg (by omega),fD x (by omega) (fun e=>by have:=(wA.own x e).1;omega),u4 (by simp;omega),u4 (by omega)]
    have j1:hT.f 1 = some ⟨0,[1],true,[ii t]⟩:=by rw [own0 1 (by omega)];exact f1
    have j2:hT.f 2 = some ⟨0,[3],true,[ii B7,bs v_b,.flt v_n]⟩:=by rw [own0 2 (by omega)];exact f2
    have j3:hT.f 3 = some ⟨0,[1],true,[.nilslc]⟩:=by rw [own0 3 (by omega)];exact f3
    have fp:hT.f p = some ⟨0,[1],true,[s2]⟩:=by rw [hhT];simp
    have hpn:p < hT.next:=by rw [hhT];simp;omega
    clear f1 f2 f3
    have f1:=j1;have f2:=j2;have f3:=j3
    clear j1 j2 j3
    have hI2:I < (rs1.insertIdx I (n,.nilslc)).length:=by rw [List.length_insertIdx,if_pos (by omega)];omega
    have hpb:p ∉ Z6 (rs1.insertIdx I (n,.nilslc)):=by rw [h0n (by omega)];intro h;have:=(wA.col.lt _ h).2;omega
    have hget2:((ls O).insertIdx I (⟨n,none⟩:Column))[I]? = some ⟨n,none⟩:=by rw [a0E hIle,List.getElem?_append_right (by simp;omega)];simp [Nat.min_eq_left hIle]
    have hlc:((ls O).insertIdx I (⟨n,none⟩:Column)).length ≤ 5:=by rw [List.length_insertIdx,if_pos hIle];omega
    rw [p0L (by rw [List.length_insertIdx,if_pos hIle];omega),hget2] at hres
    have hget1:(rs1.insertIdx I (n,AS.nilslc))[I]? = some (n,.nilslc):=by rw [a0E (by omega),List.getElem?_append_right (by simp;omega)];simp;rw [Nat.min_eq_left (by omega)];simp
    subst hs2
    generalize hrs2:rs1.insertIdx I (n,AS.nilslc) = rs2 at *
    generalize hcs2:(ls O).insertIdx I (⟨n,none⟩:Column) = cs2 at *
    have hI3:I < cs2.length:=by have:=w3.col.len;rw [H1] at this;omega
    have hget:rs2[I] = (n,.nilslc):=by rw [List.getElem?_eq_getElem hI2] at hget1;simpa using hget1
    have hget3:cs2[I] = ⟨n,none⟩:=by rw [List.getElem?_eq_getElem hI3] at hget2;simpa using hget2
    have wI:ColAt hT 4 rs2[I] cs2[I]:=w3.col.at I hI2
    have w2:=w3
    have hbp:b ≠ p:=fun e=>hs2p (by rw [← e];rfl)
    obtain ⟨s3,h3,e3,sl3,n3,f3',o3,_⟩:=h0A v0w (h:=hT) (p:=1) (t:=t) (by omega) f1 wI.2.1 (fun e=>by have:=(wI.2.2.2 1 e).1;omega) (by rw [hget3];simp)
    have hgs:rs2[I].2 = .nilslc:=by rw [hget]
    have hs3n:s3 = .nilslc:=by
     rcases sl3 with ⟨e,_⟩ | ⟨b',v',z',e,_⟩
     ·exact e
     ·have:=o3 b' (by rw [e];rfl);rw [hgs] at this;cases this
    have hm:(ls cs2[I].l).filter (fun x=>!(x.time == t)) = []:=by rw [hget3];rfl
    rw [hm] at sl3
    obtain ⟨m,hmm⟩:∃ m:List Version,m = []:=⟨_,rfl⟩
    rw [← hmm] at sl3
    obtain ⟨K0,hK00⟩:∃ K0:Nat,K0 = 0:=⟨_,rfl⟩
    have hK0:K0 ≤ m.length:=by omega
    have hml:m.length = 0:=by rw [hmm];rfl
    have hrl2:rs2.length ≤ 5:=by rw [w3.col.len];exact hlc
    obtain ⟨hfF,hfFe⟩:∃ hfF:Nat,hfF = 0:=⟨_,rfl⟩
    obtain ⟨x5,hx5⟩:∃ x5:Version,x5 = ⟨t,J4 ⟨B7,v_b,v_n⟩⟩:=⟨_,rfl⟩
    have hcan:=g0r B7 v_b v_n hvb
    have h3n:hT.next ≤ h3.next:=n3
    obtain ⟨s4,h4,e4,⟨b4,v4,z4,hs4,ar4⟩,n4,f4,o4⟩:=o0r (h:=h3.new ⟨0,[4],true,c9 x5⟩) (s:=s3) (l:=m) (sl3.keep (by simp) fun b hb=>by rw [u4 (by have:=sl3.lt hb;omega)]) K0 hK0 x5 (bv:=h3.next) (by simp) (fun e=>by have:=sl3.lt e;omega) (by omega)
    simp only [A1] at n4 f4 o4
    have own3:∀ b,z0 s3 = some b→4 ≤ b∧b < hT.next:=fun b hb=>wI.2.2.2 b (o3 b hb)
    have own4:∀ b,z0 s4 = some b→z0 rs2[I].2 = some b ∨ h3.next < b:=fun b hb=>by
     rcases o4 b hb with e | e
     ·exact .inl (o3 b e)
     ·exact .inr (by omega)
    have f4':∀ y,y < hT.next→z0 rs2[I].2 ≠ some y→h4.f y = hT.f y:=fun y hy hny=>by
     rw [f4 y (by omega) (fun e=>hny (o3 y e)),u4 (by omega),f3' y hy hny]
    have old:∀ y,y < 4→h4.f y = hT.f y:=fun y hy=>f4' y (by omega) (fun e=>by have:=(wI.2.2.2 y e).1;omega)
    have fp4:h4.f p = some ⟨0,[1],true,[.slc b v 0 rs2.length 2 none]⟩:=by rw [f4' p hpn (fun e=>hpb (b0G hI2 e))];exact fp
    have g1:h4.f 1 = some ⟨0,[1],true,[ii t]⟩:=by rw [old 1 (by omega)];exact f1
    have g2:h4.f 2 = some ⟨0,[3],true,[ii B7,bs v_b,.flt v_n]⟩:=by rw [old 2 (by omega)];exact f2
    have g3:h4.f 3 = some ⟨0,[1],true,[.nilslc]⟩:=by rw [old 3 (by omega)];exact f3
    have hins:(m.insertIdx K0 x5).length = m.length + 1:=by rw [List.length_insertIdx,if_pos hK0]
    obtain ⟨mn,hmn⟩:∃ mn:Nat,mn = min (m.length + 1) 2:=⟨_,rfl⟩
    have hc5:ColAt h4 4 (rs2[I].1,.slc b4 v4 0 mn 4 none) ⟨cs2[I].name,some ((m.insertIdx K0 x5).take 2)⟩:=by
     have h2:Arr h4 c9 b4 v4 ((m.insertIdx K0 x5).take 2++(m.insertIdx K0 x5).drop 2) z4:=by rw [List.take_append_drop];exact ar4
     refine ⟨wI.1,.inr ⟨b4,v4,_, ?_,f0F h2⟩,by simp,fun x hx=>?_⟩
     ·simp only [H1];rw [oqo,hins,hmn,Nat.min_comm]
     ·have:=own4 x (by rw [hs4];exact hx)
      cases hx
      rcases this with e | e
      ·exact ⟨(wI.2.2.2 _ e).1,ar4.1⟩
      ·exact ⟨by omega,ar4.1⟩
    obtain ⟨fx,ex,M,hfb,hM1,hM2,w5⟩:=w2.setAt hI2 (by omega) f4' hc5 (fun x hx=>by
     rcases own4 x (by rw [hs4];exact hx) with e | e
     ·exact .inl e
     ·exact .inr (by omega))
    obtain ⟨hF,hhF⟩:∃ hF,hF = h4.set b ⟨v,[M.length],fx,lay M (I * 2 + 1) [.slc b4 v4 0 mn 4 none]⟩:=⟨_,rfl⟩
    rw [← hhF] at w5
    have hbn:b ≠ p:=hbp
    have hb4:4 ≤ b:=(w2.own b rfl).1
    have fpF:hF.f p = some ⟨0,[1],true,[.slc b v 0 rs2.length 2 none]⟩:=by rw [hhF,p0,if_neg (Ne.symm hbn)];exact fp4
    have f3F:hF.f 3 = some ⟨0,[1],true,[.nilslc]⟩:=by rw [hhF,p0,if_neg (by omega)];exact g3
    obtain ⟨r6,e6,hr6⟩:=copy_c (RowAt.sees w5) (by simp only [H1,List.length_set];omega)
    obtain ⟨q6,hG,rfl,s6,rs6,rfl,w6,n6,f6⟩:=hr6.ret
    have hFn:hT.next ≤ hF.next:=by rw [hhF];simp;omega
    have f3G:hG.f 3 = some ⟨0,[1],true,[.nilslc]⟩:=by rw [f6 3 (by omega)];exact f3F
    have w7:=(w6.keep (h':=hG.set 3 ⟨0,[1],true,[s6]⟩) (by simp) (fun x hx hxx=>by
     rw [p0,if_neg]
     rintro rfl
     rcases hxx with e | e
     ·have:=(w6.own _ e).1;omega
     ·have:=(w6.col.lt _ e).1;omega)).frz0 61
    have hx1:=O5 (P:=Tryz.prog) (size:=2) (b:=b) (v:=v) (n:=rs2.length) (i:=I) Tryz.underlying79 (by simp) (by omega) hI2
    have hsl:J2 h4 4 s4 none (some (.one (ii mn))) none = some (.slc b4 v4 0 mn 4 none):=by
     rw [hs4,hins]
     have q1:mn ≤ m.length + 1:=by rw [hmn];exact Nat.min_le_left _ _
     simp [J2,P2,q1]
    rw [hhF] at e6
    have hsrc:∃ fx0 ex0 M0,hT.f b = some ⟨v,M0.length::ex0,fx0,M0⟩∧I * 2 + 2 ≤ M0.length∧sub M0 (I * 2 + 1) 1 = some [rs2[I].2]:=by
     rcases w2.arr with ⟨e,_⟩ | ⟨b',v',z',e,ar⟩
     ·cases e
     ·cases e
      obtain ⟨fx0,ex0,M0,g4,_,_,g5,_⟩:=ar.cells c0R
      obtain ⟨g6,g7⟩:=g5 I hI2
      exact ⟨fx0,ex0,M0,g4,g6,by rw [a0v g7 (o:=1) (n:=1) (by omega)];rfl⟩
    obtain ⟨fx0,ex0,M0,hfb0,hM01,hM02⟩:=hsrc
    have hM03:I * 2 + 1 + 1 ≤ M0.length:=by omega
    have hM3:I * 2 + 1 + 1 ≤ M.length:=by omega
    subst hpe
    simp only [hgs] at *
    subst hs3n hmm hK00
    have hmn1:mn = 1:=by rw [hmn];rfl
    subst hmn1
    have hn3:cs2[I].name = n:=by rw [hget3]
    obtain ⟨R1,R2⟩:=res
    simp only [oqM] at hres
    obtain ⟨hR1,rfl⟩:=hres
    have hcp:d0L (ls ((some (⟨n,none⟩:Column)).bind fun x=>x.l)) t ⟨B7,v_b,v_n⟩ = (([]:List Version).insertIdx 0 x5).take 2:=by rw [hx5];rfl
    rw [hcp,← hn3] at hR1
    rw [hR1] at w7
    have hla4:∀ (u:TypeId) (h':H),O7 s4 (some (.slice u)) h' = some (one (ii 1) h'):=fun u h'=>by rw [hs4];simp [O7,P5]
    have hpb2:¬ hA.next = b:=fun e=>hbp e.symm
    have hss:K6 Tryz.prog 89 s4 = some 4:=by rw [hs4];simp [K6]
    have hsx:c9 x5 = ii t::V3 (J4 ⟨B7,v_b,v_n⟩):=by rw [hx5];rfl
    rw [hsx] at e4
    simp only [V3] at hcan e4
    rw [show ((0:Nat):Int) = 0 from rfl] at e4
    have hsl1:J2 h4 4 s4 none (some (.one (ii 1))) none = some (.slc b4 v4 0 1 4 none):=hsl
    have hI2':I < rs2.length:=hI2
    have hown:A8 S.own 238 = false:=by kernel_rfl
    refine p7 hp (by simp [s7,-lay,c5,l0]) (c6 rfl rfl (by kernel_rfl) Tryz.func238 rfl (by simp [Tryz.f238]) ?_)
    simp only [Tryz.f238]
    refine c7 ?_;intro Q6 hQ6
    repeat' (first
     | (replace hQ6:=hQ6;simp [hn,t1,t2,hv,e1,hfi,hla,hl4b,e2,hDp,← hhT,fp,hx1,hfb0,hM02,hM03,e3,-lay,N3,N5])
     | refine hQ6 _ _ _ ?_
     | (first | refine dF (id:=11) [0,1,2,3,4,5,6,7,8,9,10,11,12] [] ?_ | refine dF (id:=13) [0,1,2,3,4,5,6,7,8] [(2,4)] ?_ | refine dF (id:=14) [0,1,2,3,4,5,6,7,8,9,10] [] ?_))
    have g1':h3.f 1 = some ⟨0,[1],true,[ii t]⟩:=by rw [f3' 1 (by omega) (by simp [z0])];exact f1
    have g2':h3.f 2 = some ⟨0,[3],true,[ii B7,bs v_b,.flt v_n]⟩:=by rw [f3' 2 (by omega) (by simp [z0])];exact f2
    have hm1':¬ 1 = h3.next:=by omega
    have hm2':¬ 2 = h3.next:=by omega
    refine N7 hp 0 (fun i fr hh=>hh = h3∧∃ j:Nat→AV,fr = (j 0::(.one (.str n))::j 2::j 3::j 4::j 5::(.one (.ptr 1 0 0))::(.one (.ptr 2 0 0))::(.one (.ptr 3 0 0))::j 9::(.one (.ptr hA.next 0 0))::(.one (ii I))::j 12::(.one .nilslc)::(.one (ii 0))::j 15::j 16::j 17::j 18::j 19::j 20::j 21::j 22::j 23::j 24::j 25::j 26::j 27::j 28::j 29::j 30::j 31::j 32::j 33::j 34::j 35::j 36::j 37::j 38::j 39::j 40::j 41::j 42::j 43::j 44::j 45::j 46::j 47::j 48::j 49::j 50::j 51::j 52::j 53::j 54::j 55::j 56::j 57::j 58::j 59::j 60::j 61::j 62::j 63::j 64::j 65::j 66::j 67::j 68::j 69::j 70::j 71::j 72::j 73::j 74::j 75::j 76::j 77::j 78::j 79::j 80::j 81::j 82::j 83::j 84::j 85::j 86::j 87::j 88::j 89::j 90::j 91::j 92::j 93::j 94::j 95::j 96::j 97::[])) ?_ ?_ _ _ ⟨rfl,s9 (by simp)⟩
    ·intro i fr hh hi;omega
    ·rintro fr hh ⟨rfl,j,rfl⟩
     first | (refine c7 ?_;intro Q7 hQ7) | have hQ7:=oqk
     repeat' (first
      | (replace hQ7:=hQ7;simp [g1',g2',hcan,e4,fp4,hla4,hsl1,hx1,hfb,hM3,e6,f3G,M9,U5,hss,hpb2,-lay,N3,N5,U8])
      | (refine hQ7 _ _ _ ?_;clear hQ7 Q7;first | simp only [] | simp [g1',g2',hm1',hm2',hcan,e4,fp4,g1,g2,g3,hla4,hsl1,hx1,hfb,hM3,e6,f3G,w7,D6,M9,U5,hss,hpb2,-lay,N3,N5,U8,u6,u5,p9,s8,H8,c5,l0,l5,hown] | skip)
      | (refine C5 (by assumption) ?_;(try clear hQ7);first | simp only [] | simp [w7,D6,-lay,u6,u5,p9,H8,c5,l5,hown] | skip)
      | ((fail_if_success replace hQ7:=hQ7);(first | refine c7 ?_ | refine y5 ?_ | refine y3 ?_);intro Q7 hQ7)
      | (first | refine dF (id:=11) [0,1,2,3,4,5,6,7,8,9,10,11,12] [] ?_ | refine dF (id:=13) [0,1,2,3,4,5,6,7,8] [(2,4)] ?_ | refine dF (id:=14) [0,1,2,3,4,5,6,7,8,9,10] [] ?_))
  | true =>
   rw [if_neg (by simp)] at hres
   simp only [if_true] at hres
   have hI3:I < (ls O).length:=by
    unfold Z3 at hTb
    rw [hI] at hTb
    cases hg:(ls O)[I]? with
    | none=>rw [hg] at hTb;cases hTb
    | some c=>exact (List.getElem?_eq_some_iff.1 hg).1
   have hn3:(ls O)[I].name = n:=by
    unfold Z3 at hTb
    rw [hI,List.getElem?_eq_getElem hI3] at hTb
    simpa using hTb
   rw [l0X hI3] at hres
   have hI2:I < rs1.length:=by omega
   have hO2:O = some (ls O):=by cases O with | none=>simp at hI3 | some l=>rfl
   rw [hO2] at wB
   obtain ⟨hT,hhT⟩:∃ hT,hT = hA.new ⟨0,[1],true,[s1]⟩:=⟨_,rfl⟩
   rw [← hhT] at wB hfi
   have hs1:∃ b v,s1 = .slc b v 0 rs1.length 2 none:=by
    rcases wA.arr with ⟨_,e⟩ | ⟨b,v,z,e,_⟩
    ·rw [e] at hI2;simp at hI2
    ·exact ⟨b,v,e⟩
   obtain ⟨b,v,rfl⟩:=hs1
   have hbp:b ≠ p:=fun e=>by have:=wA.arr.lt (b:=b) rfl;omega
   have hpb:p ∉ Z6 rs1:=fun e=>by have:=(wA.col.lt _ e).2;omega
   have hpn:p < hT.next:=by rw [hhT];simp;omega
   have fp:hT.f p = some ⟨0,[1],true,[.slc b v 0 rs1.length 2 none]⟩:=by rw [hhT];simp [hpe]
   have j1:hT.f 1 = some ⟨0,[1],true,[ii t]⟩:=by rw [hhT,u4 hm1];exact f1
   have j2:hT.f 2 = some ⟨0,[3],true,[ii B7,bs v_b,.flt v_n]⟩:=by rw [hhT,u4 hm2];exact f2
   have j3:hT.f 3 = some ⟨0,[1],true,[.nilslc]⟩:=by rw [hhT,u4 hm3];exact f3
   clear f1 f2 f3
   have f1:=j1;have f2:=j2;have f3:=j3
   clear j1 j2 j3
   obtain ⟨rs2,hrs2⟩:∃ rs2,rs2 = rs1:=⟨_,rfl⟩
   subst hrs2
   generalize hcs2:ls O = cs2 at *
   have hall2:=hallO
   have hn4:=hn3
   have hrl3:rs2.length = cs2.length:=hrl
   have w2:=wB
   have wI:ColAt hT 4 rs2[I] cs2[I]:=w2.col.at I hI2
   have hrl2:rs2.length ≤ 5:=by omega
   have hlc:cs2.length ≤ 5:=by omega
   obtain ⟨hcl2,hcl3,_⟩:=colB_inv (oqn.1 hall2 _ (List.getElem_mem hI3))
   obtain ⟨s3,h3,e3,sl3,n3,f3',o3,hnil3⟩:=h0A v0w (h:=hT) (p:=1) (t:=t) (by omega) f1 wI.2.1 (fun e=>by have:=(wI.2.2.2 1 e).1;omega) (by omega)
   have hnn:rs2[I].2 ≠ .nilslc:=fun e=>hcl3 (by rw [wI.2.2.1.1 e];rfl)
   obtain ⟨m,hmm⟩:∃ m,m = (ls cs2[I].l).filter (fun x=>!(x.time == t)):=⟨_,rfl⟩
   rw [← hmm] at sl3
   have hml:m.length ≤ 2:=by rw [hmm];have:=List.length_filter_le (fun x:Version=>!(x.time == t)) (ls cs2[I].l);omega
   obtain ⟨K0,hK00⟩:∃ K0,K0 = (m.takeWhile fun x=>decide (t < x.time)).length:=⟨_,rfl⟩
   have hK0:K0 ≤ m.length:=by rw [hK00];exact k0A _ _
   have hs3n:∃ b3 v3 z3,s3 = .slc b3 v3 0 m.length 4 none∧Arr h3 c9 b3 v3 m z3:=by
    rcases sl3 with ⟨e,_⟩ | ⟨b',v',z',e,ar⟩
    ·exact absurd (hnil3.2 e) hnn
    ·exact ⟨b',v',z',e,ar⟩
   obtain ⟨b3,v3,z3,hs3n,ar3⟩:=hs3n
   obtain ⟨x5,hx5⟩:∃ x5:Version,x5 = ⟨t,J4 ⟨B7,v_b,v_n⟩⟩:=⟨_,rfl⟩
   have hcan:=g0r B7 v_b v_n hvb
   have h3n:hT.next ≤ h3.next:=n3
   obtain ⟨s4,h4,e4,⟨b4,v4,z4,hs4,ar4⟩,n4,f4,o4⟩:=o0r (h:=h3.new ⟨0,[4],true,c9 x5⟩) (s:=s3) (l:=m) (sl3.keep (by simp) fun b hb=>by rw [u4 (by have:=sl3.lt hb;omega)]) K0 hK0 x5 (bv:=h3.next) (by simp) (fun e=>by have:=sl3.lt e;omega) (by omega)
   simp only [A1] at n4 f4 o4
   have own3:∀ b,z0 s3 = some b→4 ≤ b∧b < hT.next:=fun b hb=>wI.2.2.2 b (o3 b hb)
   have own4:∀ b,z0 s4 = some b→z0 rs2[I].2 = some b ∨ h3.next < b:=fun b hb=>by
    rcases o4 b hb with e | e
    ·exact .inl (o3 b e)
    ·exact .inr (by omega)
   have f4':∀ y,y < hT.next→z0 rs2[I].2 ≠ some y→h4.f y = hT.f y:=fun y hy hny=>by
    rw [f4 y (by omega) (fun e=>hny (o3 y e)),u4 (by omega),f3' y hy hny]
   have old:∀ y,y < 4→h4.f y = hT.f y:=fun y hy=>f4' y (by omega) (fun e=>by have:=(wI.2.2.2 y e).1;omega)
   have fp4:h4.f p = some ⟨0,[1],true,[.slc b v 0 rs2.length 2 none]⟩:=by rw [f4' p hpn (fun e=>hpb (b0G hI2 e))];exact fp
   have g1:h4.f 1 = some ⟨0,[1],true,[ii t]⟩:=by rw [old 1 (by omega)];exact f1
   have g2:h4.f 2 = some ⟨0,[3],true,[ii B7,bs v_b,.flt v_n]⟩:=by rw [old 2 (by omega)];exact f2
   have g3:h4.f 3 = some ⟨0,[1],true,[.nilslc]⟩:=by rw [old 3 (by omega)];exact f3
   have hins:(m.insertIdx K0 x5).length = m.length + 1:=by rw [List.length_insertIdx,if_pos hK0]
   obtain ⟨mn,hmn⟩:∃ mn:Nat,mn = min (m.length + 1) 2:=⟨_,rfl⟩
   have hc5:ColAt h4 4 (rs2[I].1,.slc b4 v4 0 mn 4 none) ⟨cs2[I].name,some ((m.insertIdx K0 x5).take 2)⟩:=by
    have h2:Arr h4 c9 b4 v4 ((m.insertIdx K0 x5).take 2++(m.insertIdx K0 x5).drop 2) z4:=by rw [List.take_append_drop];exact ar4
    refine ⟨wI.1,.inr ⟨b4,v4,_, ?_,f0F h2⟩,by simp,fun x hx=>?_⟩
    ·simp only [H1];rw [oqo,hins,hmn,Nat.min_comm]
    ·have:=own4 x (by rw [hs4];exact hx)
     cases hx
     rcases this with e | e
     ·exact ⟨(wI.2.2.2 _ e).1,ar4.1⟩
     ·exact ⟨by omega,ar4.1⟩
   obtain ⟨fx,ex,M,hfb,hM1,hM2,w5⟩:=w2.setAt hI2 (by omega) f4' hc5 (fun x hx=>by
    rcases own4 x (by rw [hs4];exact hx) with e | e
    ·exact .inl e
    ·exact .inr (by omega))
   obtain ⟨hF,hhF⟩:∃ hF,hF = h4.set b ⟨v,[M.length],fx,lay M (I * 2 + 1) [.slc b4 v4 0 mn 4 none]⟩:=⟨_,rfl⟩
   rw [← hhF] at w5
   have hbn:b ≠ p:=hbp
   have hb4:4 ≤ b:=(w2.own b rfl).1
   have fpF:hF.f p = some ⟨0,[1],true,[.slc b v 0 rs2.length 2 none]⟩:=by rw [hhF,p0,if_neg (Ne.symm hbn)];exact fp4
   have f3F:hF.f 3 = some ⟨0,[1],true,[.nilslc]⟩:=by rw [hhF,p0,if_neg (by omega)];exact g3
   obtain ⟨r6,e6,hr6⟩:=copy_c (RowAt.sees w5) (by simp only [H1,List.length_set];omega)
   obtain ⟨q6,hG,rfl,s6,rs6,rfl,w6,n6,f6⟩:=hr6.ret
   have hFn:hT.next ≤ hF.next:=by rw [hhF];simp;omega
   have f3G:hG.f 3 = some ⟨0,[1],true,[.nilslc]⟩:=by rw [f6 3 (by omega)];exact f3F
   have w7:=(w6.keep (h':=hG.set 3 ⟨0,[1],true,[s6]⟩) (by simp) (fun x hx hxx=>by
    rw [p0,if_neg]
    rintro rfl
    rcases hxx with e | e
    ·have:=(w6.own _ e).1;omega
    ·have:=(w6.col.lt _ e).1;omega)).frz0 61
   have hx1:=O5 (P:=Tryz.prog) (size:=2) (b:=b) (v:=v) (n:=rs2.length) (i:=I) Tryz.underlying79 (by simp) (by omega) hI2
   have hsl:J2 h4 4 s4 none (some (.one (ii mn))) none = some (.slc b4 v4 0 mn 4 none):=by
    rw [hs4,hins]
    have q1:mn ≤ m.length + 1:=by rw [hmn];exact Nat.min_le_left _ _
    simp [J2,P2,q1]
   rw [hhF] at e6
   have hsrc:∃ fx0 ex0 M0,hT.f b = some ⟨v,M0.length::ex0,fx0,M0⟩∧I * 2 + 2 ≤ M0.length∧sub M0 (I * 2 + 1) 1 = some [rs2[I].2]:=by
    rcases w2.arr with ⟨e,_⟩ | ⟨b',v',z',e,ar⟩
    ·cases e
    ·cases e
     obtain ⟨fx0,ex0,M0,g4,_,_,g5,_⟩:=ar.cells c0R
     obtain ⟨g6,g7⟩:=g5 I hI2
     exact ⟨fx0,ex0,M0,g4,g6,by rw [a0v g7 (o:=1) (n:=1) (by omega)];rfl⟩
   obtain ⟨fx0,ex0,M0,hfb0,hM01,hM02⟩:=hsrc
   have hM03:I * 2 + 1 + 1 ≤ M0.length:=by omega
   have hM3:I * 2 + 1 + 1 ≤ M.length:=by omega
   subst hs3n
   subst hpe
   obtain ⟨R1,R2⟩:=res
   simp only [oqM] at hres
   obtain ⟨hR1,rfl⟩:=hres
   have hcp:d0L (ls cs2[I].l) t ⟨B7,v_b,v_n⟩ = (m.insertIdx K0 x5).take 2:=by rw [hx5,hK00,hmm];rfl
   rw [hcp,← hn4] at hR1
   rw [hR1] at w7
   have hmin:(if (2:Int) < (m.length:Int) + 1 then (2:Int) else (m.length:Int) + 1) = (mn:Int):=by rw [hmn];split <;> omega
   have hla4:∀ (u:TypeId) (h':H),O7 s4 (some (.slice u)) h' = some (one (ii ((m.length:Int) + 1)) h'):=fun u h'=>by rw [hs4];simp [O7,P5,hins]
   have hpb2:¬ hA.next = b:=fun e=>hbp e.symm
   have hss:K6 Tryz.prog 89 s4 = some 4:=by rw [hs4];simp [K6]
   have hsx:c9 x5 = ii t::V3 (J4 ⟨B7,v_b,v_n⟩):=by rw [hx5];rfl
   rw [hsx] at e4
   simp only [V3] at hcan e4
   obtain ⟨c0,hc0⟩:∃ c0,c0 = rs2[I].2:=⟨_,rfl⟩
   rw [← hc0] at hM02 e3
   have hown:A8 S.own 238 = false:=by kernel_rfl
   refine p7 hp (by simp [s7,-lay,c5,l0]) (c6 rfl rfl (by kernel_rfl) Tryz.func238 rfl (by simp [Tryz.f238]) ?_)
   simp only [Tryz.f238]
   refine c7 ?_;intro Q8 hQ8
   repeat' (first
    | (replace hQ8:=hQ8;simp [hn,t1,t2,hv,e1,← hhT,hfi,fp,hx1,hfb0,hM02,hM03,e3,-lay,N3,N5])
    | refine hQ8 _ _ _ ?_
    | (first | refine dF (id:=11) [0,1,2,3,4,5,6,7,8,9,10,11,12] [] ?_ | refine dF (id:=13) [0,1,2,3,4,5,6,7,8] [(2,4)] ?_ | refine dF (id:=14) [0,1,2,3,4,5,6,7,8,9,10] [] ?_))
   have hown1:¬ b3 = 1:=fun e=>by have:=(own3 b3 rfl).1;omega
   have g1':h3.f 1 = some ⟨0,[1],true,[ii t]⟩:=by rw [f3' 1 (by omega) (fun e=>by have:=(wI.2.2.2 _ e).1;omega)];exact f1
   have g2':h3.f 2 = some ⟨0,[3],true,[ii B7,bs v_b,.flt v_n]⟩:=by rw [f3' 2 (by omega) (fun e=>by have:=(wI.2.2.2 _ e).1;omega)];exact f2
   have hm1':¬ 1 = h3.next:=by omega
   have hm2':¬ 2 = h3.next:=by omega
   obtain ⟨fx3,ex3,M3,hfb3,_,_,hrd3,_⟩:=ar3.cells C3
   refine a0L hp (fun mm fr hh=>hh = h3∧∃ k:Nat,k ≤ K0∧mm = K0 - k∧∃ j:Nat→AV,fr = (j 0::(.one (.str n))::j 2::j 3::j 4::j 5::(.one (.ptr 1 0 0))::(.one (.ptr 2 0 0))::(.one (.ptr 3 0 0))::j 9::(.one (.ptr hA.next 0 0))::(.one (ii I))::j 12::(.one (.slc b3 v3 0 m.length 4 none))::(.one (ii k))::j 15::j 16::j 17::j 18::j 19::j 20::j 21::j 22::j 23::j 24::j 25::j 26::j 27::j 28::j 29::j 30::j 31::j 32::j 33::j 34::j 35::j 36::j 37::j 38::j 39::j 40::j 41::j 42::j 43::j 44::j 45::j 46::j 47::j 48::j 49::j 50::j 51::j 52::j 53::j 54::j 55::j 56::j 57::j 58::j 59::j 60::j 61::j 62::j 63::j 64::j 65::j 66::j 67::j 68::j 69::j 70::j 71::j 72::j 73::j 74::j 75::j 76::j 77::j 78::j 79::j 80::j 81::j 82::j 83::j 84::j 85::j 86::j 87::j 88::j 89::j 90::j 91::j 92::j 93::j 94::j 95::j 96::j 97::[])) ?_ K0 _ _ ?_
   rotate_left
   ·exact ⟨rfl,0,by omega,by omega,s9 (by simp)⟩
   rintro mm fr hh ⟨rfl,k,hk1,rfl,j,rfl⟩
   by_cases hk:k < K0
   ·have hkm:k < m.length:=by omega
    obtain ⟨q1,q2⟩:=hrd3 k hkm
    have q3:=a0v q2 (o:=0) (n:=1) (by omega)
    have q4:sub (c9 m[k]) 0 1 = some [ii m[k].time]:=rfl
    rw [q4,Nat.add_zero] at q3
    have q5:=u0y (p:=fun x:Version=>decide (t < x.time)) (l:=m) (k:=k) (by omega) hkm
    simp only [oqj] at q5
    have q6:=O5 (P:=Tryz.prog) (size:=4) (b:=b3) (v:=v3) (n:=m.length) (i:=k) Tryz.underlying89 (by simp) (by omega) hkm
    have q7:k * 4 + 1 ≤ M3.length:=by omega
    have q8:IntKind.i64.wrap ((k:Int) + 1) = (k:Int) + 1:=D3 (by omega)
    generalize m[k].time = T0 at *
    first | (refine c7 ?_;intro Q9 hQ9) | have hQ9:=oqk
    repeat' (first
     | (replace hQ9:=hQ9;simp [g1',hkm,q6,hfb3,q3,q5,q7,q8,-lay])
     | (refine hQ9 _ _ _ ?_;clear hQ9 Q9;first | simp only [] | simp [g1',hkm,q6,hfb3,q3,q5,q7,q8,-lay,N3,N5,U8,u6,u5,p9,s8,H8,c5,l0,l5,hown] | skip)
     | (refine C5 (by assumption) ?_;(try clear hQ9);first | simp only [] | simp [g1',hkm,q6,hfb3,q3,q5,q7,q8,-lay,N3,N5,U8,u6,u5,p9,s8,H8,c5,l0,l5,hown] | skip)
     | ((fail_if_success replace hQ9:=hQ9);(first | refine c7 ?_ | refine y5 ?_ | refine y3 ?_);intro Q9 hQ9)
     | (first | refine dF (id:=11) [0,1,2,3,4,5,6,7,8,9,10,11,12] [] ?_ | refine dF (id:=13) [0,1,2,3,4,5,6,7,8] [(2,4)] ?_ | refine dF (id:=14) [0,1,2,3,4,5,6,7,8,9,10] [] ?_))
    all_goals exact ⟨K0 - (k + 1),by omega,trivial,k + 1,by omega,rfl,s9 (by simp)⟩
   ·have hkK:k = K0:=by omega
    subst hkK
    by_cases hkm:k < m.length
    ·obtain ⟨q1,q2⟩:=hrd3 k hkm
     have q3:=a0v q2 (o:=0) (n:=1) (by omega)
     have q4:sub (c9 m[k]) 0 1 = some [ii m[k].time]:=rfl
     rw [q4,Nat.add_zero] at q3
     have q5:¬ t < m[k].time:=by
      have:=A0E (p:=fun x:Version=>decide (t < x.time)) (l:=m) (by omega)
      simp only [decide_eq_false_iff_not,← hK00] at this
      exact this
     have q6:=O5 (P:=Tryz.prog) (size:=4) (b:=b3) (v:=v3) (n:=m.length) (i:=k) Tryz.underlying89 (by simp) (by omega) hkm
     have q7:k * 4 + 1 ≤ M3.length:=by omega
     generalize m[k].time = T0 at *
     first | (refine c7 ?_;intro Q10 hQ10) | have hQ10:=oqk
     repeat' (first
      | (replace hQ10:=hQ10;simp [g1',hkm,q6,hfb3,q3,q5,q7,g2',hcan,e4,fp4,hla4,hsl,hx1,hfb,hM3,e6,f3G,M9,U5,hmin,hss,hpb2,-lay,N3,N5,U8])
      | (refine hQ10 _ _ _ ?_;clear hQ10 Q10;first | simp only [] | simp [g1',hkm,q6,hfb3,q3,q5,q7,g2',hm1',hm2',hcan,e4,fp4,g1,g2,g3,hla4,hsl,hx1,hfb,hM3,e6,f3G,w7,D6,M9,U5,hmin,hss,hpb2,-lay,N3,N5,U8,u6,u5,p9,s8,H8,c5,l0,l5,hown] | skip)
      | (refine C5 (by assumption) ?_;(try clear hQ10);first | simp only [] | simp [w7,D6,-lay,u6,u5,p9,H8,c5,l5,hown] | skip)
      | ((fail_if_success replace hQ10:=hQ10);(first | refine c7 ?_ | refine y5 ?_ | refine y3 ?_);intro Q10 hQ10)
      | (first | refine dF (id:=11) [0,1,2,3,4,5,6,7,8,9,10,11,12] [] ?_ | refine dF (id:=13) [0,1,2,3,4,5,6,7,8] [(2,4)] ?_ | refine dF (id:=14) [0,1,2,3,4,5,6,7,8,9,10] [] ?_))
    ·first | (refine c7 ?_;intro Q11 hQ11) | have hQ11:=oqk
     repeat' (first
      | (replace hQ11:=hQ11;simp [g1',hkm,g2',hcan,e4,fp4,hla4,hsl,hx1,hfb,hM3,e6,f3G,M9,U5,hmin,hss,hpb2,-lay,N3,N5,U8])
      | (refine hQ11 _ _ _ ?_;clear hQ11 Q11;first | simp only [] | simp [g1',hkm,g2',hm1',hm2',hcan,e4,fp4,g1,g2,g3,hla4,hsl,hx1,hfb,hM3,e6,f3G,w7,D6,M9,U5,hmin,hss,hpb2,-lay,N3,N5,U8,u6,u5,p9,s8,H8,c5,l0,l5,hown] | skip)
      | (refine C5 (by assumption) ?_;(try clear hQ11);first | simp only [] | simp [w7,D6,-lay,u6,u5,p9,H8,c5,l5,hown] | skip)
      | ((fail_if_success replace hQ11:=hQ11);(first | refine c7 ?_ | refine y5 ?_ | refine y3 ?_);intro Q11 hQ11)
      | (first | refine dF (id:=11) [0,1,2,3,4,5,6,7,8,9,10,11,12] [] ?_ | refine dF (id:=13) [0,1,2,3,4,5,6,7,8] [(2,4)] ?_ | refine dF (id:=14) [0,1,2,3,4,5,6,7,8,9,10] [] ?_))
abbrev k0O (r:RC):List AS:=a0P r
theorem p0D (r:RC):(k0O r).length = 2:=rfl
theorem k0F {h:H} {b v:Nat} {l:List RC} {z:List AS} (ar:Arr h k0O b v l z) (i:Nat) (hi:i < l.length) (hl:l.length ≤ 1000000) :
  ∃ r,W K 262 [.one (.slc b v 0 l.length 2 none),.one (ii i),.one (ii (i + 1))] h = some r∧Rets (fun q h'=>q = .one (.slc b v 0 (l.length - 1) 2 none)∧(∃ z',Arr h' k0O b v (l.eraseIdx i) z')∧h'.next = h.next∧∀ y,y ≠ b→h'.f y = h.f y) r:=by
 refine Rets.intro fun P hP=>?_
 obtain ⟨h1,z1,e1,a1,hz1,n1,f1⟩:=m0c (P:=Tryz.prog) (t:=79) Tryz.underlying79 (by simp) (by simp) Tryz.bytes91 (by omega) p0D ar hi (by simp only [J6];omega)
 have hll:(l.eraseIdx i).length = l.length - 1:=by rw [List.length_eraseIdx];simp [hi]
 obtain ⟨kb,hw,a2⟩:=d0T p0D a1 (c:=[.str [],.nilslc]) (by rw [hz1];simp)
 obtain ⟨_,fx,ex,hf⟩:=a1
 rw [hll] at hw
 have hE:l.length * 2 ≤ (cat k0O (l.eraseIdx i)++z1).length:=by rw [oqa,z7 p0D,hll,hz1];omega
 generalize cat k0O (l.eraseIdx i)++z1 = M at hf hE
 have q1:(i:Int) ≤ (i:Int) + 1:=by omega
 have q2:((i:Int) + 1).toNat = i + 1:=by omega
 have q3:i ≤ i + 1:=by omega
 have q4:i + 1 ≤ l.length:=by omega
 have q5:i ≤ l.length:=by omega
 have q6:l.length - 1 ≤ l.length:=by omega
 have q7:¬ l.length ≤ l.length - 1:=by omega
 have q8:l.length - (l.length - 1) = 1:=by omega
 have q9:(0:Int) ≤ (i:Int) + 1:=by omega
 have q10:¬ (i:Int) = (i:Int) + 1:=by omega
 have q11:decide ((i:Int) = (i:Int) + 1) = false:=by simp;omega
 have q12:((i:Int) == (i:Int) + 1) = false:=by simp;omega
 have q13:¬ i + 1 < i:=by omega
 have q14:¬ l.length < i + 1:=by omega
 have q15:¬ l.length < l.length - 1:=by omega
 have q16:¬ l.length < i:=by omega
 refine H6 hp rfl rfl rfl Tryz.func262 rfl (by simp [Tryz.f262]) ?_
 simp only [Tryz.f262]
 refine c7 ?_;intro Q1 hQ1
 repeat' (first
  | (replace hQ1:=hQ1;simp [-lay,-a0M,-c0X,e1,hf,hE,q2,q4,q5,q6,q7,q8,q9,q12,q13,q14,q15,hw,J2,P2,K6,d0J])
  | refine hQ1 _ _ _ ?_
  | refine dF (id:=5) [0,1,2,3,4,5,6,7] [] ?_)
 all_goals exact hP _ _ ⟨rfl,⟨_,a2⟩,by simpa using n1,fun y hy=>by rw [p0,if_neg hy];exact f1 y hy⟩
theorem v0k {h:H} {lo b v:Nat} {rs:List RC} {o:Row} (a:RowAt h lo (.slc b v 0 rs.length 2 none) rs o) {i:Nat} (hi:i < rs.length):∃ fx ex M,h.f b = some ⟨v,M.length::ex,fx,M⟩∧i * 2 + 1 + 1 ≤ M.length∧sub M (i * 2 + 1) 1 = some [rs[i].2]:=by
 rcases a.arr with ⟨e,_⟩ | ⟨b',v',z',e,ar⟩
 ·cases e
 ·cases e
  obtain ⟨fx0,ex0,M0,g4,_,_,g5,_⟩:=ar.cells c0R
  obtain ⟨g6,g7⟩:=g5 i hi
  exact ⟨fx0,ex0,M0,g4,by omega,by rw [a0v g7 (o:=1) (n:=1) (by omega)];rfl⟩
theorem at_inv {l:List Column} {n:BL} (h:Z3 l n = true):∃ hi:L6 l n < l.length,l[L6 l n].name = n:=by
 unfold Z3 at h
 cases hg:l[L6 l n]? with
 | none=>rw [hg] at h;cases h
 | some c =>
  obtain ⟨hi,e⟩:=List.getElem?_eq_some_iff.1 hg
  rw [hg] at h
  exact ⟨hi,by rw [e];simpa using h⟩
theorem dropCol_c (o:Row) (ho:(ls o).length < 1000000) (n:BL) (h:H):W K 240 [.agg [sl 2 j9 o],.one (.str n)] h = some (.ret (.agg (D6 (V0 o n))) h):=by
 have hrB:=L5 o
 obtain ⟨res,hres⟩:∃ res,V0 o n = res:=⟨_,rfl⟩
 rw [hres]
 unfold V0 at hres
 dsimp only at hres
 obtain ⟨hA0,hhA0⟩:∃ hA0,hA0 = (H.empty.new ⟨0,[1],true,[sl 2 j9 o]⟩).new ⟨0,[1],true,[.nilslc]⟩:=⟨_,rfl⟩
 obtain ⟨r1,e1,hr1⟩:=copy_c (row_sees hA0 o) ho
 obtain ⟨q1,hA,rfl,s1,rs1,rfl,wA,nA,fA⟩:=hr1.ret
 have hA0n:hA0.next = 2:=by rw [hhA0];rfl
 rw [hA0n] at wA nA fA
 have f1:hA.f 1 = some ⟨0,[1],true,[.nilslc]⟩:=by rw [fA 1 (by omega),hhA0];simp
 rw [hhA0] at e1
 obtain ⟨hT,hhT⟩:∃ hT,hT = hA.new ⟨0,[1],true,[s1]⟩:=⟨_,rfl⟩
 have wT:RowAt hT 2 s1 rs1 (rowCopy o):=by rw [hhT];exact wA.new _
 have hfi:=q0P (RowAt.sees wT) hrB n
 have hm1:¬ 1 = hA.next:=by omega
 have fp:hT.f hA.next = some ⟨0,[1],true,[s1]⟩:=by rw [hhT];simp
 have g1:hT.f 1 = some ⟨0,[1],true,[.nilslc]⟩:=by rw [hhT,u4 hm1];exact f1
 have hTn:hT.next = hA.next + 1:=by rw [hhT];rfl
 have hlenO:(ls (rowCopy o)).length ≤ 4:=by simp only [P3,oqd,oqj] at hrB;exact hrB.2
 have hrl:=wA.col.len
 cases hTb:Z3 (ls (rowCopy o)) n with
 | false =>
  rw [hTb] at hres hfi
  rw [if_pos rfl] at hres
  obtain ⟨r6,e6,hr6⟩:=copy_c (RowAt.sees wT) (by omega)
  obtain ⟨q6,hG,rfl,s6,rs6,rfl,w6,n6,f6⟩:=hr6.ret
  have f1G:hG.f 1 = some ⟨0,[1],true,[.nilslc]⟩:=by rw [f6 1 (by omega)];exact g1
  have w7:=(w6.keep (h':=hG.set 1 ⟨0,[1],true,[s6]⟩) (by simp) (fun x hx hxx=>by
   rw [p0,if_neg]
   rintro rfl
   rcases hxx with e | e
   ·have:=(w6.own _ e).1;omega
   ·have:=(w6.col.lt _ e).1;omega)).frz0 61
  rw [hres] at w7
  have hown:A8 S.own 240 = false:=by kernel_rfl
  refine p7 hp (by simp [s7,-lay,c5,l0]) (c6 rfl rfl (by kernel_rfl) Tryz.func240 rfl (by simp [Tryz.f240]) ?_)
  simp only [Tryz.f240]
  refine c7 ?_;intro Q2 hQ2
  repeat' (first
   | (replace hQ2:=hQ2;simp [e1,← hhT,fp,hfi,e6,f1G,w7,D6,-lay,N3,N5,u6,u5,l5,hown])
   | refine hQ2 _ _ _ ?_)
 | true =>
  rw [hTb] at hres hfi
  rw [if_neg (by simp)] at hres
  obtain ⟨hI3,hn3⟩:=at_inv hTb
  have hO2:rowCopy o = some (ls (rowCopy o)):=by cases hO:rowCopy o with | none=>rw [hO] at hI3;simp at hI3 | some l=>rfl
  rw [hO2] at wT
  generalize hI:L6 (ls (rowCopy o)) n = I at *
  have hI2:I < rs1.length:=by omega
  have hs1:∃ b v z,s1 = .slc b v 0 rs1.length 2 none∧Arr hT k0O b v rs1 z:=by
   rcases wT.arr with ⟨_,e⟩ | ⟨b,v,z,e,ar⟩
   ·rw [e] at hI2;simp at hI2
   ·exact ⟨b,v,z,e,ar⟩
  obtain ⟨b,v,z,rfl,ar⟩:=hs1
  have hbp:b ≠ hA.next:=fun e=>by have:=wA.arr.lt (b:=b) rfl;omega
  obtain ⟨r2,e2,hr2⟩:=k0F ar I hI2 (by omega)
  obtain ⟨q2,hD,rfl,rfl,⟨z',ar2⟩,nD,fD⟩:=hr2.ret
  have w2:=wT.eraseAt hI2 nD fD ar2
  have hDp:hD.f hA.next = some ⟨0,[1],true,[.slc b v 0 rs1.length 2 none]⟩:=by rw [fD _ (Ne.symm hbp)];exact fp
  have hb2:2 ≤ b:=(wA.own b rfl).1
  obtain ⟨hF,hhF⟩:∃ hF,hF = hD.set hA.next ⟨0,[1],true,[.slc b v 0 (rs1.length - 1) 2 none]⟩:=⟨_,rfl⟩
  have wF:RowAt hF 2 (.slc b v 0 (rs1.length - 1) 2 none) (rs1.eraseIdx I) (some ((ls (rowCopy o)).eraseIdx I)):=w2.keep (by rw [hhF];simp) fun x hx hxx=>by
   rw [hhF,p0,if_neg]
   rintro rfl
   rcases hxx with e | e
   ·cases e;exact hbp rfl
   ·have:=(wA.col.lt _ (((List.eraseIdx_sublist rs1 I).filterMap _).subset e)).2;omega
  obtain ⟨r6,e6,hr6⟩:=copy_c (RowAt.sees wF) (by rw [H1,List.length_eraseIdx];split <;> omega)
  obtain ⟨q6,hG,rfl,s6,rs6,rfl,w6,n6,f6⟩:=hr6.ret
  have hFn:hF.next = hA.next + 1:=by rw [hhF];simp [nD,hTn]
  have fpF:hF.f hA.next = some ⟨0,[1],true,[.slc b v 0 (rs1.length - 1) 2 none]⟩:=by rw [hhF];simp
  have f1F:hF.f 1 = some ⟨0,[1],true,[.nilslc]⟩:=by rw [hhF,p0,if_neg hm1,fD 1 (by omega)];exact g1
  have f1G:hG.f 1 = some ⟨0,[1],true,[.nilslc]⟩:=by rw [f6 1 (by omega)];exact f1F
  have w7:=(w6.keep (h':=hG.set 1 ⟨0,[1],true,[s6]⟩) (by simp) (fun x hx hxx=>by
   rw [p0,if_neg]
   rintro rfl
   rcases hxx with e | e
   ·have:=(w6.own _ e).1;omega
   ·have:=(w6.col.lt _ e).1;omega)).frz0 61
  rw [hres] at w7
  have hw:IntKind.i64.wrap ((I:Int) + 1) = (I:Int) + 1:=D3 (by omega)
  have hown:A8 S.own 240 = false:=by kernel_rfl
  refine p7 hp (by simp [s7,-lay,c5,l0]) (c6 rfl rfl (by kernel_rfl) Tryz.func240 rfl (by simp [Tryz.f240]) ?_)
  simp only [Tryz.f240]
  refine c7 ?_;intro Q3 hQ3
  repeat' (first
   | (replace hQ3:=hQ3;simp [e1,← hhT,fp,hfi,hw,e2,hDp,← hhF,fpF,e6,f1G,w7,D6,-lay,N3,N5,u6,u5,l5,hown])
   | refine hQ3 _ _ _ ?_)
theorem p0U {h:H} {lo:Nat} {s:AS} {rs:List RC} {o:Row} (w:RowAt h lo s rs o) (ho:(ls o).length < 1000000) {k:Nat} (hk:k < h.next) :
  ∃ s6 hG,W K 166 [.agg [s]] h = some (.ret (.agg [s6]) hG)∧(∀ b,b < h.next→hG.f b = h.f b)∧∀ x,p9 false (hG.set k ⟨0,[1],true,[s6]⟩) 64 s6 = some x ↔ x = sl 2 j9 (rowCopy o):=by
 obtain ⟨r6,e6,hr6⟩:=copy_c (RowAt.sees w) ho
 obtain ⟨q6,hG,rfl,s6,rs6,rfl,w6,n6,f6⟩:=hr6.ret
 refine ⟨s6,hG,e6,f6,fun x=>?_⟩
 rw [(w6.keep (h':=hG.set k ⟨0,[1],true,[s6]⟩) (by simp) (fun x hx hxx=>by
  rw [p0,if_neg]
  rintro rfl
  rcases hxx with e | e
  ·have:=(w6.own _ e).1;omega
  ·have:=(w6.col.lt _ e).1;omega)).frz0 61]
 exact ⟨fun e=>by cases e;rfl,fun e=>by rw [e]⟩
theorem drop_c (o:Row) (ho:(ls o).length < 1000000) (n:BL) (t:Int) (h:H):W K 239 [.agg [sl 2 j9 o],.one (.str n),.one (ii t)] h = some (.ret (.agg (D6 (a0T o n t))) h):=by
 have hrB:=L5 o
 obtain ⟨res,hres⟩:∃ res,a0T o n t = res:=⟨_,rfl⟩
 rw [hres]
 unfold a0T at hres
 dsimp only at hres
 obtain ⟨hA0,hhA0⟩:∃ hA0,hA0 = ((H.empty.new ⟨0,[1],true,[sl 2 j9 o]⟩).new ⟨0,[1],true,[ii t]⟩).new ⟨0,[1],true,[.nilslc]⟩:=⟨_,rfl⟩
 obtain ⟨r1,e1,hr1⟩:=copy_c (row_sees hA0 o) ho
 obtain ⟨q1,hA,rfl,s1,rs1,rfl,wA,nA,fA⟩:=hr1.ret
 have hA0n:hA0.next = 3:=by rw [hhA0];rfl
 rw [hA0n] at wA nA fA
 have f1:hA.f 1 = some ⟨0,[1],true,[ii t]⟩:=by rw [fA 1 (by omega),hhA0];simp
 have f2:hA.f 2 = some ⟨0,[1],true,[.nilslc]⟩:=by rw [fA 2 (by omega),hhA0];simp
 rw [hhA0] at e1
 obtain ⟨hT,hhT⟩:∃ hT,hT = hA.new ⟨0,[1],true,[s1]⟩:=⟨_,rfl⟩
 have wT:RowAt hT 3 s1 rs1 (rowCopy o):=by rw [hhT];exact wA.new _
 have hfi:=q0P (RowAt.sees wT) hrB n
 have hm1:¬ 1 = hA.next:=by omega
 have hm2:¬ 2 = hA.next:=by omega
 have fp:hT.f hA.next = some ⟨0,[1],true,[s1]⟩:=by rw [hhT];simp
 have g1:hT.f 1 = some ⟨0,[1],true,[ii t]⟩:=by rw [hhT,u4 hm1];exact f1
 have g2:hT.f 2 = some ⟨0,[1],true,[.nilslc]⟩:=by rw [hhT,u4 hm2];exact f2
 have hTn:hT.next = hA.next + 1:=by rw [hhT];rfl
 have hlenO:(ls (rowCopy o)).length ≤ 4:=by simp only [P3,oqd,oqj] at hrB;exact hrB.2
 have hrl:=wA.col.len
 cases hTb:Z3 (ls (rowCopy o)) n with
 | false =>
  rw [hTb] at hres hfi
  rw [if_pos rfl] at hres
  have w7:=(wT.keep (h':=hT.set 2 ⟨0,[1],true,[s1]⟩) (by simp) (fun x hx hxx=>by
   rw [p0,if_neg]
   rintro rfl
   rcases hxx with e | e
   ·have:=(wT.own _ e).1;omega
   ·have:=(wT.col.lt _ e).1;omega)).frz0 61
  rw [hres] at w7
  have hown:A8 S.own 239 = false:=by kernel_rfl
  refine p7 hp (by simp [s7,-lay,c5,l0]) (c6 rfl rfl (by kernel_rfl) Tryz.func239 rfl (by simp [Tryz.f239]) ?_)
  simp only [Tryz.f239]
  refine c7 ?_;intro Q1 hQ1
  repeat' (first
   | (replace hQ1:=hQ1;simp [e1,← hhT,fp,hfi,g2,w7,D6,-lay,N3,N5,u6,u5,l5,hown])
   | refine hQ1 _ _ _ ?_
   | refine dF (id:=5) [0,1,2,3,4,5,6,7,8,9,10,11,12,13] [(1,10)] ?_)
 | true =>
  rw [hTb] at hres hfi
  rw [if_neg (by simp)] at hres
  obtain ⟨hI3,hn3⟩:=at_inv hTb
  have hallO:(ls (rowCopy o)).all a0t = true:=by simp only [P3,oqd] at hrB;exact hrB.1.1
  have hO2:rowCopy o = some (ls (rowCopy o)):=by cases hO:rowCopy o with | none=>rw [hO] at hI3;simp at hI3 | some l=>rfl
  rw [hO2] at wT
  generalize hI:L6 (ls (rowCopy o)) n = I at *
  generalize hcs:ls (rowCopy o) = cs at *
  have hI2:I < rs1.length:=by omega
  rw [List.getElem?_eq_getElem hI3] at hres
  simp only [oqS] at hres
  rw [l0X hI3] at hres
  have hs1:∃ b v,s1 = .slc b v 0 rs1.length 2 none:=by
   rcases wT.arr with ⟨_,e⟩ | ⟨b,v,z,e,ar⟩
   ·rw [e] at hI2;simp at hI2
   ·exact ⟨b,v,e⟩
  obtain ⟨b,v,rfl⟩:=hs1
  have hbp:b ≠ hA.next:=fun e=>by have:=wA.arr.lt (b:=b) rfl;omega
  have hb3:3 ≤ b:=(wA.own b rfl).1
  have wI:ColAt hT 3 rs1[I] cs[I]:=wT.col.at I hI2
  obtain ⟨hcl2,hcl3,_⟩:=colB_inv (oqn.1 hallO _ (List.getElem_mem hI3))
  obtain ⟨s3,h3,e3,sl3,n3,f3',o3,hnil3⟩:=h0A y0V (h:=hT) (p:=1) (t:=t) (by omega) g1 wI.2.1 (fun e=>by have:=(wI.2.2.2 1 e).1;omega) (by omega)
  have hnn:rs1[I].2 ≠ .nilslc:=fun e=>hcl3 (by rw [wI.2.2.1.1 e];rfl)
  generalize hmm:(ls cs[I].l).filter (fun x=>!(x.time == t)) = m at *
  have hc5:ColAt h3 3 (rs1[I].1,s3) ⟨n,some m⟩:=by
   refine ⟨by rw [wI.1];exact hn3,sl3,⟨fun e=>absurd (hnil3.2 e) hnn,fun e=>by simp at e⟩,fun x hx=>?_⟩
   exact ⟨(wI.2.2.2 x (o3 x hx)).1,sl3.lt hx⟩
  obtain ⟨fx,ex,M,hfb,hM1,hM2,w5⟩:=wT.setAt hI2 n3 f3' hc5 (fun x hx=>.inl (o3 x hx))
  obtain ⟨hF,hhF⟩:∃ hF,hF = h3.set b ⟨v,[M.length],fx,lay M (I * 2 + 1) [s3]⟩:=⟨_,rfl⟩
  rw [← hhF] at w5
  have hFn:hA.next < hF.next:=by rw [hhF];simp;omega
  have hrs:(rs1.set I (rs1[I].1,s3)).length = rs1.length:=List.length_set
  have hown:∀ y,y < 3→z0 rs1[I].2 ≠ some y:=fun y hy e=>by have:=(wI.2.2.2 y e).1;omega
  have hpI:z0 rs1[I].2 ≠ some hA.next:=fun e=>by have:=(wA.col.lt _ (b0G hI2 e)).2;omega
  have f3p:h3.f hA.next = some ⟨0,[1],true,[.slc b v 0 rs1.length 2 none]⟩:=by rw [f3' _ (by omega) hpI];exact fp
  have fpF:hF.f hA.next = some ⟨0,[1],true,[.slc b v 0 rs1.length 2 none]⟩:=by rw [hhF,p0,if_neg (Ne.symm hbp)];exact f3p
  have f2F:hF.f 2 = some ⟨0,[1],true,[.nilslc]⟩:=by rw [hhF,p0,if_neg (by omega),f3' 2 (by omega) (hown 2 (by omega))];exact g2
  have hM3:I * 2 + 1 + 1 ≤ M.length:=by omega
  obtain ⟨fx0,ex0,M0,hfb0,hM01,hM02⟩:=v0k wT hI2
  have w5':=w5
  rw [← hrs] at w5'
  obtain ⟨fx1,ex1,M1,hfb1,hM11,hM12⟩:=v0k w5' (i:=I) (by rw [hrs];exact hI2)
  simp only [List.getElem_set_self] at hM12
  have hx1:=O5 (P:=Tryz.prog) (size:=2) (b:=b) (v:=v) (n:=rs1.length) (i:=I) Tryz.underlying79 (by simp) (by omega) hI2
  have hla:∀ (u:TypeId) (h':H),O7 s3 (some (.slice u)) h' = some (one (ii m.length) h'):=fun u h'=>O4 h' u (sl3.sees C3) (by omega) (z7 C3 m)
  obtain ⟨c0,hc0⟩:∃ c0,c0 = rs1[I].2:=⟨_,rfl⟩
  rw [← hc0] at hM02 e3
  have hw:IntKind.i64.wrap ((I:Int) + 1) = (I:Int) + 1:=D3 (by omega)
  by_cases hm0:m = []
  ·rw [if_pos hm0] at hres
   subst hm0
   have hla0:∀ (u:TypeId) (h':H),O7 s3 (some (.slice u)) h' = some (one (ii 0) h'):=hla
   have ar:∃ z,Arr hF k0O b v (rs1.set I (rs1[I].1,s3)) z:=by
    rcases w5'.arr with ⟨e,_⟩ | ⟨b',v',z,e,ar⟩
    ·cases e
    ·cases e;exact ⟨z,ar⟩
   obtain ⟨z,ar⟩:=ar
   obtain ⟨r2,e2,hr2⟩:=k0F ar I (by rw [hrs];exact hI2) (by omega)
   rw [hrs] at e2 hr2
   obtain ⟨q2,hD,rfl,rfl,⟨z',ar2⟩,nD,fD⟩:=hr2.ret
   have w2:=RowAt.eraseAt w5' (by rw [hrs];exact hI2) nD fD ar2
   rw [hrs] at w2
   have hers:(rs1.set I (rs1[I].1,s3)).eraseIdx I = rs1.eraseIdx I:=by rw [List.eraseIdx_set_eq]
   have hecs:(cs.set I ⟨n,some []⟩).eraseIdx I = cs.eraseIdx I:=by rw [List.eraseIdx_set_eq]
   rw [hers,hecs] at w2
   have hDp:hD.f hA.next = some ⟨0,[1],true,[.slc b v 0 rs1.length 2 none]⟩:=by rw [fD _ (Ne.symm hbp)];exact fpF
   obtain ⟨hE,hhE⟩:∃ hE,hE = hD.set hA.next ⟨0,[1],true,[.slc b v 0 (rs1.length - 1) 2 none]⟩:=⟨_,rfl⟩
   have wE:RowAt hE 3 (.slc b v 0 (rs1.length - 1) 2 none) (rs1.eraseIdx I) (some (cs.eraseIdx I)):=w2.keep (by rw [hhE];simp) fun x hx hxx=>by
    rw [hhE,p0,if_neg]
    rintro rfl
    rcases hxx with e | e
    ·cases e;exact hbp rfl
    ·have:=(wA.col.lt _ (((List.eraseIdx_sublist rs1 I).filterMap _).subset e)).2;omega
   have hEn:hA.next < hE.next:=by rw [hhE];simp;omega
   obtain ⟨s6,hG,e6,f6,w7⟩:=p0U wE (by rw [H1,List.length_eraseIdx];split <;> omega) (k:=2) (by omega)
   have fpE:hE.f hA.next = some ⟨0,[1],true,[.slc b v 0 (rs1.length - 1) 2 none]⟩:=by rw [hhE];simp
   have f2G:hG.f 2 = some ⟨0,[1],true,[.nilslc]⟩:=by rw [f6 2 (by omega),hhE,p0,if_neg hm2,fD 2 (by omega)];exact f2F
   rw [hres] at w7
   have w8:=(w7 _).2 rfl
   have hown:A8 S.own 239 = false:=by kernel_rfl
   refine p7 hp (by simp [s7,-lay,c5,l0]) (c6 rfl rfl (by kernel_rfl) Tryz.func239 rfl (by simp [Tryz.f239]) ?_)
   simp only [Tryz.f239]
   refine c7 ?_;intro Q2 hQ2
   repeat' (first
    | (replace hQ2:=hQ2;simp [e1,← hhT,fp,hfi,hx1,hfb0,hM01,hM02,e3,f3p,hfb,hM3,← hhF,fpF,hfb1,hM11,hM12,hla0,hw,e2,hDp,← hhE,fpE,e6,f2G,w8,D6,-lay,N3,N5,u6,u5,l5,hown])
    | refine hQ2 _ _ _ ?_
    | refine dF (id:=5) [0,1,2,3,4,5,6,7,8,9,10,11,12,13] [(1,10)] ?_)
  ·rw [if_neg hm0] at hres
   have hmb:((m.length:Int) == 0) = false:=by simp [hm0]
   have hmc:¬ ((m.length:Int) = 0):=by simp [hm0]
   obtain ⟨s6,hG,e6,f6,w7⟩:=p0U w5 (by rw [H1,List.length_set];omega) (k:=2) (by omega)
   have f2G:hG.f 2 = some ⟨0,[1],true,[.nilslc]⟩:=by rw [f6 2 (by omega)];exact f2F
   rw [hres] at w7
   have w8:=(w7 _).2 rfl
   have hown:A8 S.own 239 = false:=by kernel_rfl
   refine p7 hp (by simp [s7,-lay,c5,l0]) (c6 rfl rfl (by kernel_rfl) Tryz.func239 rfl (by simp [Tryz.f239]) ?_)
   simp only [Tryz.f239]
   refine c7 ?_;intro Q3 hQ3
   repeat' (first
    | (replace hQ3:=hQ3;simp [e1,← hhT,fp,hfi,hx1,hfb0,hM01,hM02,e3,f3p,hfb,hM3,← hhF,fpF,hfb1,hM11,hM12,hla,hmb,e6,f2G,w8,D6,-lay,N3,N5,u6,u5,l5,hown])
    | refine hQ3 _ _ _ ?_
    | refine dF (id:=5) [0,1,2,3,4,5,6,7,8,9,10,11,12,13] [(1,10)] ?_)
end Go.Proofs.YtiagcnfmgigllaaGreat.Rw
