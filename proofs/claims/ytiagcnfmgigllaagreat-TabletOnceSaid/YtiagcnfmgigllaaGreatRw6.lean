/- A part of a proof over the abstract machine. No conditions. -/
import Derived.Test.YtiagcnfmgigllaaGreatW5
set_option linter.all false
namespace Go.Proofs.YtiagcnfmgigllaaGreat.Rw
open Go Go.Ab Wm NumPlain
set_option maxRecDepth 10000
set_option maxHeartbeats 4000000
theorem z0M (o:Option (List Version)) (g:Nat) (caps:List AS) (p:Version->Bool) (hg:∀ x h,W K g (.agg (i9 x)::caps.map AV.one) h = some (.ret (.one (.bool (p x))) h)) (hc:v9 false caps = true) (ho:(ls o).length < 9223372036854775807) :
  Fun K 272 [.one (sl 4 i9 o),.one (.fn g [] caps)] (fun h=>.ret (.one (ii (idx p (ls o)))) h):=by
 have Yb:a0M S.own 272 = false:=by kernel_rfl
 refine ⟨by simp [M5,hc,c7,v9],fun hh=>N2 rfl rfl (by kernel_rfl) Tryz.func272 rfl (by simp [Tryz.f272]) ?_⟩
 simp only [Tryz.f272]
 refine s9 ?_;intro Q1 Y1
 repeat' (first
  | (replace Y1:=Y1;simp [hc])
  | refine Y1 _ _ _ ?_
  | (first | apply cF | apply wN | apply wS) <;> intro Ya <;> (try simp only [Ya]) <;> (try simp [-List.isEmpty_iff,-List.isEmpty_eq_false_iff] at Ya))
 refine I8 hp (ls o) (fun a r fr hh=>∃ j,fr = ((.one (sl 4 i9 o))::(.one (.fn g [] caps))::j 2::j 3::(.one (ii 0))::j 5::j 6::(.one (ii (ls o).length))::(.one (ii a.length))::j 9::j 10::j 11::j 12::j 13::j 14::j 15::j 16::j 17::j 18::[])/\∀ y ∈ a,p y = false) ?_ ?_ _ _ (a0q rfl (by simp))
 ·rintro a x r fr hh hl ⟨j,rfl,ha⟩
  obtain rfl:=a0R hl
  have hi:=N6 (P:=Tryz.prog) (enc:=i9) (s:=4) (l:=a++x::r) (i:=a.length) Tryz.underlying89 (by simp) (by omega) (by simp)
  have hr:=O9 (enc:=i9) (s:=4) J0 a x r (o:=0) (n:=4) (by omega)
  have hw:IntKind.i64.wrap ((a.length:Int) + 1) = ((a++[x]).length:Int):=by rw [S4];exact J1 (by simp at ho;omega)
  have hx:=hg x
  simp only [Nat.add_zero] at hr
  first | (refine s9 ?_;intro Q2 Y2) | have Y2:=oqk
  repeat' (first
   | (replace Y2:=Y2;simp [hi,hr,hx,hw,L4 (J0 x)])
   | (refine Y2 _ _ _ ?_;clear Y2 Q2;first | simp only [] | simp [hi] | skip)
   | (refine F6 (by assumption) ?_;(try clear Y2);first | simp only [] | simp [A7,A0,z9,c7,u9,Yb] | skip)
   | ((fail_if_success replace Y2:=Y2);(first | refine s9 ?_ | refine A1 ?_ | refine A4 ?_);intro Q2 Y2)
   | (first | apply cF | apply wN | apply wS) <;> intro Ya <;> (try simp only [Ya]) <;> (try simp [-List.isEmpty_iff,-List.isEmpty_eq_false_iff] at Ya))
  all_goals first | omega | exact (f0i ha ‹_›).symm | (refine a0q (by simp) ?_;intro y hy;rcases oqe.mp hy with hy | hy;exact ha y hy;rw [List.mem_singleton.mp hy];assumption) | skip
 ·rintro fr hh ⟨j,rfl,ha⟩
  first | (refine s9 ?_;intro Q3 Y3) | have Y3:=oqk
  repeat' (first
   | (replace Y3:=Y3;simp [c0l ha])
   | (refine Y3 _ _ _ ?_;clear Y3 Q3;first | simp only [] | simp [c0l ha,A7,A0,z9,A5,L9,c7,v9,u9,Yb] | skip)
   | (refine F6 (by assumption) ?_;(try clear Y3);first | simp only [] | simp [c0l ha,A7,A0,z9,c7,u9,Yb] | skip)
   | ((fail_if_success replace Y3:=Y3);(first | refine s9 ?_ | refine A1 ?_ | refine A4 ?_);intro Q3 Y3)
   | (first | apply cF | apply wN | apply wS) <;> intro Ya <;> (try simp only [Ya]) <;> (try simp [-List.isEmpty_iff,-List.isEmpty_eq_false_iff] at Ya))
  all_goals first | done | (simp_all [-List.isEmpty_iff,-List.isEmpty_eq_false_iff,<- List.isEmpty_iff];done) | (simp_all;first | done | omega) | (simp;omega) | (intros;first | omega | (simp only [oqj] at *;omega) | (simp at *;omega))
theorem v0j {h:H} {b v:Nat} {l:List Version} {z:List AS} (ar:Arr h i9 b v l z) (g:Nat) (caps:List AS) (p:Version->Bool) (hl:l.length < 4611686018427387904) (hi:W K 272 [.one (.slc b v 0 l.length 4 none),.one (.fn g [] caps)] h = some (.ret (.one (ii (idx p l))) h))
  (hg:∀ x h',h.next <= h'.next->(∀ y,y < h.next->y ≠ b->h'.f y = h.f y)->W K g (.agg (i9 x)::caps.map AV.one) h' = some (.ret (.one (.bool (p x))) h')) :
  ∃ r,W K 258 [.one (.slc b v 0 l.length 4 none),.one (.fn g [] caps)] h = some r/\Rets (fun q h'=>q = .one (.slc b v 0 (l.filter fun x=>!p x).length 4 none)/\(∃ z',Arr h' i9 b v (l.filter fun x=>!p x) z')/\h.next <= h'.next/\∀ y,y < h.next->y ≠ b->h'.f y = h.f y) r:=by
 refine Rets.intro fun P hP=>?_
 rcases u0E p l with ⟨hn,hm⟩ | ⟨a0,x0,r0,hl0,ha0,hx0⟩
 ·rw [hm] at hi
  have hfl:l.filter (fun x=>!p x) = l:=List.filter_eq_self.2 fun x hx=>by simp [hn x hx]
  rw [hfl] at hP
  refine zzE Tryz.func258 rfl ?_
  simp only [Tryz.f258]
  intro Q4 Y4
  repeat' (first
   | (replace Y4:=Y4;simp [hi])
   | refine Y4 _ _ _ ?_
   | (first | apply cF | apply wN | apply wS) <;> intro Ya <;> (try simp only [Ya]) <;> (try simp [-List.isEmpty_iff,-List.isEmpty_eq_false_iff] at Ya))
  exact hP _ _ ⟨rfl,⟨z,ar⟩,oqg _,fun _ _ _=>rfl⟩
 ·have hk:=f0i (r:=r0) ha0 hx0
  rw [<- hl0] at hk
  rw [hk] at hi
  have hfa:a0.filter (fun x=>!p x) = a0:=List.filter_eq_self.2 fun x hx=>by simp [ha0 x hx]
  have hll:l.length = a0.length + 1 + r0.length:=by rw [hl0];simp;omega
  have hw0:IntKind.i64.wrap ((a0.length:Int) + 1) = ((a0.length + 1:Nat):Int):=by rw [wrap_i64 (by omega) (by omega)];simp
  have hne:¬ ((a0.length:Int) = -1):=by omega
  refine zzE Tryz.func258 rfl ?_
  simp only [Tryz.f258]
  intro Q5 Y5
  repeat' (first
   | (replace Y5:=Y5;simp [hi,hw0])
   | refine Y5 _ _ _ ?_
   | (first | apply cF | apply wN | apply wS) <;> intro Ya <;> (try simp only [Ya]) <;> (try simp [-List.isEmpty_iff,-List.isEmpty_eq_false_iff] at Ya))
  obtain ⟨I,hI⟩:∃ I:List Version->List Version->Fr->H->Prop,I = fun u w fr hh=>∃ mid:List Version,mid.length + (u.filter fun x=>!p x).length = 1 + u.length/\Arr hh i9 b v (a0++(u.filter fun x=>!p x)++mid++w) z/\h.next <= hh.next/\(∀ y,y < h.next->y ≠ b->hh.f y = h.f y) /\
   ∃ j:Nat->AV,fr = ((.one (.slc b v 0 l.length 4 none))::(.one (.fn g [] caps))::j 2::j 3::j 4::(.one (ii (a0.length + (u.filter fun x=>!p x).length:Nat)))::(.one (ii (a0.length + 1 + u.length:Nat)))::j 7::j 8::j 9::j 10::j 11::j 12::j 13::j 14::j 15::j 16::j 17::j 18::j 19::j 20::j 21::j 22::j 23::j 24::j 25::j 26::j 27::j 28::j 29::j 30::j 31::j 32::j 33::j 34::j 35::j 36::j 37::j 38::j 39::j 40::j 41::[]):=⟨_,rfl⟩
  refine I8 hp r0 I ?_ ?_ _ _ (by rw [hI];exact ⟨[x0],by simp,by simpa [hl0] using ar,by simp,fun _ _ _=>rfl,y0 (by simp)⟩)
  ·intro u y w fr hh hr0 hx
   rw [hI] at hx
   obtain ⟨mid,hmid,har,hnx,hfm,j,rfl⟩:=hx
   have hlr:r0.length = u.length + 1 + w.length:=by rw [hr0];simp;omega
   have hfu:(u.filter fun x=>!p x).length <= u.length:=List.length_filter_le _ _
   have hbn:=har.1
   have hlt:decide ((a0.length + 1 + u.length:Nat) < (l.length:Int)) = true:=by simp;omega
   obtain ⟨fx,ex,M,hf,hM,_,hrd,hwr⟩:=har.cells J0
   have hpos:a0.length + 1 + u.length < (a0++(u.filter fun x=>!p x)++mid++y::w).length:=by simp;omega
   obtain ⟨h1,h2⟩:=hrd (a0.length + 1 + u.length) hpos
   have hget:(a0++(u.filter fun x=>!p x)++mid++y::w)[a0.length + 1 + u.length] = y:=by
    rw [List.getElem_append_right (by simp;omega)]
    have:a0.length + 1 + u.length - (a0++(u.filter fun x=>!p x)++mid).length = 0:=by simp;omega
    simp only [this,List.getElem_cons_zero]
   rw [hget] at h2
   have hx1:=U5 (P:=Tryz.prog) (size:=4) (b:=b) (v:=v) (n:=l.length) (i:=a0.length + 1 + u.length) Tryz.underlying89 (by simp) (by omega) (by omega)
   have hx2:=U5 (P:=Tryz.prog) (size:=4) (b:=b) (v:=v) (n:=l.length) (i:=a0.length + (u.filter fun x=>!p x).length) Tryz.underlying89 (by simp) (by omega) (by omega)
   have hwj:IntKind.i64.wrap (((a0.length + 1 + u.length:Nat):Int) + 1) = ((a0.length + 1 + (u++[y]).length:Nat):Int):=by rw [wrap_i64 (by omega) (by omega)];simp;omega
   have hwi:IntKind.i64.wrap (((a0.length + (u.filter fun x=>!p x).length:Nat):Int) + 1) = ((a0.length + (u.filter fun x=>!p x).length + 1:Nat):Int):=by rw [wrap_i64 (by omega) (by omega)];simp
   have hgy:=fun h' q1 q2=>hg y h' q1 q2
   have hne1:¬ b = hh.next:=by omega
   have hne2:¬ hh.next = b:=by omega
   have hly:=J0 y
   have hgy1:=hg y (hh.new ⟨0,[4],true,i9 y⟩) (by simp;omega) (fun q hq hqb=>by rw [L8,if_neg (by omega)];exact hfm q hq hqb)
   obtain ⟨kk,hkk⟩:∃ kk:Nat,a0.length + 1 + u.length = kk:=⟨_,rfl⟩
   obtain ⟨ki,hki⟩:∃ ki:Nat,a0.length + (u.filter fun x=>!p x).length = ki:=⟨_,rfl⟩
   have hki2:ki < (a0++(u.filter fun x=>!p x)++mid++y::w).length:=by simp;omega
   have h3:=(hrd ki hki2).1
   rw [hkk] at h1 h2 hx1 hwj hlt
   rw [hki] at hx2 hwi
   simp only [hkk,hki]
   have hlt2:kk < l.length:=by omega
   have hgrow:∀ k:Blk,Arr (hh.new k) i9 b v (a0++(u.filter fun x=>!p x)++mid++y::w) z:=fun k=>har.new k
   cases hpy:p y
   ·rw [hpy] at hgy1
    have hfy:((u++[y]).filter fun x=>!p x) = (u.filter fun x=>!p x)++[y]:=by simp [hpy]
    first | (refine s9 ?_;intro Q6 Y6) | have Y6:=oqk
    repeat' (first
     | (replace Y6:=Y6;simp [-lay,J2,-List.length_append,hlt2,hf,h1,h2,h3,hx1,hx2,hwj,hwi,hne1,hly,hgy1,L4 hly])
     | (refine Y6 _ _ _ ?_;clear Y6 Q6;first | simp only [] | simp [-lay,J2,-List.length_append,hlt,hlt2,hf,h1,h2,h3,hx1,hx2,hwj,hwi,hne1,hne2,hly,hgy1,L4 hly] | skip)
     | (refine F6 (by assumption) ?_;(try clear Y6);first | simp only [] | simp [-lay,J2,-List.length_append,hlt,hlt2,hf,h1,h2,h3,hx1,hx2,hwj,hwi,hne1,hne2,hly,hgy1,L4 hly] | skip)
     | ((fail_if_success replace Y6:=Y6);(first | refine s9 ?_ | refine A1 ?_ | refine A4 ?_);intro Q6 Y6)
     | (first | apply cF | apply wN | apply wS) <;> intro Ya <;> (try simp only [Ya]) <;> (try simp [-List.isEmpty_iff,-List.isEmpty_eq_false_iff] at Ya))
    all_goals (
     obtain ⟨m0,mid',rfl⟩:∃ m0 mid',mid = m0::mid':=by
      cases mid with
      | nil=>simp at hmid;omega
      | cons m0 mid'=>exact ⟨m0,mid',rfl⟩
     rw [hI]
     refine ⟨mid'++[y], ?_, ?_, ?_, ?_, ?_⟩
     ·rw [hfy];simp at hmid |-;omega
     ·have hset:(a0++(u.filter fun x=>!p x)++(m0::mid')++y::w).set ki y = a0++((u++[y]).filter fun x=>!p x)++(mid'++[y])++w:=by
       rw [hfy,oqh,oqh a0,List.set_append_right _ _ (by omega),List.set_append_right _ _ (by omega)]
       have:ki - a0.length - (u.filter fun x=>!p x).length = 0:=by omega
       simp [this]
      have:=hwr ((hh.new ⟨0,[4],true,i9 y⟩).set b ⟨v,[M.length],fx,lay M (ki * 4) (i9 y)⟩) ki y hki2 (by simp;omega) (by simp)
      rw [hset] at this
      simpa [lay,hly] using this
     ·simp;omega
     ·intro q hq hqb
      rw [l0,if_neg hqb,L8,if_neg (by omega)];exact hfm q hq hqb
     ·have e1:a0.length + ((u++[y]).filter fun x=>!p x).length = ki + 1:=by rw [hfy];simp;omega
      rw [e1]
      exact y0 (by simp))
   ·rw [hpy] at hgy1
    have hfy:((u++[y]).filter fun x=>!p x) = (u.filter fun x=>!p x):=by simp [hpy]
    first | (refine s9 ?_;intro Q7 Y7) | have Y7:=oqk
    repeat' (first
     | (replace Y7:=Y7;simp [-lay,J2,-List.length_append,hlt2,hf,h1,h2,hx1,hwj,hly,hgy1,L4 hly])
     | (refine Y7 _ _ _ ?_;clear Y7 Q7;first | simp only [] | simp [-lay,J2,-List.length_append,hlt,hlt2,hf,h1,h2,h3,hx1,hx2,hwj,hwi,hne1,hne2,hly,hgy1,L4 hly] | skip)
     | (refine F6 (by assumption) ?_;(try clear Y7);first | simp only [] | simp [-lay,J2,-List.length_append,hlt,hlt2,hf,h1,h2,h3,hx1,hx2,hwj,hwi,hne1,hne2,hly,hgy1,L4 hly] | skip)
     | ((fail_if_success replace Y7:=Y7);(first | refine s9 ?_ | refine A1 ?_ | refine A4 ?_);intro Q7 Y7)
     | (first | apply cF | apply wN | apply wS) <;> intro Ya <;> (try simp only [Ya]) <;> (try simp [-List.isEmpty_iff,-List.isEmpty_eq_false_iff] at Ya))
    all_goals (
     rw [hI]
     refine ⟨mid++[y], ?_, ?_, ?_, ?_, ?_⟩
     ·rw [hfy];simp;omega
     ·rw [hfy]
      have:=hgrow ⟨0,[4],true,i9 y⟩
      simpa using this
     ·simp;omega
     ·intro q hq hqb
      rw [L8,if_neg (by omega)];exact hfm q hq hqb
     ·rw [hfy,hki]
      exact y0 (by simp))
  ·intro fr hh hx
   rw [hI] at hx
   obtain ⟨mid,hmid,har,hnx,hfm,j,rfl⟩:=hx
   have hfu:(r0.filter fun x=>!p x).length <= r0.length:=List.length_filter_le _ _
   rw [List.append_nil] at har
   have har2:=g0g har
   have hlf:l.filter (fun x=>!p x) = a0++r0.filter fun x=>!p x:=by rw [hl0,List.filter_append,hfa,List.filter_cons];simp [hx0]
   obtain ⟨ki,hki⟩:∃ ki:Nat,a0.length + (r0.filter fun x=>!p x).length = ki:=⟨_,rfl⟩
   have hfl:(a0++r0.filter fun x=>!p x).length = ki:=by simp;omega
   have hml:mid.length = l.length - ki:=by omega
   have hkl:ki < l.length:=by omega
   have hlz:(cat i9 mid).length = mid.length * 4:=A8 J0 mid
   simp only [hki,<- hll]
   obtain ⟨kb,hw,ha3⟩:=d0I J0 har2 (c:=f0p [ii 0,ii 0,.nilslc,.flt 0] (l.length - ki)) (by rw [oqa,hlz,hml,d0t];simp <;> omega)
   rw [hfl] at hw
   rw [hlf,hfl] at hP
   have hn0:¬ l.length - ki = 0:=by omega
   have hle:ki <= l.length:=by omega
   have hnl:¬ l.length < ki:=by omega
   first | (refine s9 ?_;intro Q8 Y8) | have Y8:=oqk
   repeat' (first
    | (replace Y8:=Y8;simp [-lay,-a0O,-f0p,hw,hn0,hle,hnl,N4,U8,N7,d0T])
    | (refine Y8 _ _ _ ?_;clear Y8 Q8;first | simp only [] | simp [-lay,-a0O,-f0p,hw,hn0,hle,hnl,hkl,N4,U8,N7,d0T] | skip)
    | (refine F6 (by assumption) ?_;(try clear Y8);first | simp only [] | simp [-lay,-a0O,-f0p] | skip)
    | ((fail_if_success replace Y8:=Y8);(first | refine s9 ?_ | refine A1 ?_ | refine A4 ?_);intro Q8 Y8)
    | (first | apply cF | apply wN | apply wS) <;> intro Ya <;> (try simp only [Ya]) <;> (try simp [-List.isEmpty_iff,-List.isEmpty_eq_false_iff] at Ya))
   all_goals exact hP _ _ ⟨rfl,⟨_,ha3⟩,by simpa using hnx,fun q hq hqb=>by rw [l0,if_neg hqb];exact hfm q hq hqb⟩
theorem w0a (x:Version) (t:Int):Fun K 259 [.agg (i9 x),.one (.rp [ii t] 0)] (fun h=>.ret (.one (.bool (x.time == t))) h):=by
 obtain ⟨xt,⟨xk,xb,xn⟩⟩:=x
 simp only [i9]
 have Yb:a0M S.own 259 = false:=by kernel_rfl
 refine ⟨by simp [M5,c7,v9],fun hh=>N2 rfl rfl (by kernel_rfl) Tryz.func259 rfl (by simp [Tryz.f259]) ?_⟩
 simp only [Tryz.f259]
 refine s9 ?_;intro Q9 Y9
 repeat' (first
  | (replace Y9:=Y9;simp [A7,A0,z9,c7,u9,Yb])
  | refine Y9 _ _ _ ?_)
theorem y0O (x:Version) (t:Int):Fun K 261 [.agg (i9 x),.one (.rp [ii t] 0)] (fun h=>.ret (.one (.bool (x.time == t))) h):=by
 obtain ⟨xt,⟨xk,xb,xn⟩⟩:=x
 simp only [i9]
 have Yb:a0M S.own 261 = false:=by kernel_rfl
 refine ⟨by simp [M5,c7,v9],fun hh=>N2 rfl rfl (by kernel_rfl) Tryz.func261 rfl (by simp [Tryz.f261]) ?_⟩
 simp only [Tryz.f261]
 refine s9 ?_;intro Q10 Y10
 repeat' (first
  | (replace Y10:=Y10;simp [A7,A0,z9,c7,u9,Yb])
  | refine Y10 _ _ _ ?_)
theorem n0h {h:H} {p:Nat} {t:Int} (hf:h.f p = some ⟨0,[1],true,[ii t]⟩) (n:Nat):N5 h (n + 2) (.ptr p 0 0) = some (.rp [ii t] 0):=by
 simp [N5,hf,c7]
theorem u0Z {h:H} (x:Version):(i9 x).mapM (N5 h 64) = some (i9 x):=f0f (by simp) (d0E x)
theorem z0a {f:Nat} (hf:∀ x t,Fun K f [.agg (i9 x),.one (.rp [ii t] 0)] (fun h=>.ret (.one (.bool (x.time == t))) h)) {h:H} {p:Nat} {t:Int} (hb:h.f p = some ⟨0,[1],true,[ii t]⟩) (x:Version) :
  W K f [.agg (i9 x),.one (.ptr p 0 0)] h = some (.ret (.one (.bool (x.time == t))) h):=by
 refine (hf x t).view hp ?_
 unfold b0s
 rw [if_neg (by simp [M5,c7])]
 simp only [List.mapM_cons,List.mapM_nil,d0b,u0Z,n0h hb 62,oqE,oqS,oqP]
theorem z0Z {f:Nat} (hf:∀ x t,Fun K f [.agg (i9 x),.one (.rp [ii t] 0)] (fun h=>.ret (.one (.bool (x.time == t))) h)) (t:Int) (x:Version) (h:H) :
  W K f [.agg (i9 x),.one (.rp [ii t] 0)] h = some (.ret (.one (.bool (x.time == t))) h):=(hf x t).pure hp h
theorem u0L {h:H} {s:AS} {l:List Version} (a:Sl h 4 i9 s l) (n:Nat):∃ o:Option (List Version),ls o = l/\N5 h (n + 2) s = some (sl 4 i9 o):=by
 rcases a with ⟨rfl,rfl⟩ | ⟨b,v,z,rfl,ar⟩
 ·exact ⟨none,rfl,rfl⟩
 ·refine ⟨some l,rfl, ?_⟩
  have hr:=V0 (l:=[]) J0 ar
  simp only [oqc,Nat.zero_mul] at hr
  have h2:v9 false (cat i9 l) = true:=d0e _ fun x _=>d0U (st:=false) x
  have h3:∀ a ∈ cat i9 l,(∀ f x c,a ≠ .fn f x c)/\∀ t v,a ≠ .ifc t v:=by
   intro a ha
   obtain ⟨t,_,ht⟩:=List.mem_flatMap.1 ha
   exact d0E t a ht
  simp only [N5,hr,oqE,oqS,f0f h2 h3,sl]
theorem v0f {f:Nat} (hf:∀ x t,Fun K f [.agg (i9 x),.one (.rp [ii t] 0)] (fun h=>.ret (.one (.bool (x.time == t))) h)) {h:H} {p:Nat} {t:Int} (hb:h.f p = some ⟨0,[1],true,[ii t]⟩) {s:AS} {l:List Version} (a:Sl h 4 i9 s l) (hl:l.length < 1000000) :
  W K 272 [.one s,.one (.fn f [] [.ptr p 0 0])] h = some (.ret (.one (ii (idx (fun x=>x.time == t) l))) h):=by
 obtain ⟨o,ho,hv⟩:=u0L a 62
 rw [<- ho] at hl |-
 refine (z0M o f [.rp [ii t] 0] (fun x=>x.time == t) (fun x h=>z0Z hf t x h) (by simp [v9,c7]) (by omega)).view hp ?_
 unfold b0s
 rw [if_neg (by simp [M5,c7,v9])]
 have hp1:=n0h hb 61
 simp only [List.mapM_cons,List.mapM_nil,d0b,hv,oqE,oqS,oqP,N5,hb]
 simp [N5,c7]
theorem i0v {f:Nat} (hf:∀ x t,Fun K f [.agg (i9 x),.one (.rp [ii t] 0)] (fun h=>.ret (.one (.bool (x.time == t))) h)) {h:H} {p:Nat} {t:Int} (hpn:p < h.next) (hb:h.f p = some ⟨0,[1],true,[ii t]⟩) {s:AS} {l:List Version} (a:Sl h 4 i9 s l) (hs:z7 s ≠ some p) (hl:l.length < 1000000) :
  ∃ s' h',W K 258 [.one s,.one (.fn f [] [.ptr p 0 0])] h = some (.ret (.one s') h')/\Sl h' 4 i9 s' (l.filter fun x=>!(x.time == t))/\h.next <= h'.next/\(∀ y,y < h.next->z7 s ≠ some y->h'.f y = h.f y)/\(∀ y,z7 s' = some y->z7 s = some y)/\(s = .nilslc ↔ s' = .nilslc):=by
 have hi:=v0f hf hb a hl
 rcases a with ⟨rfl,rfl⟩ | ⟨bb,v,z,rfl,ar⟩
 ·refine ⟨.nilslc,h, ?_,.inl ⟨rfl,rfl⟩,oqg _,fun _ _ _=>rfl,fun _ h=>h,Iff.rfl⟩
  have hi':idx (fun x:Version=>x.time == t) ([]:List Version) = -1:=rfl
  rw [hi'] at hi
  refine zzD Tryz.func258 rfl ?_
  simp only [Tryz.f258]
  intro Q11 Y11
  repeat' (first
   | (replace Y11:=Y11;simp [hi])
   | refine Y11 _ _ _ ?_)
 ·have hbb:bb ≠ p:=fun e=>hs (by rw [e];rfl)
  obtain ⟨r,e,hr⟩:=v0j ar f [.ptr p 0 0] (fun x=>x.time == t) (by omega) hi (fun x h' hn hk=>z0a hf (by rw [hk p hpn (Ne.symm hbb)];exact hb) x)
  obtain ⟨q,h',rfl,rfl,⟨z',a'⟩,hn,hk⟩:=hr.ret
  exact ⟨_,h',e,.inr ⟨bb,v,z',rfl,a'⟩,hn,fun y hy hyb=>hk y hy (fun e=>hyb (by rw [e];rfl)),fun y hy=>hy,by simp⟩
theorem q0m {h:H} {s:AS} {l:List Version} (w:Sl h 4 i9 s l) (i:Nat) (hi:i <= l.length) (x:Version) {bv:Nat} (hv:h.f bv = some ⟨0,[4],true,i9 x⟩) (hne:z7 s ≠ some bv) (hl:l.length < 1000000) :
  ∃ s' h',W K 260 [.one s,.one (ii i),.one (.slc bv 0 0 1 4 none)] h = some (.ret (.one s') h')/\(∃ b v z,s' = .slc b v 0 (l.insertIdx i x).length 4 none/\Arr h' i9 b v (l.insertIdx i x) z)/\h.next <= h'.next/\(∀ b,b < h.next->z7 s ≠ some b->h'.f b = h.f b)/\(∀ b,z7 s' = some b->z7 s = some b \/ h.next <= b):=by
 obtain ⟨s',h',e,q⟩:=j0J (P:=Tryz.prog) (t:=89) Tryz.underlying89 (by simp) (by simp) Tryz.bytes93 (by omega) J0 w i hi x hv hne (by simp only [N3];omega) (by omega)
 exact ⟨s',h',by rw [l0h hp (g:=u0A ⟨4,48⟩) rfl];exact e,q⟩
theorem v0T {h:H} {s:AS} {l:List RC} (w:Sl h 2 b0A s l) (i:Nat) (hi:i <= l.length) (x:RC) {bv:Nat} (hv:h.f bv = some ⟨0,[2],true,b0A x⟩) (hne:z7 s ≠ some bv) (hl:l.length < 1000000) :
  ∃ s' h',W K 257 [.one s,.one (ii i),.one (.slc bv 0 0 1 2 none)] h = some (.ret (.one s') h')/\(∃ b v z,s' = .slc b v 0 (l.insertIdx i x).length 2 none/\Arr h' b0A b v (l.insertIdx i x) z)/\h.next <= h'.next/\(∀ b,b < h.next->z7 s ≠ some b->h'.f b = h.f b)/\(∀ b,z7 s' = some b->z7 s = some b \/ h.next <= b):=by
 obtain ⟨s',h',e,q⟩:=j0J (P:=Tryz.prog) (t:=79) Tryz.underlying79 (by simp) (by simp) Tryz.bytes91 (by omega) d0K w i hi x hv hne (by simp only [N3];omega) (by omega)
 exact ⟨s',h',by rw [l0h hp (g:=u0A ⟨2,40⟩) rfl];exact e,q⟩
theorem t0O {h:H} {s:AS} {rs:List RC} {o:Row} (w:RowSees h s rs o) (hp':c7 false s = true):s = sl 2 l7 o:=by
 have hs:=w.view h (oqg _) (fun _ _=>rfl)
 cases s with
 | nilslc=>simp [N5,c7] at hs;exact hs
 | vs n k cells=>simp only [N5,hp',if_true,oqI] at hs;exact hs
 | slc b v o n k c=>simp [c7] at hp'
 | _=>have:=w.arr;simp [Sees] at this
theorem r0p {h:H} {s:AS} {rs:List RC} {o:Row} (w:RowSees h s rs o) (hr:V5 o = true) (n:BL):W K 254 [.agg [s],.one (.str n)] h = some (.ret (.tup [(false,[ii (S9 (ls o) n)]),(false,[.bool (a0f (ls o) n)])]) h):=by
 by_cases hp':c7 false s = true
 ·rw [t0O w hp']
  exact (find_g o n hr).pure hp h
 ·refine (find_g o n hr).view hp ?_
  unfold b0s
  rw [if_neg (by simp [M5,v9,hp'])]
  have h1:N5 h 64 (.str n) = some (.str n):=by simp [N5,c7]
  simp only [List.mapM_cons,List.mapM_nil,d0b,w.view h (oqg _) (fun _ _=>rfl),h1,oqE,oqS,oqP]
theorem m0S {cs:List Column} {i:Nat} (hi:i < cs.length) (n:BL) (f:List Version->List Version):f0O cs i n f = cs.set i ⟨n,some (f (ls cs[i].l))⟩:=by
 unfold f0O
 rw [List.set_eq_take_append_cons_drop,if_pos hi,List.getElem?_eq_getElem hi];rfl
theorem q0R {cs:List Column} {i:Nat} (hi:i < cs.length) (n:BL) (f:List Version->List Version):f0O cs i n f = cs.set i ⟨n,some (f (ls ((cs[i]?).bind (·.l))))⟩:=by
 unfold f0O
 rw [List.set_eq_take_append_cons_drop,if_pos hi]
theorem v0v (o:Row) (n:BL) (t:Int) (H9:Int) (v_b:Option BL) (v_n:Nat) (hc:(J9 n && (!decide (t < 0) && (!decide (1099511627776 < t) && V7 ⟨H9,v_b,v_n⟩))) = false) (h:H) :
  W K 238 [.agg [sl 2 l7 o],.one (.str n),.one (ii t),.agg [ii H9,bs v_b,.flt v_n]] h = some (.ret (.tup [(true,[.nilslc]),(false,[ii 1])]) h):=by
 have hn:=d0A n
 have hv:=b0V H9 v_b v_n
 cases h1:J9 n with
 | false =>
  rw [h1] at hn
  refine zzP Tryz.func238 rfl ?_
  simp only [Tryz.f238]
  intro Yb Q1 Y1
  repeat' (first
   | (replace Y1:=Y1;simp [hn,A7,A0,z9,L9,c7,u9,Yb])
   | refine Y1 _ _ _ ?_
   | (first | refine dF (id:=11) b0H [] ?_ | refine dF (id:=13) zl9 [(2,4)] ?_ | refine dF (id:=14) c0n [] ?_))
 | true =>
  rw [h1] at hn hc
  by_cases t1:t < 0
  ·have c1:decide (t < 0) = true:=by simp [t1]
   refine zzP Tryz.func238 rfl ?_
   simp only [Tryz.f238]
   intro Yb Q2 Y2
   repeat' (first
    | (replace Y2:=Y2;simp [hn,t1,A7,A0,z9,L9,c7,u9,Yb])
    | refine Y2 _ _ _ ?_
    | (first | refine dF (id:=11) b0H [] ?_ | refine dF (id:=13) zl9 [(2,4)] ?_ | refine dF (id:=14) c0n [] ?_))
  ·have c1:decide (t < 0) = false:=by simp [t1]
   by_cases t2:1099511627776 < t
   ·have c2:decide (1099511627776 < t) = true:=by simp [t2]
    refine zzP Tryz.func238 rfl ?_
    simp only [Tryz.f238]
    intro Yb Q3 Y3
    repeat' (first
     | (replace Y3:=Y3;simp [hn,t1,t2,A7,A0,z9,L9,c7,u9,Yb])
     | refine Y3 _ _ _ ?_
     | (first | refine dF (id:=11) b0H [] ?_ | refine dF (id:=13) zl9 [(2,4)] ?_ | refine dF (id:=14) c0n [] ?_))
   ·have c2:decide (1099511627776 < t) = false:=by simp [t2]
    rw [c1,c2] at hc
    simp only [Bool.not_false,Bool.true_and] at hc
    rw [hc] at hv
    refine zzP Tryz.func238 rfl ?_
    simp only [Tryz.f238]
    intro Yb Q4 Y4
    repeat' (first
     | (replace Y4:=Y4;simp [hn,t1,t2,hv,A7,A0,z9,L9,c7,u9,Yb])
     | refine Y4 _ _ _ ?_
     | (first | refine dF (id:=11) b0H [] ?_ | refine dF (id:=13) zl9 [(2,4)] ?_ | refine dF (id:=14) c0n [] ?_))
theorem put_c (o:Row) (ho:(ls o).length < 1000000) (n:BL) (t:Int) (H9:Int) (v_b:Option BL) (v_n:Nat) (h:H) :
  W K 238 [.agg [sl 2 l7 o],.one (.str n),.one (ii t),.agg [ii H9,bs v_b,.flt v_n]] h = some (.ret (.tup [(true,J8 (a0i o n t ⟨H9,v_b,v_n⟩).1),(false,[ii (a0i o n t ⟨H9,v_b,v_n⟩).2])]) h):=by
 cases hc:(J9 n && (!decide (t < 0) && (!decide (1099511627776 < t) && V7 ⟨H9,v_b,v_n⟩))) with
 | false =>
  have e1:a0i o n t ⟨H9,v_b,v_n⟩ = (none,1):=by unfold a0i;rw [if_pos hc]
  rw [e1]
  exact v0v o n t H9 v_b v_n hc h
 | true =>
  have hrB:=P6 o
  obtain ⟨res,hres⟩:∃ res,a0i o n t ⟨H9,v_b,v_n⟩ = res:=⟨_,rfl⟩
  rw [hres]
  unfold a0i at hres
  rw [if_neg (by rw [hc];simp)] at hres
  dsimp only at hres
  have hn:=d0A n
  have hv:=b0V H9 v_b v_n
  simp only [oqd,Bool.not_eq_true',decide_eq_false_iff_not] at hc
  obtain ⟨k1,t1,t2,k4⟩:=hc
  have c1:decide (t < 0) = false:=by simp [t1]
  have c2:decide (1099511627776 < t) = false:=by simp [t2]
  rw [k1] at hn
  rw [k4] at hv
  obtain ⟨hA0,hhA0⟩:∃ hA0,hA0 = (((H.empty.new ⟨0,[1],true,[sl 2 l7 o]⟩).new ⟨0,[1],true,[ii t]⟩).new ⟨0,[3],true,[ii H9,bs v_b,.flt v_n]⟩).new ⟨0,[1],true,[.nilslc]⟩:=⟨_,rfl⟩
  obtain ⟨r1,e1,hr1⟩:=copy_c (row_sees hA0 o) ho
  obtain ⟨q1,hA,rfl,s1,rs1,rfl,wA,nA,fA⟩:=hr1.ret
  have hA0n:hA0.next = 4:=by rw [hhA0];rfl
  rw [hA0n] at wA nA fA
  have f1:hA.f 1 = some ⟨0,[1],true,[ii t]⟩:=by rw [fA 1 (by omega),hhA0];simp
  have f2:hA.f 2 = some ⟨0,[3],true,[ii H9,bs v_b,.flt v_n]⟩:=by rw [fA 2 (by omega),hhA0];simp
  have f3:hA.f 3 = some ⟨0,[1],true,[.nilslc]⟩:=by rw [fA 3 (by omega),hhA0];simp
  rw [hhA0] at e1
  have wB:=wA.new ⟨0,[1],true,[s1]⟩
  have hfi:=r0p (RowAt.sees wB) hrB n
  generalize hO:rowCopy o = O at *
  generalize hI:S9 (ls O) n = I at *
  generalize hTb:a0f (ls O) n = T at *
  have hm1:¬ 1 = hA.next:=by omega
  have hm2:¬ 2 = hA.next:=by omega
  have hm3:¬ 3 = hA.next:=by omega
  have hvb:H9 = 1->(ls v_b).length <= 1099511627776:=by
   intro hk
   simp only [V7,hk,beq_self_eq_true,Bool.true_and,Bool.or_eq_true,oqj,f0w] at k4
   rcases k4 with h | h
   ·omega
   ·simp at h
  have hlenO:(ls O).length <= 4:=by simp only [V5,oqd,oqj] at hrB;exact hrB.2
  have hallO:(ls O).all a0H = true:=by simp only [V5,oqd] at hrB;exact hrB.1.1
  have hrl:=wA.col.len
  have hIle:I <= (ls O).length:=by rw [<- hI];exact k0x _ _
  have hla:∀ (u:TypeId) (h':H),V9 s1 (some (.slice u)) h' = some (one (ii (ls O).length) h'):=fun u h'=>by
   have:=U4 h' u (wA.arr.sees d0K) (by omega) (A8 d0K rs1)
   rw [this,hrl]
  obtain ⟨p,hpe⟩:∃ p,p = hA.next:=⟨_,rfl⟩
  cases T with
  | false =>
   by_cases hl4:(ls O).length = 4
   ·rw [if_pos ⟨rfl,hl4⟩] at hres
    subst hres
    have hla4:∀ (u:TypeId) (h':H),V9 s1 (some (.slice u)) h' = some (one (ii 4) h'):=fun u h'=>by rw [hla,hl4];rfl
    have hsn:sl 2 l7 none = .nilslc:=rfl
    refine zzP Tryz.func238 rfl ?_
    simp only [Tryz.f238]
    intro Yb Q5 Y5
    repeat' (first
     | (replace Y5:=Y5;simp [hn,t1,t2,hv,e1,hfi,hla4,J8,hsn,f3,hm3,A7,A0,z9,L9,c7,u9,Yb])
     | refine Y5 _ _ _ ?_
     | (first | refine dF (id:=11) b0H [] ?_ | refine dF (id:=13) zl9 [(2,4)] ?_ | refine dF (id:=14) c0n [] ?_))
   ·rw [if_neg (by rintro ⟨_,h⟩;exact hl4 h)] at hres
    simp only [oqF,if_false] at hres
    have hl4b:(((ls O).length:Int) == 4) = false:=by simp;omega
    have hl4c:¬ ((ls O).length:Int) = 4:=by omega
    obtain ⟨s2,hD,e2,⟨b,v,z,hs2,ar2⟩,nD,fD,oD⟩:=v0T (h:=(hA.new ⟨0,[1],true,[s1]⟩).new ⟨0,[2],true,b0A (n,.nilslc)⟩) (wB.new _).arr I (by omega) (n,.nilslc) (bv:=hA.next + 1) (by simp) (fun e=>by have:=wA.arr.lt e;omega) (by omega)
    simp only [A6] at nD fD oD
    have own1:∀ x,z7 s1 = some x->x < hA.next:=fun x hx=>wA.arr.lt hx
    have hDp:hD.f p = some ⟨0,[1],true,[s1]⟩:=by rw [fD p (by omega) (fun e=>by have:=own1 p e;omega),p0 (by simp;omega)];simp [hpe]
    have w2:=RowAt.insNil (wB.new ⟨0,[2],true,b0A (n,.nilslc)⟩) (by simp;omega) (i:=I) (by omega) hs2 ar2 (by simp;omega) (fun x hx hxx=>fD x (by simpa using hx) hxx) (fun x hx=>by
     rcases oD x hx with e | e
     ·exact .inl e
     ·exact .inr (by simpa using e))
    have hs2p:z7 s2 ≠ some p:=fun e=>by
     rcases oD p e with e | e
     ·have:=own1 p e;omega
     ·omega
    obtain ⟨hT,hhT⟩:∃ hT,hT = hD.set p ⟨0,[1],true,[s2]⟩:=⟨_,rfl⟩
    have w3:RowAt hT 4 s2 (rs1.insertIdx I (n,.nilslc)) (some ((ls O).insertIdx I ⟨n,none⟩)):=w2.keep (by rw [hhT];simp) fun x hx hxx=>by
     rw [hhT,l0,if_neg]
     rintro rfl
     rcases hxx with e | e
     ·exact hs2p e
     ·rw [i0c (by omega)] at e
      have:=(wA.col.lt _ e).2;omega
    have own0:∀ x,x < 4->hT.f x = hA.f x:=fun x hx=>by
     rw [hhT,l0,if_neg (by omega),fD x (by omega) (fun e=>by have:=(wA.own x e).1;omega),p0 (by simp;omega),p0 (by omega)]
    have j1:hT.f 1 = some ⟨0,[1],true,[ii t]⟩:=by rw [own0 1 (by omega)];exact f1
    have j2:hT.f 2 = some ⟨0,[3],true,[ii H9,bs v_b,.flt v_n]⟩:=by rw [own0 2 (by omega)];exact f2
    have j3:hT.f 3 = some ⟨0,[1],true,[.nilslc]⟩:=by rw [own0 3 (by omega)];exact f3
    have fp:hT.f p = some ⟨0,[1],true,[s2]⟩:=by rw [hhT];simp
    have hpn:p < hT.next:=by rw [hhT];simp;omega
    clear f1 f2 f3
    have f1:=j1;have f2:=j2;have f3:=j3
    clear j1 j2 j3
    have hI2:I < (rs1.insertIdx I (n,.nilslc)).length:=by rw [List.length_insertIdx,if_pos (by omega)];omega
    have hpb:p ∉ a0G (rs1.insertIdx I (n,.nilslc)):=by rw [i0c (by omega)];intro h;have:=(wA.col.lt _ h).2;omega
    have hget2:((ls O).insertIdx I (⟨n,none⟩:Column))[I]? = some ⟨n,none⟩:=by rw [c0I hIle,List.getElem?_append_right (by simp;omega)];simp [Nat.min_eq_left hIle]
    have hlc:((ls O).insertIdx I (⟨n,none⟩:Column)).length <= 5:=by rw [List.length_insertIdx,if_pos hIle];omega
    rw [q0R (by rw [List.length_insertIdx,if_pos hIle];omega),hget2] at hres
    have hget1:(rs1.insertIdx I (n,AS.nilslc))[I]? = some (n,.nilslc):=by rw [c0I (by omega),List.getElem?_append_right (by simp;omega)];simp;rw [Nat.min_eq_left (by omega)];simp
    subst hs2
    generalize hrs2:rs1.insertIdx I (n,AS.nilslc) = rs2 at *
    generalize hcs2:(ls O).insertIdx I (⟨n,none⟩:Column) = cs2 at *
    have hI3:I < cs2.length:=by have:=w3.col.len;rw [K6] at this;omega
    have hget:rs2[I] = (n,.nilslc):=by rw [List.getElem?_eq_getElem hI2] at hget1;simpa using hget1
    have hget3:cs2[I] = ⟨n,none⟩:=by rw [List.getElem?_eq_getElem hI3] at hget2;simpa using hget2
    have wI:ColAt hT 4 rs2[I] cs2[I]:=w3.col.at I hI2
    have w2:=w3
    have hbp:b ≠ p:=fun e=>hs2p (by rw [<- e];rfl)
    obtain ⟨s3,h3,e3,sl3,n3,f3',o3,_⟩:=i0v w0a (h:=hT) (p:=1) (t:=t) (by omega) f1 wI.2.1 (fun e=>by have:=(wI.2.2.2 1 e).1;omega) (by rw [hget3];simp)
    have hgs:rs2[I].2 = .nilslc:=by rw [hget]
    have hs3n:s3 = .nilslc:=by
     rcases sl3 with ⟨e,_⟩ | ⟨b',v',z',e,_⟩
     ·exact e
     ·have:=o3 b' (by rw [e];rfl);rw [hgs] at this;cases this
    have hm:(ls cs2[I].l).filter (fun x=>!(x.time == t)) = []:=by rw [hget3];rfl
    rw [hm] at sl3
    obtain ⟨m,hmm⟩:∃ m:List Version,m = []:=⟨_,rfl⟩
    rw [<- hmm] at sl3
    obtain ⟨K0,hK00⟩:∃ K0:Nat,K0 = 0:=⟨_,rfl⟩
    have hK0:K0 <= m.length:=by omega
    have hml:m.length = 0:=by rw [hmm];rfl
    have hrl2:rs2.length <= 5:=by rw [w3.col.len];exact hlc
    obtain ⟨hfF,hfFe⟩:∃ hfF:Nat,hfF = 0:=⟨_,rfl⟩
    obtain ⟨x5,hx5⟩:∃ x5:Version,x5 = ⟨t,M9 ⟨H9,v_b,v_n⟩⟩:=⟨_,rfl⟩
    have hcan:=h0l H9 v_b v_n hvb
    have h3n:hT.next <= h3.next:=n3
    obtain ⟨s4,h4,e4,⟨b4,v4,z4,hs4,ar4⟩,n4,f4,o4⟩:=q0m (h:=h3.new ⟨0,[4],true,i9 x5⟩) (s:=s3) (l:=m) (sl3.keep (by simp) fun b hb=>by rw [p0 (by have:=sl3.lt hb;omega)]) K0 hK0 x5 (bv:=h3.next) (by simp) (fun e=>by have:=sl3.lt e;omega) (by omega)
    simp only [A6] at n4 f4 o4
    have own3:∀ b,z7 s3 = some b->4 <= b/\b < hT.next:=fun b hb=>wI.2.2.2 b (o3 b hb)
    have own4:∀ b,z7 s4 = some b->z7 rs2[I].2 = some b \/ h3.next < b:=fun b hb=>by
     rcases o4 b hb with e | e
     ·exact .inl (o3 b e)
     ·exact .inr (by omega)
    have f4':∀ y,y < hT.next->z7 rs2[I].2 ≠ some y->h4.f y = hT.f y:=fun y hy hny=>by
     rw [f4 y (by omega) (fun e=>hny (o3 y e)),p0 (by omega),f3' y hy hny]
    have old:∀ y,y < 4->h4.f y = hT.f y:=fun y hy=>f4' y (by omega) (fun e=>by have:=(wI.2.2.2 y e).1;omega)
    have fp4:h4.f p = some ⟨0,[1],true,[.slc b v 0 rs2.length 2 none]⟩:=by rw [f4' p hpn (fun e=>hpb (c0w hI2 e))];exact fp
    have g1:h4.f 1 = some ⟨0,[1],true,[ii t]⟩:=by rw [old 1 (by omega)];exact f1
    have g2:h4.f 2 = some ⟨0,[3],true,[ii H9,bs v_b,.flt v_n]⟩:=by rw [old 2 (by omega)];exact f2
    have g3:h4.f 3 = some ⟨0,[1],true,[.nilslc]⟩:=by rw [old 3 (by omega)];exact f3
    have hins:(m.insertIdx K0 x5).length = m.length + 1:=by rw [List.length_insertIdx,if_pos hK0]
    obtain ⟨mn,hmn⟩:∃ mn:Nat,mn = min (m.length + 1) 2:=⟨_,rfl⟩
    have hc5:ColAt h4 4 (rs2[I].1,.slc b4 v4 0 mn 4 none) ⟨cs2[I].name,some ((m.insertIdx K0 x5).take 2)⟩:=by
     have h2:Arr h4 i9 b4 v4 ((m.insertIdx K0 x5).take 2++(m.insertIdx K0 x5).drop 2) z4:=by rw [List.take_append_drop];exact ar4
     refine ⟨wI.1,.inr ⟨b4,v4,_, ?_,g0g h2⟩,by simp,fun x hx=>?_⟩
     ·simp only [K6];rw [oqo,hins,hmn,Nat.min_comm]
     ·have:=own4 x (by rw [hs4];exact hx)
      cases hx
      rcases this with e | e
      ·exact ⟨(wI.2.2.2 _ e).1,ar4.1⟩
      ·exact ⟨by omega,ar4.1⟩
    obtain ⟨fx,ex,M,hfb,hM1,hM2,w5⟩:=w2.setAt hI2 (by omega) f4' hc5 (fun x hx=>by
     rcases own4 x (by rw [hs4];exact hx) with e | e
     ·exact .inl e
     ·exact .inr (by omega))
    obtain ⟨hF,hhF⟩:∃ hF,hF = h4.set b ⟨v,[M.length],fx,lay M (I * 2 + 1) [.slc b4 v4 0 mn 4 none]⟩:=⟨_,rfl⟩
    rw [<- hhF] at w5
    have hbn:b ≠ p:=hbp
    have hb4:4 <= b:=(w2.own b rfl).1
    have fpF:hF.f p = some ⟨0,[1],true,[.slc b v 0 rs2.length 2 none]⟩:=by rw [hhF,l0,if_neg (Ne.symm hbn)];exact fp4
    have f3F:hF.f 3 = some ⟨0,[1],true,[.nilslc]⟩:=by rw [hhF,l0,if_neg (by omega)];exact g3
    obtain ⟨r6,e6,hr6⟩:=copy_c (RowAt.sees w5) (by simp only [K6,List.length_set];omega)
    obtain ⟨q6,hG,rfl,s6,rs6,rfl,w6,n6,f6⟩:=hr6.ret
    have hFn:hT.next <= hF.next:=by rw [hhF];simp;omega
    have f3G:hG.f 3 = some ⟨0,[1],true,[.nilslc]⟩:=by rw [f6 3 (by omega)];exact f3F
    have w7:=(w6.keep (h':=hG.set 3 ⟨0,[1],true,[s6]⟩) (by simp) (fun x hx hxx=>by
     rw [l0,if_neg]
     rintro rfl
     rcases hxx with e | e
     ·have:=(w6.own _ e).1;omega
     ·have:=(w6.col.lt _ e).1;omega)).frz0 61
    have hx1:=U5 (P:=Tryz.prog) (size:=2) (b:=b) (v:=v) (n:=rs2.length) (i:=I) Tryz.underlying79 (by simp) (by omega) hI2
    have hsl:N4 h4 4 s4 none (some (.one (ii mn))) none = some (.slc b4 v4 0 mn 4 none):=by
     rw [hs4,hins]
     have q1:mn <= m.length + 1:=by rw [hmn];exact Nat.min_le_left _ _
     simp [N4,U8,q1]
    rw [hhF] at e6
    have hsrc:∃ fx0 ex0 M0,hT.f b = some ⟨v,M0.length::ex0,fx0,M0⟩/\I * 2 + 2 <= M0.length/\sub M0 (I * 2 + 1) 1 = some [rs2[I].2]:=by
     rcases w2.arr with ⟨e,_⟩ | ⟨b',v',z',e,ar⟩
     ·cases e
     ·cases e
      obtain ⟨fx0,ex0,M0,g4,_,_,g5,_⟩:=ar.cells d0K
      obtain ⟨g6,g7⟩:=g5 I hI2
      exact ⟨fx0,ex0,M0,g4,g6,by rw [b0e g7 (o:=1) (n:=1) (by omega)];rfl⟩
    obtain ⟨fx0,ex0,M0,hfb0,hM01,hM02⟩:=hsrc
    have hM03:I * 2 + 1 + 1 <= M0.length:=by omega
    have hM3:I * 2 + 1 + 1 <= M.length:=by omega
    subst hpe
    simp only [hgs] at *
    subst hs3n hmm hK00
    have hmn1:mn = 1:=by rw [hmn];rfl
    subst hmn1
    have hn3:cs2[I].name = n:=by rw [hget3]
    obtain ⟨R1,R2⟩:=res
    simp only [oqM] at hres
    obtain ⟨hR1,rfl⟩:=hres
    have hcp:k0T (ls ((some (⟨n,none⟩:Column)).bind fun x=>x.l)) t ⟨H9,v_b,v_n⟩ = (([]:List Version).insertIdx 0 x5).take 2:=by rw [hx5];rfl
    rw [hcp,<- hn3] at hR1
    rw [hR1] at w7
    have hla4:∀ (u:TypeId) (h':H),V9 s4 (some (.slice u)) h' = some (one (ii 1) h'):=fun u h'=>by rw [hs4];simp [V9,U9]
    have hpb2:¬ hA.next = b:=fun e=>hbp e.symm
    have hss:N7 Tryz.prog 89 s4 = some 4:=by rw [hs4];simp [N7]
    have hsx:i9 x5 = ii t::a0t (M9 ⟨H9,v_b,v_n⟩):=by rw [hx5];rfl
    rw [hsx] at e4
    simp only [a0t] at hcan e4
    rw [show ((0:Nat):Int) = 0 from rfl] at e4
    have hsl1:N4 h4 4 s4 none (some (.one (ii 1))) none = some (.slc b4 v4 0 1 4 none):=hsl
    have hI2':I < rs2.length:=hI2
    refine zzP (hv:=by simp [M5,-lay,c7,v9]) Tryz.func238 rfl ?_
    simp only [Tryz.f238]
    intro Yb Q6 Y6
    repeat' (first
     | (replace Y6:=Y6;simp [hn,t1,t2,hv,e1,hfi,hla,hl4b,e2,hDp,<- hhT,fp,hx1,hfb0,hM02,hM03,e3,-lay,L5,L6])
     | refine Y6 _ _ _ ?_
     | (first | refine dF (id:=11) b0H [] ?_ | refine dF (id:=13) zl9 [(2,4)] ?_ | refine dF (id:=14) c0n [] ?_))
    have g1':h3.f 1 = some ⟨0,[1],true,[ii t]⟩:=by rw [f3' 1 (by omega) (by simp [z7])];exact f1
    have g2':h3.f 2 = some ⟨0,[3],true,[ii H9,bs v_b,.flt v_n]⟩:=by rw [f3' 2 (by omega) (by simp [z7])];exact f2
    have hm1':¬ 1 = h3.next:=by omega
    have hm2':¬ 2 = h3.next:=by omega
    refine S0 hp 0 (fun i fr hh=>hh = h3/\∃ j:Nat->AV,fr = (j 0::(.one (.str n))::j 2::j 3::j 4::j 5::(.one (.ptr 1 0 0))::(.one (.ptr 2 0 0))::(.one (.ptr 3 0 0))::j 9::(.one (.ptr hA.next 0 0))::(.one (ii I))::j 12::(.one .nilslc)::(.one (ii 0))::j 15::j 16::j 17::j 18::j 19::j 20::j 21::j 22::j 23::j 24::j 25::j 26::j 27::j 28::j 29::j 30::j 31::j 32::j 33::j 34::j 35::j 36::j 37::j 38::j 39::j 40::j 41::j 42::j 43::j 44::j 45::j 46::j 47::j 48::j 49::j 50::j 51::j 52::j 53::j 54::j 55::j 56::j 57::j 58::j 59::j 60::j 61::j 62::j 63::j 64::j 65::j 66::j 67::j 68::j 69::j 70::j 71::j 72::j 73::j 74::j 75::j 76::j 77::j 78::j 79::j 80::j 81::j 82::j 83::j 84::j 85::j 86::j 87::j 88::j 89::j 90::j 91::j 92::j 93::j 94::j 95::j 96::j 97::[])) ?_ ?_ _ _ ⟨rfl,y0 (by simp)⟩
    ·intro i fr hh hi;omega
    ·rintro fr hh ⟨rfl,j,rfl⟩
     first | (refine s9 ?_;intro Q7 Y7) | have Y7:=oqk
     repeat' (first
      | (replace Y7:=Y7;simp [g1',g2',hcan,e4,fp4,hla4,hsl1,hx1,hfb,hM3,e6,f3G,S8,X8,hss,hpb2,-lay,L5,L6,O6])
      | (refine Y7 _ _ _ ?_;clear Y7 Q7;first | simp only [] | simp [g1',g2',hm1',hm2',hcan,e4,fp4,g1,g2,g3,hla4,hsl1,hx1,hfb,hM3,e6,f3G,w7,J8,S8,X8,hss,hpb2,-lay,L5,L6,O6,A7,A0,z9,A5,L9,c7,v9,u9,Yb] | skip)
      | (refine F6 (by assumption) ?_;(try clear Y7);first | simp only [] | simp [w7,J8,-lay,A7,A0,z9,L9,c7,u9,Yb] | skip)
      | ((fail_if_success replace Y7:=Y7);(first | refine s9 ?_ | refine A1 ?_ | refine A4 ?_);intro Q7 Y7)
      | (first | refine dF (id:=11) b0H [] ?_ | refine dF (id:=13) zl9 [(2,4)] ?_ | refine dF (id:=14) c0n [] ?_))
  | true =>
   rw [if_neg (by simp)] at hres
   simp only [if_true] at hres
   have hI3:I < (ls O).length:=by
    unfold a0f at hTb
    rw [hI] at hTb
    cases hg:(ls O)[I]? with
    | none=>rw [hg] at hTb;cases hTb
    | some c=>exact (List.getElem?_eq_some_iff.1 hg).1
   have hn3:(ls O)[I].name = n:=by
    unfold a0f at hTb
    rw [hI,List.getElem?_eq_getElem hI3] at hTb
    simpa using hTb
   rw [m0S hI3] at hres
   have hI2:I < rs1.length:=by omega
   have hO2:O = some (ls O):=by cases O with | none=>simp at hI3 | some l=>rfl
   rw [hO2] at wB
   obtain ⟨hT,hhT⟩:∃ hT,hT = hA.new ⟨0,[1],true,[s1]⟩:=⟨_,rfl⟩
   rw [<- hhT] at wB hfi
   have hs1:∃ b v,s1 = .slc b v 0 rs1.length 2 none:=by
    rcases wA.arr with ⟨_,e⟩ | ⟨b,v,z,e,_⟩
    ·rw [e] at hI2;simp at hI2
    ·exact ⟨b,v,e⟩
   obtain ⟨b,v,rfl⟩:=hs1
   have hbp:b ≠ p:=fun e=>by have:=wA.arr.lt (b:=b) rfl;omega
   have hpb:p ∉ a0G rs1:=fun e=>by have:=(wA.col.lt _ e).2;omega
   have hpn:p < hT.next:=by rw [hhT];simp;omega
   have fp:hT.f p = some ⟨0,[1],true,[.slc b v 0 rs1.length 2 none]⟩:=by rw [hhT];simp [hpe]
   have j1:hT.f 1 = some ⟨0,[1],true,[ii t]⟩:=by rw [hhT,p0 hm1];exact f1
   have j2:hT.f 2 = some ⟨0,[3],true,[ii H9,bs v_b,.flt v_n]⟩:=by rw [hhT,p0 hm2];exact f2
   have j3:hT.f 3 = some ⟨0,[1],true,[.nilslc]⟩:=by rw [hhT,p0 hm3];exact f3
   clear f1 f2 f3
   have f1:=j1;have f2:=j2;have f3:=j3
   clear j1 j2 j3
   obtain ⟨rs2,hrs2⟩:∃ rs2,rs2 = rs1:=⟨_,rfl⟩
   subst hrs2
   generalize hcs2:ls O = cs2 at *
   have hall2:=hallO
   have hn4:=hn3
   have hrl3:rs2.length = cs2.length:=hrl
   have w2:=wB
   have wI:ColAt hT 4 rs2[I] cs2[I]:=w2.col.at I hI2
   have hrl2:rs2.length <= 5:=by omega
   have hlc:cs2.length <= 5:=by omega
   obtain ⟨hcl2,hcl3,_⟩:=colB_inv (oqn.1 hall2 _ (List.getElem_mem hI3))
   obtain ⟨s3,h3,e3,sl3,n3,f3',o3,hnil3⟩:=i0v w0a (h:=hT) (p:=1) (t:=t) (by omega) f1 wI.2.1 (fun e=>by have:=(wI.2.2.2 1 e).1;omega) (by omega)
   have hnn:rs2[I].2 ≠ .nilslc:=fun e=>hcl3 (by rw [wI.2.2.1.1 e];rfl)
   obtain ⟨m,hmm⟩:∃ m,m = (ls cs2[I].l).filter (fun x=>!(x.time == t)):=⟨_,rfl⟩
   rw [<- hmm] at sl3
   have hml:m.length <= 2:=by rw [hmm];have:=List.length_filter_le (fun x:Version=>!(x.time == t)) (ls cs2[I].l);omega
   obtain ⟨K0,hK00⟩:∃ K0,K0 = (m.takeWhile fun x=>decide (t < x.time)).length:=⟨_,rfl⟩
   have hK0:K0 <= m.length:=by rw [hK00];exact q0r _ _
   have hs3n:∃ b3 v3 z3,s3 = .slc b3 v3 0 m.length 4 none/\Arr h3 i9 b3 v3 m z3:=by
    rcases sl3 with ⟨e,_⟩ | ⟨b',v',z',e,ar⟩
    ·exact absurd (hnil3.2 e) hnn
    ·exact ⟨b',v',z',e,ar⟩
   obtain ⟨b3,v3,z3,hs3n,ar3⟩:=hs3n
   obtain ⟨x5,hx5⟩:∃ x5:Version,x5 = ⟨t,M9 ⟨H9,v_b,v_n⟩⟩:=⟨_,rfl⟩
   have hcan:=h0l H9 v_b v_n hvb
   have h3n:hT.next <= h3.next:=n3
   obtain ⟨s4,h4,e4,⟨b4,v4,z4,hs4,ar4⟩,n4,f4,o4⟩:=q0m (h:=h3.new ⟨0,[4],true,i9 x5⟩) (s:=s3) (l:=m) (sl3.keep (by simp) fun b hb=>by rw [p0 (by have:=sl3.lt hb;omega)]) K0 hK0 x5 (bv:=h3.next) (by simp) (fun e=>by have:=sl3.lt e;omega) (by omega)
   simp only [A6] at n4 f4 o4
   have own3:∀ b,z7 s3 = some b->4 <= b/\b < hT.next:=fun b hb=>wI.2.2.2 b (o3 b hb)
   have own4:∀ b,z7 s4 = some b->z7 rs2[I].2 = some b \/ h3.next < b:=fun b hb=>by
    rcases o4 b hb with e | e
    ·exact .inl (o3 b e)
    ·exact .inr (by omega)
   have f4':∀ y,y < hT.next->z7 rs2[I].2 ≠ some y->h4.f y = hT.f y:=fun y hy hny=>by
    rw [f4 y (by omega) (fun e=>hny (o3 y e)),p0 (by omega),f3' y hy hny]
   have old:∀ y,y < 4->h4.f y = hT.f y:=fun y hy=>f4' y (by omega) (fun e=>by have:=(wI.2.2.2 y e).1;omega)
   have fp4:h4.f p = some ⟨0,[1],true,[.slc b v 0 rs2.length 2 none]⟩:=by rw [f4' p hpn (fun e=>hpb (c0w hI2 e))];exact fp
   have g1:h4.f 1 = some ⟨0,[1],true,[ii t]⟩:=by rw [old 1 (by omega)];exact f1
   have g2:h4.f 2 = some ⟨0,[3],true,[ii H9,bs v_b,.flt v_n]⟩:=by rw [old 2 (by omega)];exact f2
   have g3:h4.f 3 = some ⟨0,[1],true,[.nilslc]⟩:=by rw [old 3 (by omega)];exact f3
   have hins:(m.insertIdx K0 x5).length = m.length + 1:=by rw [List.length_insertIdx,if_pos hK0]
   obtain ⟨mn,hmn⟩:∃ mn:Nat,mn = min (m.length + 1) 2:=⟨_,rfl⟩
   have hc5:ColAt h4 4 (rs2[I].1,.slc b4 v4 0 mn 4 none) ⟨cs2[I].name,some ((m.insertIdx K0 x5).take 2)⟩:=by
    have h2:Arr h4 i9 b4 v4 ((m.insertIdx K0 x5).take 2++(m.insertIdx K0 x5).drop 2) z4:=by rw [List.take_append_drop];exact ar4
    refine ⟨wI.1,.inr ⟨b4,v4,_, ?_,g0g h2⟩,by simp,fun x hx=>?_⟩
    ·simp only [K6];rw [oqo,hins,hmn,Nat.min_comm]
    ·have:=own4 x (by rw [hs4];exact hx)
     cases hx
     rcases this with e | e
     ·exact ⟨(wI.2.2.2 _ e).1,ar4.1⟩
     ·exact ⟨by omega,ar4.1⟩
   obtain ⟨fx,ex,M,hfb,hM1,hM2,w5⟩:=w2.setAt hI2 (by omega) f4' hc5 (fun x hx=>by
    rcases own4 x (by rw [hs4];exact hx) with e | e
    ·exact .inl e
    ·exact .inr (by omega))
   obtain ⟨hF,hhF⟩:∃ hF,hF = h4.set b ⟨v,[M.length],fx,lay M (I * 2 + 1) [.slc b4 v4 0 mn 4 none]⟩:=⟨_,rfl⟩
   rw [<- hhF] at w5
   have hbn:b ≠ p:=hbp
   have hb4:4 <= b:=(w2.own b rfl).1
   have fpF:hF.f p = some ⟨0,[1],true,[.slc b v 0 rs2.length 2 none]⟩:=by rw [hhF,l0,if_neg (Ne.symm hbn)];exact fp4
   have f3F:hF.f 3 = some ⟨0,[1],true,[.nilslc]⟩:=by rw [hhF,l0,if_neg (by omega)];exact g3
   obtain ⟨r6,e6,hr6⟩:=copy_c (RowAt.sees w5) (by simp only [K6,List.length_set];omega)
   obtain ⟨q6,hG,rfl,s6,rs6,rfl,w6,n6,f6⟩:=hr6.ret
   have hFn:hT.next <= hF.next:=by rw [hhF];simp;omega
   have f3G:hG.f 3 = some ⟨0,[1],true,[.nilslc]⟩:=by rw [f6 3 (by omega)];exact f3F
   have w7:=(w6.keep (h':=hG.set 3 ⟨0,[1],true,[s6]⟩) (by simp) (fun x hx hxx=>by
    rw [l0,if_neg]
    rintro rfl
    rcases hxx with e | e
    ·have:=(w6.own _ e).1;omega
    ·have:=(w6.col.lt _ e).1;omega)).frz0 61
   have hx1:=U5 (P:=Tryz.prog) (size:=2) (b:=b) (v:=v) (n:=rs2.length) (i:=I) Tryz.underlying79 (by simp) (by omega) hI2
   have hsl:N4 h4 4 s4 none (some (.one (ii mn))) none = some (.slc b4 v4 0 mn 4 none):=by
    rw [hs4,hins]
    have q1:mn <= m.length + 1:=by rw [hmn];exact Nat.min_le_left _ _
    simp [N4,U8,q1]
   rw [hhF] at e6
   have hsrc:∃ fx0 ex0 M0,hT.f b = some ⟨v,M0.length::ex0,fx0,M0⟩/\I * 2 + 2 <= M0.length/\sub M0 (I * 2 + 1) 1 = some [rs2[I].2]:=by
    rcases w2.arr with ⟨e,_⟩ | ⟨b',v',z',e,ar⟩
    ·cases e
    ·cases e
     obtain ⟨fx0,ex0,M0,g4,_,_,g5,_⟩:=ar.cells d0K
     obtain ⟨g6,g7⟩:=g5 I hI2
     exact ⟨fx0,ex0,M0,g4,g6,by rw [b0e g7 (o:=1) (n:=1) (by omega)];rfl⟩
   obtain ⟨fx0,ex0,M0,hfb0,hM01,hM02⟩:=hsrc
   have hM03:I * 2 + 1 + 1 <= M0.length:=by omega
   have hM3:I * 2 + 1 + 1 <= M.length:=by omega
   subst hs3n
   subst hpe
   obtain ⟨R1,R2⟩:=res
   simp only [oqM] at hres
   obtain ⟨hR1,rfl⟩:=hres
   have hcp:k0T (ls cs2[I].l) t ⟨H9,v_b,v_n⟩ = (m.insertIdx K0 x5).take 2:=by rw [hx5,hK00,hmm];rfl
   rw [hcp,<- hn4] at hR1
   rw [hR1] at w7
   have hmin:(if (2:Int) < (m.length:Int) + 1 then (2:Int) else (m.length:Int) + 1) = (mn:Int):=by rw [hmn];split <;> omega
   have hla4:∀ (u:TypeId) (h':H),V9 s4 (some (.slice u)) h' = some (one (ii ((m.length:Int) + 1)) h'):=fun u h'=>by rw [hs4];simp [V9,U9,hins]
   have hpb2:¬ hA.next = b:=fun e=>hbp e.symm
   have hss:N7 Tryz.prog 89 s4 = some 4:=by rw [hs4];simp [N7]
   have hsx:i9 x5 = ii t::a0t (M9 ⟨H9,v_b,v_n⟩):=by rw [hx5];rfl
   rw [hsx] at e4
   simp only [a0t] at hcan e4
   obtain ⟨c0,hc0⟩:∃ c0,c0 = rs2[I].2:=⟨_,rfl⟩
   rw [<- hc0] at hM02 e3
   refine zzP (hv:=by simp [M5,-lay,c7,v9]) Tryz.func238 rfl ?_
   simp only [Tryz.f238]
   intro Yb Q8 Y8
   repeat' (first
    | (replace Y8:=Y8;simp [hn,t1,t2,hv,e1,<- hhT,hfi,fp,hx1,hfb0,hM02,hM03,e3,-lay,L5,L6])
    | refine Y8 _ _ _ ?_
    | (first | refine dF (id:=11) b0H [] ?_ | refine dF (id:=13) zl9 [(2,4)] ?_ | refine dF (id:=14) c0n [] ?_))
   have hown1:¬ b3 = 1:=fun e=>by have:=(own3 b3 rfl).1;omega
   have g1':h3.f 1 = some ⟨0,[1],true,[ii t]⟩:=by rw [f3' 1 (by omega) (fun e=>by have:=(wI.2.2.2 _ e).1;omega)];exact f1
   have g2':h3.f 2 = some ⟨0,[3],true,[ii H9,bs v_b,.flt v_n]⟩:=by rw [f3' 2 (by omega) (fun e=>by have:=(wI.2.2.2 _ e).1;omega)];exact f2
   have hm1':¬ 1 = h3.next:=by omega
   have hm2':¬ 2 = h3.next:=by omega
   obtain ⟨fx3,ex3,M3,hfb3,_,_,hrd3,_⟩:=ar3.cells J0
   refine b0x hp (fun mm fr hh=>hh = h3/\∃ k:Nat,k <= K0/\mm = K0 - k/\∃ j:Nat->AV,fr = (j 0::(.one (.str n))::j 2::j 3::j 4::j 5::(.one (.ptr 1 0 0))::(.one (.ptr 2 0 0))::(.one (.ptr 3 0 0))::j 9::(.one (.ptr hA.next 0 0))::(.one (ii I))::j 12::(.one (.slc b3 v3 0 m.length 4 none))::(.one (ii k))::j 15::j 16::j 17::j 18::j 19::j 20::j 21::j 22::j 23::j 24::j 25::j 26::j 27::j 28::j 29::j 30::j 31::j 32::j 33::j 34::j 35::j 36::j 37::j 38::j 39::j 40::j 41::j 42::j 43::j 44::j 45::j 46::j 47::j 48::j 49::j 50::j 51::j 52::j 53::j 54::j 55::j 56::j 57::j 58::j 59::j 60::j 61::j 62::j 63::j 64::j 65::j 66::j 67::j 68::j 69::j 70::j 71::j 72::j 73::j 74::j 75::j 76::j 77::j 78::j 79::j 80::j 81::j 82::j 83::j 84::j 85::j 86::j 87::j 88::j 89::j 90::j 91::j 92::j 93::j 94::j 95::j 96::j 97::[])) ?_ K0 _ _ ?_
   rotate_left
   ·exact ⟨rfl,0,by omega,by omega,y0 (by simp)⟩
   rintro mm fr hh ⟨rfl,k,hk1,rfl,j,rfl⟩
   by_cases hk:k < K0
   ·have hkm:k < m.length:=by omega
    obtain ⟨q1,q2⟩:=hrd3 k hkm
    have q3:=b0e q2 (o:=0) (n:=1) (by omega)
    have q4:sub (i9 m[k]) 0 1 = some [ii m[k].time]:=rfl
    rw [q4,Nat.add_zero] at q3
    have q5:=v0L (p:=fun x:Version=>decide (t < x.time)) (l:=m) (k:=k) (by omega) hkm
    simp only [oqj] at q5
    have q6:=U5 (P:=Tryz.prog) (size:=4) (b:=b3) (v:=v3) (n:=m.length) (i:=k) Tryz.underlying89 (by simp) (by omega) hkm
    have q7:k * 4 + 1 <= M3.length:=by omega
    have q8:IntKind.i64.wrap ((k:Int) + 1) = (k:Int) + 1:=J1 (by omega)
    generalize m[k].time = T0 at *
    first | (refine s9 ?_;intro Q9 Y9) | have Y9:=oqk
    repeat' (first
     | (replace Y9:=Y9;simp [g1',hkm,q6,hfb3,q3,q5,q7,q8,-lay])
     | (refine Y9 _ _ _ ?_;clear Y9 Q9;first | simp only [] | simp [g1',hkm,q6,hfb3,q3,q5,q7,q8,-lay,L5,L6,O6,A7,A0,z9,A5,L9,c7,v9,u9,Yb] | skip)
     | (refine F6 (by assumption) ?_;(try clear Y9);first | simp only [] | simp [g1',hkm,q6,hfb3,q3,q5,q7,q8,-lay,L5,L6,O6,A7,A0,z9,A5,L9,c7,v9,u9,Yb] | skip)
     | ((fail_if_success replace Y9:=Y9);(first | refine s9 ?_ | refine A1 ?_ | refine A4 ?_);intro Q9 Y9)
     | (first | refine dF (id:=11) b0H [] ?_ | refine dF (id:=13) zl9 [(2,4)] ?_ | refine dF (id:=14) c0n [] ?_))
    all_goals exact ⟨K0 - (k + 1),by omega,trivial,k + 1,by omega,rfl,y0 (by simp)⟩
   ·have hkK:k = K0:=by omega
    subst hkK
    by_cases hkm:k < m.length
    ·obtain ⟨q1,q2⟩:=hrd3 k hkm
     have q3:=b0e q2 (o:=0) (n:=1) (by omega)
     have q4:sub (i9 m[k]) 0 1 = some [ii m[k].time]:=rfl
     rw [q4,Nat.add_zero] at q3
     have q5:¬ t < m[k].time:=by
      have:=A0A (p:=fun x:Version=>decide (t < x.time)) (l:=m) (by omega)
      simp only [decide_eq_false_iff_not,<- hK00] at this
      exact this
     have q6:=U5 (P:=Tryz.prog) (size:=4) (b:=b3) (v:=v3) (n:=m.length) (i:=k) Tryz.underlying89 (by simp) (by omega) hkm
     have q7:k * 4 + 1 <= M3.length:=by omega
     generalize m[k].time = T0 at *
     first | (refine s9 ?_;intro Q10 Y10) | have Y10:=oqk
     repeat' (first
      | (replace Y10:=Y10;simp [g1',hkm,q6,hfb3,q3,q5,q7,g2',hcan,e4,fp4,hla4,hsl,hx1,hfb,hM3,e6,f3G,S8,X8,hmin,hss,hpb2,-lay,L5,L6,O6])
      | (refine Y10 _ _ _ ?_;clear Y10 Q10;first | simp only [] | simp [g1',hkm,q6,hfb3,q3,q5,q7,g2',hm1',hm2',hcan,e4,fp4,g1,g2,g3,hla4,hsl,hx1,hfb,hM3,e6,f3G,w7,J8,S8,X8,hmin,hss,hpb2,-lay,L5,L6,O6,A7,A0,z9,A5,L9,c7,v9,u9,Yb] | skip)
      | (refine F6 (by assumption) ?_;(try clear Y10);first | simp only [] | simp [w7,J8,-lay,A7,A0,z9,L9,c7,u9,Yb] | skip)
      | ((fail_if_success replace Y10:=Y10);(first | refine s9 ?_ | refine A1 ?_ | refine A4 ?_);intro Q10 Y10)
      | (first | refine dF (id:=11) b0H [] ?_ | refine dF (id:=13) zl9 [(2,4)] ?_ | refine dF (id:=14) c0n [] ?_))
    ·first | (refine s9 ?_;intro Q11 Y11) | have Y11:=oqk
     repeat' (first
      | (replace Y11:=Y11;simp [g1',hkm,g2',hcan,e4,fp4,hla4,hsl,hx1,hfb,hM3,e6,f3G,S8,X8,hmin,hss,hpb2,-lay,L5,L6,O6])
      | (refine Y11 _ _ _ ?_;clear Y11 Q11;first | simp only [] | simp [g1',hkm,g2',hm1',hm2',hcan,e4,fp4,g1,g2,g3,hla4,hsl,hx1,hfb,hM3,e6,f3G,w7,J8,S8,X8,hmin,hss,hpb2,-lay,L5,L6,O6,A7,A0,z9,A5,L9,c7,v9,u9,Yb] | skip)
      | (refine F6 (by assumption) ?_;(try clear Y11);first | simp only [] | simp [w7,J8,-lay,A7,A0,z9,L9,c7,u9,Yb] | skip)
      | ((fail_if_success replace Y11:=Y11);(first | refine s9 ?_ | refine A1 ?_ | refine A4 ?_);intro Q11 Y11)
      | (first | refine dF (id:=11) b0H [] ?_ | refine dF (id:=13) zl9 [(2,4)] ?_ | refine dF (id:=14) c0n [] ?_))
abbrev k0Y (r:RC):List AS:=b0A r
theorem r0B (r:RC):(k0Y r).length = 2:=rfl
theorem l0E {h:H} {b v:Nat} {l:List RC} {z:List AS} (ar:Arr h k0Y b v l z) (i:Nat) (hi:i < l.length) (hl:l.length <= 1000000) :
  ∃ r,W K 262 [.one (.slc b v 0 l.length 2 none),.one (ii i),.one (ii (i + 1))] h = some r/\Rets (fun q h'=>q = .one (.slc b v 0 (l.length - 1) 2 none)/\(∃ z',Arr h' k0Y b v (l.eraseIdx i) z')/\h'.next = h.next/\∀ y,y ≠ b->h'.f y = h.f y) r:=by
 refine Rets.intro fun P hP=>?_
 obtain ⟨h1,z1,e1,a1,hz1,n1,f1⟩:=i0M (P:=Tryz.prog) (t:=79) Tryz.underlying79 (by simp) (by simp) Tryz.bytes91 (by omega) r0B ar hi (by simp only [N3];omega)
 have hll:(l.eraseIdx i).length = l.length - 1:=by rw [List.length_eraseIdx];simp [hi]
 obtain ⟨kb,hw,a2⟩:=d0I r0B a1 (c:=[.str [],.nilslc]) (by rw [hz1];simp)
 obtain ⟨_,fx,ex,hf⟩:=a1
 rw [hll] at hw
 have hE:l.length * 2 <= (cat k0Y (l.eraseIdx i)++z1).length:=by rw [oqa,A8 r0B,hll,hz1];omega
 generalize cat k0Y (l.eraseIdx i)++z1 = M at hf hE
 have q1:(i:Int) <= (i:Int) + 1:=by omega
 have q2:((i:Int) + 1).toNat = i + 1:=by omega
 have q3:i <= i + 1:=by omega
 have q4:i + 1 <= l.length:=by omega
 have q5:i <= l.length:=by omega
 have q6:l.length - 1 <= l.length:=by omega
 have q7:¬ l.length <= l.length - 1:=by omega
 have q8:l.length - (l.length - 1) = 1:=by omega
 have q9:(0:Int) <= (i:Int) + 1:=by omega
 have q10:¬ (i:Int) = (i:Int) + 1:=by omega
 have q11:decide ((i:Int) = (i:Int) + 1) = false:=by simp;omega
 have q12:((i:Int) == (i:Int) + 1) = false:=by simp;omega
 have q13:¬ i + 1 < i:=by omega
 have q14:¬ l.length < i + 1:=by omega
 have q15:¬ l.length < l.length - 1:=by omega
 have q16:¬ l.length < i:=by omega
 refine zzE Tryz.func262 rfl ?_
 simp only [Tryz.f262]
 intro Q1 Y1
 repeat' (first
  | (replace Y1:=Y1;simp [-lay,-a0O,-c0Z,e1,hf,hE,q2,q4,q5,q6,q7,q8,q9,q12,q13,q14,q15,hw,N4,U8,N7,d0T])
  | refine Y1 _ _ _ ?_
  | refine dF (id:=5) zl8 [] ?_)
 all_goals exact hP _ _ ⟨rfl,⟨_,a2⟩,by simpa using n1,fun y hy=>by rw [l0,if_neg hy];exact f1 y hy⟩
theorem x0u {h:H} {lo b v:Nat} {rs:List RC} {o:Row} (a:RowAt h lo (.slc b v 0 rs.length 2 none) rs o) {i:Nat} (hi:i < rs.length):∃ fx ex M,h.f b = some ⟨v,M.length::ex,fx,M⟩/\i * 2 + 1 + 1 <= M.length/\sub M (i * 2 + 1) 1 = some [rs[i].2]:=by
 rcases a.arr with ⟨e,_⟩ | ⟨b',v',z',e,ar⟩
 ·cases e
 ·cases e
  obtain ⟨fx0,ex0,M0,g4,_,_,g5,_⟩:=ar.cells d0K
  obtain ⟨g6,g7⟩:=g5 i hi
  exact ⟨fx0,ex0,M0,g4,by omega,by rw [b0e g7 (o:=1) (n:=1) (by omega)];rfl⟩
theorem at_inv {l:List Column} {n:BL} (h:a0f l n = true):∃ hi:S9 l n < l.length,l[S9 l n].name = n:=by
 unfold a0f at h
 cases hg:l[S9 l n]? with
 | none=>rw [hg] at h;cases h
 | some c =>
  obtain ⟨hi,e⟩:=List.getElem?_eq_some_iff.1 hg
  rw [hg] at h
  exact ⟨hi,by rw [e];simpa using h⟩
theorem dropCol_c (o:Row) (ho:(ls o).length < 1000000) (n:BL) (h:H):W K 240 [.agg [sl 2 l7 o],.one (.str n)] h = some (.ret (.agg (J8 (c0c o n))) h):=by
 have hrB:=P6 o
 obtain ⟨res,hres⟩:∃ res,c0c o n = res:=⟨_,rfl⟩
 rw [hres]
 unfold c0c at hres
 dsimp only at hres
 obtain ⟨hA0,hhA0⟩:∃ hA0,hA0 = (H.empty.new ⟨0,[1],true,[sl 2 l7 o]⟩).new ⟨0,[1],true,[.nilslc]⟩:=⟨_,rfl⟩
 obtain ⟨r1,e1,hr1⟩:=copy_c (row_sees hA0 o) ho
 obtain ⟨q1,hA,rfl,s1,rs1,rfl,wA,nA,fA⟩:=hr1.ret
 have hA0n:hA0.next = 2:=by rw [hhA0];rfl
 rw [hA0n] at wA nA fA
 have f1:hA.f 1 = some ⟨0,[1],true,[.nilslc]⟩:=by rw [fA 1 (by omega),hhA0];simp
 rw [hhA0] at e1
 obtain ⟨hT,hhT⟩:∃ hT,hT = hA.new ⟨0,[1],true,[s1]⟩:=⟨_,rfl⟩
 have wT:RowAt hT 2 s1 rs1 (rowCopy o):=by rw [hhT];exact wA.new _
 have hfi:=r0p (RowAt.sees wT) hrB n
 have hm1:¬ 1 = hA.next:=by omega
 have fp:hT.f hA.next = some ⟨0,[1],true,[s1]⟩:=by rw [hhT];simp
 have g1:hT.f 1 = some ⟨0,[1],true,[.nilslc]⟩:=by rw [hhT,p0 hm1];exact f1
 have hTn:hT.next = hA.next + 1:=by rw [hhT];rfl
 have hlenO:(ls (rowCopy o)).length <= 4:=by simp only [V5,oqd,oqj] at hrB;exact hrB.2
 have hrl:=wA.col.len
 cases hTb:a0f (ls (rowCopy o)) n with
 | false =>
  rw [hTb] at hres hfi
  rw [if_pos rfl] at hres
  obtain ⟨r6,e6,hr6⟩:=copy_c (RowAt.sees wT) (by omega)
  obtain ⟨q6,hG,rfl,s6,rs6,rfl,w6,n6,f6⟩:=hr6.ret
  have f1G:hG.f 1 = some ⟨0,[1],true,[.nilslc]⟩:=by rw [f6 1 (by omega)];exact g1
  have w7:=(w6.keep (h':=hG.set 1 ⟨0,[1],true,[s6]⟩) (by simp) (fun x hx hxx=>by
   rw [l0,if_neg]
   rintro rfl
   rcases hxx with e | e
   ·have:=(w6.own _ e).1;omega
   ·have:=(w6.col.lt _ e).1;omega)).frz0 61
  rw [hres] at w7
  refine zzP (hv:=by simp [M5,-lay,c7,v9]) Tryz.func240 rfl ?_
  simp only [Tryz.f240]
  intro Yb Q2 Y2
  repeat' (first
   | (replace Y2:=Y2;simp [e1,<- hhT,fp,hfi,e6,f1G,w7,J8,-lay,L5,L6,A7,A0,u9,Yb])
   | refine Y2 _ _ _ ?_)
 | true =>
  rw [hTb] at hres hfi
  rw [if_neg (by simp)] at hres
  obtain ⟨hI3,hn3⟩:=at_inv hTb
  have hO2:rowCopy o = some (ls (rowCopy o)):=by cases hO:rowCopy o with | none=>rw [hO] at hI3;simp at hI3 | some l=>rfl
  rw [hO2] at wT
  generalize hI:S9 (ls (rowCopy o)) n = I at *
  have hI2:I < rs1.length:=by omega
  have hs1:∃ b v z,s1 = .slc b v 0 rs1.length 2 none/\Arr hT k0Y b v rs1 z:=by
   rcases wT.arr with ⟨_,e⟩ | ⟨b,v,z,e,ar⟩
   ·rw [e] at hI2;simp at hI2
   ·exact ⟨b,v,z,e,ar⟩
  obtain ⟨b,v,z,rfl,ar⟩:=hs1
  have hbp:b ≠ hA.next:=fun e=>by have:=wA.arr.lt (b:=b) rfl;omega
  obtain ⟨r2,e2,hr2⟩:=l0E ar I hI2 (by omega)
  obtain ⟨q2,hD,rfl,rfl,⟨z',ar2⟩,nD,fD⟩:=hr2.ret
  have w2:=wT.eraseAt hI2 nD fD ar2
  have hDp:hD.f hA.next = some ⟨0,[1],true,[.slc b v 0 rs1.length 2 none]⟩:=by rw [fD _ (Ne.symm hbp)];exact fp
  have hb2:2 <= b:=(wA.own b rfl).1
  obtain ⟨hF,hhF⟩:∃ hF,hF = hD.set hA.next ⟨0,[1],true,[.slc b v 0 (rs1.length - 1) 2 none]⟩:=⟨_,rfl⟩
  have wF:RowAt hF 2 (.slc b v 0 (rs1.length - 1) 2 none) (rs1.eraseIdx I) (some ((ls (rowCopy o)).eraseIdx I)):=w2.keep (by rw [hhF];simp) fun x hx hxx=>by
   rw [hhF,l0,if_neg]
   rintro rfl
   rcases hxx with e | e
   ·cases e;exact hbp rfl
   ·have:=(wA.col.lt _ (((List.eraseIdx_sublist rs1 I).filterMap _).subset e)).2;omega
  obtain ⟨r6,e6,hr6⟩:=copy_c (RowAt.sees wF) (by rw [K6,List.length_eraseIdx];split <;> omega)
  obtain ⟨q6,hG,rfl,s6,rs6,rfl,w6,n6,f6⟩:=hr6.ret
  have hFn:hF.next = hA.next + 1:=by rw [hhF];simp [nD,hTn]
  have fpF:hF.f hA.next = some ⟨0,[1],true,[.slc b v 0 (rs1.length - 1) 2 none]⟩:=by rw [hhF];simp
  have f1F:hF.f 1 = some ⟨0,[1],true,[.nilslc]⟩:=by rw [hhF,l0,if_neg hm1,fD 1 (by omega)];exact g1
  have f1G:hG.f 1 = some ⟨0,[1],true,[.nilslc]⟩:=by rw [f6 1 (by omega)];exact f1F
  have w7:=(w6.keep (h':=hG.set 1 ⟨0,[1],true,[s6]⟩) (by simp) (fun x hx hxx=>by
   rw [l0,if_neg]
   rintro rfl
   rcases hxx with e | e
   ·have:=(w6.own _ e).1;omega
   ·have:=(w6.col.lt _ e).1;omega)).frz0 61
  rw [hres] at w7
  have hw:IntKind.i64.wrap ((I:Int) + 1) = (I:Int) + 1:=J1 (by omega)
  refine zzP (hv:=by simp [M5,-lay,c7,v9]) Tryz.func240 rfl ?_
  simp only [Tryz.f240]
  intro Yb Q3 Y3
  repeat' (first
   | (replace Y3:=Y3;simp [e1,<- hhT,fp,hfi,hw,e2,hDp,<- hhF,fpF,e6,f1G,w7,J8,-lay,L5,L6,A7,A0,u9,Yb])
   | refine Y3 _ _ _ ?_)
theorem n0S {h:H} {lo:Nat} {s:AS} {rs:List RC} {o:Row} (w:RowAt h lo s rs o) (ho:(ls o).length < 1000000) {k:Nat} (hk:k < h.next) :
  ∃ s6 hG,W K 166 [.agg [s]] h = some (.ret (.agg [s6]) hG)/\(∀ b,b < h.next->hG.f b = h.f b)/\∀ x,z9 false (hG.set k ⟨0,[1],true,[s6]⟩) 64 s6 = some x ↔ x = sl 2 l7 (rowCopy o):=by
 obtain ⟨r6,e6,hr6⟩:=copy_c (RowAt.sees w) ho
 obtain ⟨q6,hG,rfl,s6,rs6,rfl,w6,n6,f6⟩:=hr6.ret
 refine ⟨s6,hG,e6,f6,fun x=>?_⟩
 rw [(w6.keep (h':=hG.set k ⟨0,[1],true,[s6]⟩) (by simp) (fun x hx hxx=>by
  rw [l0,if_neg]
  rintro rfl
  rcases hxx with e | e
  ·have:=(w6.own _ e).1;omega
  ·have:=(w6.col.lt _ e).1;omega)).frz0 61]
 exact ⟨fun e=>by cases e;rfl,fun e=>by rw [e]⟩
theorem drop_c (o:Row) (ho:(ls o).length < 1000000) (n:BL) (t:Int) (h:H):W K 239 [.agg [sl 2 l7 o],.one (.str n),.one (ii t)] h = some (.ret (.agg (J8 (g0p o n t))) h):=by
 have hrB:=P6 o
 obtain ⟨res,hres⟩:∃ res,g0p o n t = res:=⟨_,rfl⟩
 rw [hres]
 unfold g0p at hres
 dsimp only at hres
 obtain ⟨hA0,hhA0⟩:∃ hA0,hA0 = ((H.empty.new ⟨0,[1],true,[sl 2 l7 o]⟩).new ⟨0,[1],true,[ii t]⟩).new ⟨0,[1],true,[.nilslc]⟩:=⟨_,rfl⟩
 obtain ⟨r1,e1,hr1⟩:=copy_c (row_sees hA0 o) ho
 obtain ⟨q1,hA,rfl,s1,rs1,rfl,wA,nA,fA⟩:=hr1.ret
 have hA0n:hA0.next = 3:=by rw [hhA0];rfl
 rw [hA0n] at wA nA fA
 have f1:hA.f 1 = some ⟨0,[1],true,[ii t]⟩:=by rw [fA 1 (by omega),hhA0];simp
 have f2:hA.f 2 = some ⟨0,[1],true,[.nilslc]⟩:=by rw [fA 2 (by omega),hhA0];simp
 rw [hhA0] at e1
 obtain ⟨hT,hhT⟩:∃ hT,hT = hA.new ⟨0,[1],true,[s1]⟩:=⟨_,rfl⟩
 have wT:RowAt hT 3 s1 rs1 (rowCopy o):=by rw [hhT];exact wA.new _
 have hfi:=r0p (RowAt.sees wT) hrB n
 have hm1:¬ 1 = hA.next:=by omega
 have hm2:¬ 2 = hA.next:=by omega
 have fp:hT.f hA.next = some ⟨0,[1],true,[s1]⟩:=by rw [hhT];simp
 have g1:hT.f 1 = some ⟨0,[1],true,[ii t]⟩:=by rw [hhT,p0 hm1];exact f1
 have g2:hT.f 2 = some ⟨0,[1],true,[.nilslc]⟩:=by rw [hhT,p0 hm2];exact f2
 have hTn:hT.next = hA.next + 1:=by rw [hhT];rfl
 have hlenO:(ls (rowCopy o)).length <= 4:=by simp only [V5,oqd,oqj] at hrB;exact hrB.2
 have hrl:=wA.col.len
 cases hTb:a0f (ls (rowCopy o)) n with
 | false =>
  rw [hTb] at hres hfi
  rw [if_pos rfl] at hres
  have w7:=(wT.keep (h':=hT.set 2 ⟨0,[1],true,[s1]⟩) (by simp) (fun x hx hxx=>by
   rw [l0,if_neg]
   rintro rfl
   rcases hxx with e | e
   ·have:=(wT.own _ e).1;omega
   ·have:=(wT.col.lt _ e).1;omega)).frz0 61
  rw [hres] at w7
  refine zzP (hv:=by simp [M5,-lay,c7,v9]) Tryz.func239 rfl ?_
  simp only [Tryz.f239]
  intro Yb Q1 Y1
  repeat' (first
   | (replace Y1:=Y1;simp [e1,<- hhT,fp,hfi,g2,w7,J8,-lay,L5,L6,A7,A0,u9,Yb])
   | refine Y1 _ _ _ ?_
   | refine dF (id:=5) r0M [(1,10)] ?_)
 | true =>
  rw [hTb] at hres hfi
  rw [if_neg (by simp)] at hres
  obtain ⟨hI3,hn3⟩:=at_inv hTb
  have hallO:(ls (rowCopy o)).all a0H = true:=by simp only [V5,oqd] at hrB;exact hrB.1.1
  have hO2:rowCopy o = some (ls (rowCopy o)):=by cases hO:rowCopy o with | none=>rw [hO] at hI3;simp at hI3 | some l=>rfl
  rw [hO2] at wT
  generalize hI:S9 (ls (rowCopy o)) n = I at *
  generalize hcs:ls (rowCopy o) = cs at *
  have hI2:I < rs1.length:=by omega
  rw [List.getElem?_eq_getElem hI3] at hres
  simp only [oqS] at hres
  rw [m0S hI3] at hres
  have hs1:∃ b v,s1 = .slc b v 0 rs1.length 2 none:=by
   rcases wT.arr with ⟨_,e⟩ | ⟨b,v,z,e,ar⟩
   ·rw [e] at hI2;simp at hI2
   ·exact ⟨b,v,e⟩
  obtain ⟨b,v,rfl⟩:=hs1
  have hbp:b ≠ hA.next:=fun e=>by have:=wA.arr.lt (b:=b) rfl;omega
  have hb3:3 <= b:=(wA.own b rfl).1
  have wI:ColAt hT 3 rs1[I] cs[I]:=wT.col.at I hI2
  obtain ⟨hcl2,hcl3,_⟩:=colB_inv (oqn.1 hallO _ (List.getElem_mem hI3))
  obtain ⟨s3,h3,e3,sl3,n3,f3',o3,hnil3⟩:=i0v y0O (h:=hT) (p:=1) (t:=t) (by omega) g1 wI.2.1 (fun e=>by have:=(wI.2.2.2 1 e).1;omega) (by omega)
  have hnn:rs1[I].2 ≠ .nilslc:=fun e=>hcl3 (by rw [wI.2.2.1.1 e];rfl)
  generalize hmm:(ls cs[I].l).filter (fun x=>!(x.time == t)) = m at *
  have hc5:ColAt h3 3 (rs1[I].1,s3) ⟨n,some m⟩:=by
   refine ⟨by rw [wI.1];exact hn3,sl3,⟨fun e=>absurd (hnil3.2 e) hnn,fun e=>by simp at e⟩,fun x hx=>?_⟩
   exact ⟨(wI.2.2.2 x (o3 x hx)).1,sl3.lt hx⟩
  obtain ⟨fx,ex,M,hfb,hM1,hM2,w5⟩:=wT.setAt hI2 n3 f3' hc5 (fun x hx=>.inl (o3 x hx))
  obtain ⟨hF,hhF⟩:∃ hF,hF = h3.set b ⟨v,[M.length],fx,lay M (I * 2 + 1) [s3]⟩:=⟨_,rfl⟩
  rw [<- hhF] at w5
  have hFn:hA.next < hF.next:=by rw [hhF];simp;omega
  have hrs:(rs1.set I (rs1[I].1,s3)).length = rs1.length:=List.length_set
  have Yb:∀ y,y < 3->z7 rs1[I].2 ≠ some y:=fun y hy e=>by have:=(wI.2.2.2 y e).1;omega
  have hpI:z7 rs1[I].2 ≠ some hA.next:=fun e=>by have:=(wA.col.lt _ (c0w hI2 e)).2;omega
  have f3p:h3.f hA.next = some ⟨0,[1],true,[.slc b v 0 rs1.length 2 none]⟩:=by rw [f3' _ (by omega) hpI];exact fp
  have fpF:hF.f hA.next = some ⟨0,[1],true,[.slc b v 0 rs1.length 2 none]⟩:=by rw [hhF,l0,if_neg (Ne.symm hbp)];exact f3p
  have f2F:hF.f 2 = some ⟨0,[1],true,[.nilslc]⟩:=by rw [hhF,l0,if_neg (by omega),f3' 2 (by omega) (Yb 2 (by omega))];exact g2
  have hM3:I * 2 + 1 + 1 <= M.length:=by omega
  obtain ⟨fx0,ex0,M0,hfb0,hM01,hM02⟩:=x0u wT hI2
  have w5':=w5
  rw [<- hrs] at w5'
  obtain ⟨fx1,ex1,M1,hfb1,hM11,hM12⟩:=x0u w5' (i:=I) (by rw [hrs];exact hI2)
  simp only [List.getElem_set_self] at hM12
  have hx1:=U5 (P:=Tryz.prog) (size:=2) (b:=b) (v:=v) (n:=rs1.length) (i:=I) Tryz.underlying79 (by simp) (by omega) hI2
  have hla:∀ (u:TypeId) (h':H),V9 s3 (some (.slice u)) h' = some (one (ii m.length) h'):=fun u h'=>U4 h' u (sl3.sees J0) (by omega) (A8 J0 m)
  obtain ⟨c0,hc0⟩:∃ c0,c0 = rs1[I].2:=⟨_,rfl⟩
  rw [<- hc0] at hM02 e3
  have hw:IntKind.i64.wrap ((I:Int) + 1) = (I:Int) + 1:=J1 (by omega)
  by_cases hm0:m = []
  ·rw [if_pos hm0] at hres
   subst hm0
   have hla0:∀ (u:TypeId) (h':H),V9 s3 (some (.slice u)) h' = some (one (ii 0) h'):=hla
   have ar:∃ z,Arr hF k0Y b v (rs1.set I (rs1[I].1,s3)) z:=by
    rcases w5'.arr with ⟨e,_⟩ | ⟨b',v',z,e,ar⟩
    ·cases e
    ·cases e;exact ⟨z,ar⟩
   obtain ⟨z,ar⟩:=ar
   obtain ⟨r2,e2,hr2⟩:=l0E ar I (by rw [hrs];exact hI2) (by omega)
   rw [hrs] at e2 hr2
   obtain ⟨q2,hD,rfl,rfl,⟨z',ar2⟩,nD,fD⟩:=hr2.ret
   have w2:=RowAt.eraseAt w5' (by rw [hrs];exact hI2) nD fD ar2
   rw [hrs] at w2
   have hers:(rs1.set I (rs1[I].1,s3)).eraseIdx I = rs1.eraseIdx I:=by rw [List.eraseIdx_set_eq]
   have hecs:(cs.set I ⟨n,some []⟩).eraseIdx I = cs.eraseIdx I:=by rw [List.eraseIdx_set_eq]
   rw [hers,hecs] at w2
   have hDp:hD.f hA.next = some ⟨0,[1],true,[.slc b v 0 rs1.length 2 none]⟩:=by rw [fD _ (Ne.symm hbp)];exact fpF
   obtain ⟨hE,hhE⟩:∃ hE,hE = hD.set hA.next ⟨0,[1],true,[.slc b v 0 (rs1.length - 1) 2 none]⟩:=⟨_,rfl⟩
   have wE:RowAt hE 3 (.slc b v 0 (rs1.length - 1) 2 none) (rs1.eraseIdx I) (some (cs.eraseIdx I)):=w2.keep (by rw [hhE];simp) fun x hx hxx=>by
    rw [hhE,l0,if_neg]
    rintro rfl
    rcases hxx with e | e
    ·cases e;exact hbp rfl
    ·have:=(wA.col.lt _ (((List.eraseIdx_sublist rs1 I).filterMap _).subset e)).2;omega
   have hEn:hA.next < hE.next:=by rw [hhE];simp;omega
   obtain ⟨s6,hG,e6,f6,w7⟩:=n0S wE (by rw [K6,List.length_eraseIdx];split <;> omega) (k:=2) (by omega)
   have fpE:hE.f hA.next = some ⟨0,[1],true,[.slc b v 0 (rs1.length - 1) 2 none]⟩:=by rw [hhE];simp
   have f2G:hG.f 2 = some ⟨0,[1],true,[.nilslc]⟩:=by rw [f6 2 (by omega),hhE,l0,if_neg hm2,fD 2 (by omega)];exact f2F
   rw [hres] at w7
   have w8:=(w7 _).2 rfl
   refine zzP (hv:=by simp [M5,-lay,c7,v9]) Tryz.func239 rfl ?_
   simp only [Tryz.f239]
   intro Yb Q2 Y2
   repeat' (first
    | (replace Y2:=Y2;simp [e1,<- hhT,fp,hfi,hx1,hfb0,hM01,hM02,e3,f3p,hfb,hM3,<- hhF,fpF,hfb1,hM11,hM12,hla0,hw,e2,hDp,<- hhE,fpE,e6,f2G,w8,J8,-lay,L5,L6,A7,A0,u9,Yb])
    | refine Y2 _ _ _ ?_
    | refine dF (id:=5) r0M [(1,10)] ?_)
  ·rw [if_neg hm0] at hres
   have hmb:((m.length:Int) == 0) = false:=by simp [hm0]
   have hmc:¬ ((m.length:Int) = 0):=by simp [hm0]
   obtain ⟨s6,hG,e6,f6,w7⟩:=n0S w5 (by rw [K6,List.length_set];omega) (k:=2) (by omega)
   have f2G:hG.f 2 = some ⟨0,[1],true,[.nilslc]⟩:=by rw [f6 2 (by omega)];exact f2F
   rw [hres] at w7
   have w8:=(w7 _).2 rfl
   refine zzP (hv:=by simp [M5,-lay,c7,v9]) Tryz.func239 rfl ?_
   simp only [Tryz.f239]
   intro Yb Q3 Y3
   repeat' (first
    | (replace Y3:=Y3;simp [e1,<- hhT,fp,hfi,hx1,hfb0,hM01,hM02,e3,f3p,hfb,hM3,<- hhF,fpF,hfb1,hM11,hM12,hla,hmb,e6,f2G,w8,J8,-lay,L5,L6,A7,A0,u9,Yb])
    | refine Y3 _ _ _ ?_
    | refine dF (id:=5) r0M [(1,10)] ?_)
end Go.Proofs.YtiagcnfmgigllaaGreat.Rw
