/- A part of a proof over the abstract machine. No conditions. -/
import Derived.Test.YtiagcnfmgigllaaGreatWmStore2
import Derived.Laws.FloatBits
set_option linter.all false
namespace Go.Proofs.YtiagcnfmgigllaaGreat
open Go Go.Ab Wm NumPlain Go.Proofs.Tryz
set_option maxRecDepth 10000
set_option maxHeartbeats 4000000
structure EqV (v w:Wm.Value):Prop where
 k:w.kind = v.kind
 b:v.kind = 1->ls w.b = ls v.b
 n:v.kind = 2->w.n = v.n
structure EqX (v w:Version):Prop where
 t:w.time = v.time
 v:EqV v.v w.v
theorem w0U (lo hi n:BL) (h:H):W K 19 [.agg [.str lo,.str hi],.one (.str n)] h = some (.ret (.one (.bool (G9 ⟨lo,hi⟩ n))) h):=by
 refine zzP func19 rfl ?_
 simp only [f19]
 intro Yb Q1 Y1
 repeat' (first
  | (replace Y1:=Y1;simp [O7])
  | (refine Y1 _ _ _ ?_;clear Y1 Q1;first | simp only [] | simp [G9,blt,A7,A0,z9,c7,u9,Yb])
  | (first | apply cF | apply wN | apply wS) <;> intro Ya <;> (try simp only [Ya]) <;> (try simp [-List.isEmpty_iff,-List.isEmpty_eq_false_iff] at Ya))
 all_goals first | done | (simp_all [-List.isEmpty_iff,-List.isEmpty_eq_false_iff,<- List.isEmpty_iff];done) | (simp_all;first | done | omega) | (simp;omega) | (intros;first | omega | (simp only [oqj] at *;omega) | (simp at *;omega))
structure EqN (x y:Named):Prop where
 n:y.name = x.name
 r:∀ h,W K 36 [.agg (J8 x.r),.agg (J8 y.r)] h = some (.ret (.one (.bool true)) h)
theorem s0H (a b c d:BL):bin prog K.cmp .neq 43 (.agg [.str a,.str b]) (.agg [.str c,.str d]) = some (.bool (!(decide (a = c) && decide (b = d)))):=by
 have hc:K.cmp 43 = some [.str [],.str []]:=by kernel_rfl
 simp [bin,hc,T6,eqL,eqS]
 rw [Bool.eq_iff_iff];simp
theorem EqV.symm {v w:Wm.Value} (e:EqV v w):EqV w v:=⟨e.k.symm,fun h=>(e.b (by rw [<- e.k];exact h)).symm,fun h=>(e.n (by rw [<- e.k];exact h)).symm⟩
theorem G0c {l:List Named} (ok:TblOk l) {x:Named} (hx:x ∈ l):V5 x.r = true:=by have:=P6 x.r;rwa [(ok.row x hx).1] at this
structure One (p:Pt):Prop where
 sp:p.t.span = ⟨[],[]⟩
 fr:p.t.fr = false
 rows:TblOk p.t.rows
 cache:CchOk p.t.cache
theorem o0i (n:BL):G9 ⟨[],[]⟩ n = true:=by simp [G9,blt]
theorem j0G:TblOk []:=⟨rfl,by simp,by simp,by simp⟩
theorem s0n:CchOk []:=.of rfl (by simp)
theorem s0v {p:Pt} (o:One p):SpI [p.t] p.t.rows:=by
 refine ⟨o.sp,fun t ht=>?_,by simp,o.rows⟩
 rw [List.mem_singleton.1 ht]
 exact ⟨by rw [o.sp];rfl,o.fr,o.rows,o.cache,fun x _=>by rw [o.sp];exact o0i _⟩
abbrev g0y (x:Nat):List Change:=[⟨5,[120],5,⟨2,none,x⟩⟩]
def d0x (row:BL) (x:Nat):Wm.Op:=⟨2,row,[],k0I,some (g0y x),0⟩
theorem x0b (row:BL) (x:Nat) (h:H):W K 26 [.one (.str row),.one (.flt x)] h = some (.ret (.agg [ii 1,ii 2,.str row,.str [],.bool false,.bool false,.str [],ii 0,.nilslc,.flt 0,sl 6 l8 (some (g0y x)),ii 0,.str [],.str [],ii 0,.str [],ii 0,ii 0,.nilslc]) h):=by
 refine zzP func26 rfl ?_
 simp only [f26]
 intro Yb Q1 Y1
 repeat' (first
  | (replace Y1:=Y1;simp [sl,cat,l8,C9,A7,A0,z9,c7,u9,Yb])
  | refine Y1 _ _ _ ?_)
theorem k0V {row:BL} (hr:J9 row = true) (x:Nat):OpIs (d0x row x):=by
 have:=h0F hr
 refine ⟨?_,this,by simp [d0x],by simp [d0x,k0I],by simp [d0x,k0I],by simp [d0x],by simp [d0x]⟩
 have hx:J9 [120] = true:=rfl
 simp [h0X,d0x,hr,hx,o0D,k0I,K5,n0L,V7]
theorem z0B (h:H):StAt (h.new ⟨0,[3],true,[.nilslc,ii 0,ii 0]⟩) h.next .nilslc [] 0 0:=⟨by simp,by simp,.inl ⟨rfl,rfl⟩,by simp,by simp [fpS,z7]⟩
theorem q0H (h:H):W K 31 [.one .nilslc] h = some (.ret (.one (.bool true)) h):=by
 refine zzP func31 rfl ?_
 simp only [f31]
 intro Yb Q2 Y2
 repeat' (first
  | (replace Y2:=Y2;simp [A7])
  | refine Y2 _ _ _ ?_)
 refine S0 hp 0 (fun i fr hh=>True/\∃ j:Nat->AV,fr = (j 0::j 1::j 2::j 3::j 4::j 5::j 6::j 7::(.one (ii 0))::(.one (ii 0))::j 10::j 11::j 12::j 13::j 14::j 15::j 16::j 17::j 18::j 19::j 20::j 21::j 22::j 23::j 24::j 25::j 26::j 27::j 28::j 29::[])) ?_ ?_ _ _ ⟨trivial,y0 (by simp)⟩
 ·intro i fr hh hi;omega
 ·rintro fr hh ⟨_,j,rfl⟩
  first | (refine s9 ?_;intro Q3 Y3) | have Y3:=oqk
  repeat' (first
   | (replace Y3:=Y3;simp [A7])
   | (refine Y3 _ _ _ ?_;clear Y3 Q3;first | simp only [] | simp [A7,A0,z9,A5,L9,c7,v9,u9,Yb] | skip)
   | (refine F6 (by assumption) ?_;(try clear Y3);first | simp only [] | simp [A7,A0,z9,c7,u9,Yb] | skip)
   | ((fail_if_success replace Y3:=Y3);(first | refine s9 ?_ | refine A1 ?_ | refine A4 ?_);intro Q3 Y3))
theorem p0R (h:H):∃ h',W K 8 [.one .nilslc] h = some (.ret (.one (.ptr h.next 0 0)) h')/\StAt h' h.next .nilslc [] 0 0/\Kept h h':=by
 obtain ⟨h8,e8,w8,g8⟩:=r0k (z0B h) (by simp)
 have hs:Z5 pLt ([]:List Pt) = []:=rfl
 rw [hs] at w8 g8
 have kp:Kept h h8:=⟨by have:=g8.next;simp at this;omega,fun x hx=>by rw [g8.keep x (by simp;omega) (by simp [fpS,z7];omega),p0 (by omega)]⟩
 obtain ⟨P,hP⟩:∃ P:CR->Prop,P = fun r=>r = .ret (.one (.ptr h.next 0 0)) h8:=⟨_,rfl⟩
 suffices hh:∃ r,W K 8 [.one .nilslc] h = some r/\P r by
  rw [hP] at hh
  obtain ⟨r,e,rfl⟩:=hh
  exact ⟨h8,e,w8,kp⟩
 have hA:=q0H
 refine zzE func8 rfl ?_
 simp only [f8]
 intro Q4 Y4
 repeat' (first
  | (replace Y4:=Y4;simp)
  | refine Y4 _ _ _ ?_
  | (first | refine dF (id:=9) c0n [] ?_ | refine dF (id:=10) g0z [(4,9),(4,10),(6,9),(6,10),(8,9),(8,10)] ?_))
 refine S0 hp 0 (fun i fr hh=>hh = h.new ⟨0,[3],true,[.nilslc,ii 0,ii 0]⟩/\∃ j:Nat->AV,fr = ((.one .nilslc)::j 1::j 2::(.one (.ptr h.next 0 0))::(.one .nilslc)::j 5::j 6::j 7::j 8::j 9::(.one (ii 0))::(.one (ii 0))::j 12::j 13::j 14::j 15::j 16::j 17::j 18::j 19::j 20::j 21::j 22::j 23::j 24::j 25::j 26::j 27::j 28::j 29::j 30::j 31::j 32::j 33::j 34::j 35::j 36::j 37::j 38::j 39::j 40::j 41::j 42::j 43::j 44::j 45::j 46::j 47::j 48::j 49::j 50::j 51::j 52::j 53::j 54::j 55::j 56::j 57::j 58::j 59::j 60::j 61::j 62::j 63::j 64::j 65::j 66::[])) ?_ ?_ _ _ ⟨rfl,y0 (by simp)⟩
 ·intro i fr hh hi;omega
 ·rintro fr hh ⟨rfl,j,rfl⟩
  first | (refine s9 ?_;intro Q5 Y5) | have Y5:=oqk
  repeat' (first
   | (replace Y5:=Y5;simp [hA,e8])
   | (refine Y5 _ _ _ ?_;clear Y5 Q5;first | simp only [] | simp [hA,e8] | skip)
   | (refine F6 (by assumption) ?_;(try clear Y5);first | simp only [] | simp [hA] | skip)
   | ((fail_if_success replace Y5:=Y5);(first | refine s9 ?_ | refine A1 ?_ | refine A4 ?_);intro Q5 Y5)
   | (first | refine dF (id:=9) c0n [] ?_ | refine dF (id:=10) g0z [(4,9),(4,10),(6,9),(6,10),(8,9),(8,10)] ?_))
  rw [hP]
theorem A0j {h:H} {s:Nat} {sp:AS} {ps:List Pt} {last code:Int} (w:StAt h s sp ps last code) (hn:ps.length < 1000000) (client seq:Int) (C7:Int) (D5:BL) (L3:BL) (r9:Bool) (l9:Bool) (s8:BL) (c9:Int) (p4:Option BL) (s7:Nat) (o_l:Option (List Change)) (C5:Int) (oo:h0X ⟨C7,D5,L3,⟨r9,l9,s8,⟨c9,p4,s7⟩⟩,o_l,C5⟩ = true) (ol:(ls o_l).length < 9223372036854775807) (hf:b0O D5 none ps = none) :
  ∃ h',W K 12 [.one (.ptr s 0 0),.one (ii client),.one (ii seq),.agg [ii 1,ii C7,.str D5,.str L3,.bool r9,.bool l9,.str s8,ii c9,bs p4,.flt s7,sl 6 l8 o_l,ii C5,.str [],.str [],ii 0,.str [],ii 0,ii 0,.nilslc]] h = some (.ret (.agg (c6 (noA 26))) h')/\Kept h h'/\StAt h' s sp ps last code:=by
 obtain ⟨B,hB⟩:∃ B:Blk,B = ⟨0,[19],true,[ii 1,ii C7,.str D5,.str L3,.bool r9,.bool l9,.str s8,ii c9,bs p4,.flt s7,sl 6 l8 o_l,ii C5,.str [],.str [],ii 0,.str [],ii 0,ii 0,.nilslc]⟩:=⟨_,rfl⟩
 obtain ⟨h2,hh2⟩:∃ h2,(h.new B).new R9 = h2:=⟨_,rfl⟩
 have e1:=o0l (((w.new B).new R9).new ⟨0,[11],true,[ii C7,.str D5,.str L3,.bool r9,.bool l9,.str s8,ii c9,bs p4,.flt s7,sl 6 l8 o_l,ii C5]⟩ |>.new R9) hn D5
 rw [hf] at e1
 simp only [i0X] at e1
 have hno:=q0D 26
 have hCl:(c6 (noA 26)).length = 11:=rfl
 have hCs:sub (c6 (noA 26)) 0 11 = some (c6 (noA 26)):=L4 hCl
 have e2:W K 39 [.one (.ptr s 0 0),.one (ii client),.one (ii seq),.agg [ii C7,.str D5,.str L3,.bool r9,.bool l9,.str s8,ii c9,bs p4,.flt s7,sl 6 l8 o_l,ii C5]] ((h.new B).new R9) = some (.ret (.agg (c6 (noA 26))) ((((h.new B).new R9).new ⟨0,[11],true,[ii C7,.str D5,.str L3,.bool r9,.bool l9,.str s8,ii c9,bs p4,.flt s7,sl 6 l8 o_l,ii C5]⟩).new ⟨0,[11],true,c6 (noA 26)⟩)):=by
  generalize c6 (noA 26) = C at *
  rw [hh2] at e1 |-
  refine zzD func39 rfl ?_
  simp only [f39]
  intro Q6 Y6
  repeat' (first
   | (replace Y6:=Y6;simp [-lay,J2,hCl,hCs,C0B,e1,hno,T8])
   | refine Y6 _ _ _ ?_)
 rw [hB] at e2
 have e:=s0o (B7:=1) client seq C7 D5 L3 r9 l9 s8 c9 p4 s7 o_l C5 [] [] 0 [] 0 0 none rfl (by simp only [c0j,if_true];exact oo) ol (by simpa only [C9] using e2) (by simp [L8])
 simp only [C9] at e
 have kp:Kept h (((((h.new ⟨0,[19],true,[ii 1,ii C7,.str D5,.str L3,.bool r9,.bool l9,.str s8,ii c9,bs p4,.flt s7,sl 6 l8 o_l,ii C5,.str [],.str [],ii 0,.str [],ii 0,ii 0,.nilslc]⟩).new R9).new ⟨0,[11],true,[ii C7,.str D5,.str L3,.bool r9,.bool l9,.str s8,ii c9,bs p4,.flt s7,sl 6 l8 o_l,ii C5]⟩).new ⟨0,[11],true,c6 (noA 26)⟩).set (h.next + 1) ⟨0,[11],true,c6 (noA 26)⟩):=⟨by simp;omega,fun x hx=>by rw [l0,if_neg (by omega),p0 (by simp;omega),p0 (by simp;omega),p0 (by simp;omega),p0 (by omega)]⟩
 exact ⟨_,e,kp,w.kept kp⟩
theorem p0l (c:Nat->Option (List AS)) (b v o:Nat):bin prog c .eql 23 (.one (.ptr b v o)) (.one .nilptr) = some (.bool false):=by simp [bin,d0W,a0L]
theorem s0A (h:H):∃ h' s sp p,W K 8 [.one (.slc h.next 0 0 1 4 none)] (h.new ⟨0,[4],true,[.str [],.str [],ii 0,ii 1]⟩) = some (.ret (.one (.ptr s 0 0)) h')/\StAt h' s sp [p] 1 0/\p.t = ⟨⟨[],[]⟩,1,false,[],[]⟩/\One p/\Kept h h'/\(∀ x ∈ fpS s sp [p],h.next <= x):=by
 obtain ⟨h',sp,p,e,w,e1,k,l⟩:=t0H (h:=h.new ⟨0,[4],true,[.str [],.str [],ii 0,ii 1]⟩) (b:=h.next) (by simp) (by simp)
 refine ⟨h',_,sp,p,e,w,e1,⟨by rw [e1],by rw [e1],by rw [e1];exact j0G,by rw [e1];exact s0n⟩,⟨by have:=k.1;simp at this;omega,fun x hx=>by rw [k.2 x (by simp;omega),p0 (by omega)]⟩,fun x hx=>by have:=l x hx;simp at this;omega⟩
theorem t0t:(f0v [] (d0x [110] 4617315517961601024)).2 = 0/\(f0v [] (d0x [110] 4617315517961601024)).1.length = 1:=by decide +kernel
theorem t0r (h:H):∃ h',W K 15 [] h = some (.ret (.one (.bool true)) h')/\Kept h h':=by
 have hw:=s0x h
 obtain ⟨h2,s,sp2,p,e2,w2,ep,po,k2,l2⟩:=s0A h
 have hps:p.t.span.lo = []:=by rw [po.sp]
 have hph:p.t.span.hi = []:=by rw [po.sp]
 have hI:SpI ((([]:List Pt)++p::[]).map (·.t)) p.t.rows:=s0v po
 obtain ⟨h3,sp3,pa,pb,e3,w3,I3,ta3,tb3,g3⟩:=r0g (l1:=[]) (l2:=[]) (k:=[109]) (g:=2) w2 (by simp) hI 1 1 (by simp) (by simp) (by rw [po.sp];exact o0i _) (by rw [hps];simp) (by omega) (by omega)
 rw [hps,hph] at e3
 simp only [g0V] at e3
 simp only [oql] at w3 g3 I3
 obtain ⟨C0,hC0⟩:∃ C,c6 (noA 0) = C:=⟨_,rfl⟩
 have hCl:C0.length = 11:=by rw [<- hC0];rfl
 have hCs:sub C0 0 11 = some C0:=L4 hCl
 have hCz:sub C0 0 1 = some [ii 0]:=by rw [<- hC0];rfl
 obtain ⟨C1,hC1⟩:∃ C,c6 (noA 26) = C:=⟨_,rfl⟩
 have hDl:C1.length = 11:=by rw [<- hC1];rfl
 have hDs:sub C1 0 11 = some C1:=L4 hDl
 have hDz:sub C1 0 1 = some [ii 26]:=by rw [<- hC1];rfl
 rw [hC0] at e3
 have w3':StAt (h3.new ⟨0,[11],true,C0⟩) s sp3 ([pa]++pb::[]) 2 0:=w3.new _
 have l3:∀ x ∈ fpS s sp3 [pa,pb],h.next <= x:=fun x hx=>by
  rcases g3.own x hx with e | e
  ·exact l2 x e
  ·have:=k2.1;omega
 have k3:Kept h h3:=⟨by have:=g3.next;have:=k2.1;omega,fun x hx=>by rw [g3.keep x (by have:=k2.1;omega) (fun e=>by have:=l2 x e;omega),k2.2 x hx]⟩
 have oi:=k0V (row:=[110]) rfl 4617315517961601024
 have hpa:pa.t = ⟨⟨[],[109]⟩,2,false,[],[]⟩:=by rw [ta3,ep];rfl
 have hpb:pb.t = ⟨⟨[109],[]⟩,2,false,[],[]⟩:=by rw [tb3,ep];rfl
 obtain ⟨h4,pb',e4,d4,t4,w4,g4⟩:=q0S w3' (by simp) 1 2 2 [110] [] false false [] 0 none 0 (some (g0y 4617315517961601024)) 0 oi.ok (by simp) (by simp) (by
  have h1:G9 ⟨[],[109]⟩ [110] = false:=by decide
  have h2:G9 ⟨[109],[]⟩ [110] = true:=by decide
  simp [b0O,hpa,hpb,h1,h2]) (by rw [hpb];decide) (by rw [hpb]) (by rw [hpb];decide) (by rw [hpb];exact j0G) (by rw [hpb];exact s0n) (by rw [hpb];rfl) (by omega) (by omega)
 rw [hpb] at e4 t4
 simp only [show ((2:Int) = 1) = False from eq_false (by omega),opT,if_true,if_false] at e4 t4
 have hfc:=t0t
 simp only [d0x,k0I] at hfc
 rw [hfc.1,hC0] at e4
 simp only [oqm,oql] at w4 g4
 have l4:∀ x ∈ fpS s sp3 [pa,pb'],h.next <= x:=fun x hx=>by
  rcases g4.own x hx with e | e
  ·exact l3 x e
  ·have:=k3.1;simp at e;omega
 have n4:=g4.next
 simp only [A6] at n4
 have k4:Kept h h4:=⟨by have:=k3.1;omega,fun x hx=>by rw [g4.keep x (by have:=k3.1;simp;omega) (fun e=>by have:=l3 x e;omega),p0 (by have:=k3.1;omega),k3.2 x hx]⟩
 have f4:h4.f h3.next = some ⟨0,[11],true,C0⟩:=by rw [g4.keep _ (by simp) (fun e=>by have:=w3.fp_lt _ e;omega)];simp
 have w4':=w4.new ⟨0,[11],true,C0⟩
 have e5:=x0e w4' (by simp)
 have hsm:d0d false ([pa,pb'].map (·.t)) = [V2 pa.t,V2 pb'.t]:=by simp [d0d,hpa,t4]
 rw [hsm] at e5
 simp only [z0o] at e5
 obtain ⟨h6,e6,w6,k6⟩:=p0R (h4.new ⟨0,[11],true,C0⟩)
 obtain ⟨h7,e7,k7,w7⟩:=A0j w6 (by simp) 1 1 2 [110] [] false false [] 0 none 0 (some (g0y 4617315517961601024)) 0 oi.ok (by simp) rfl
 rw [hC1] at e7
 simp only [A6] at e6 e7 w7
 have n6:=k6.1
 have n7:=k7.1
 simp only [A6] at n6
 have kk:∀ x,x < h4.next + 1->h7.f x = (h4.new ⟨0,[11],true,C0⟩).f x:=fun x hx=>by rw [k7.2 x (by omega),k6.2 x (by simpa using hx)]
 have f7a:h7.f h3.next = some ⟨0,[11],true,C0⟩:=by rw [kk _ (by omega),p0 (by omega)];exact f4
 have f7b:h7.f h4.next = some ⟨0,[11],true,C0⟩:=by rw [kk _ (by omega)];simp
 have w8:StAt (h7.new ⟨0,[11],true,C1⟩) s sp3 [pa,pb'] 2 0:=(((w4'.kept k6).kept k7).new _)
 have e8:=B0N w8 (by simp) (fun q hq=>by
  simp only [oqf,List.not_mem_nil,or_false] at hq
  rcases hq with rfl | rfl
  ·rw [hpa];exact j0G
  ·rw [t4];exact w0k j0G _)
 have hrl:(d0p ([pa,pb'].map (·.t))).length = 1:=by simp [d0p,hpa,t4];exact hfc.2
 have hla8:∀ (u:TypeId) (h':H),V9 (sl 2 g9 (nz (d0p ([pa,pb'].map (·.t))))) (some (.slice u)) h' = some (one (ii 1) h'):=fun u h'=>by rw [a0C,c0u,hrl];rfl
 generalize sl 2 g9 (nz (d0p ([pa,pb'].map (·.t)))) = Z at *
 have hla5:∀ (u:TypeId) (h':H),V9 (sl 4 I4 (some [V2 pa.t,V2 pb'.t])) (some (.slice u)) h' = some (one (ii 2) h'):=fun u h'=>a0C ..
 have hix:=N6 (P:=prog) (enc:=I4) (s:=4) (l:=[V2 pa.t,V2 pb'.t]) (i:=1) underlying25 (by simp) (by omega) (by simp)
 have hsub:sub (cat I4 [V2 pa.t,V2 pb'.t]) 7 1 = some [ii 2]:=by rw [hpa,t4];rfl
 generalize cat I4 [V2 pa.t,V2 pb'.t] = CT at *
 generalize sl 4 I4 (some [V2 pa.t,V2 pb'.t]) = ZT at *
 have m1:¬ h3.next = h7.next:=by omega
 have m2:¬ h4.next = h7.next:=by omega
 have m3:¬ h3.next = h4.next:=by omega
 have eop:=x0b [110] 4617315517961601024
 simp only [C9] at e4 e7
 refine ⟨h7.new ⟨0,[11],true,C1⟩, ?_,⟨by simp;have:=k4.1;omega,fun x hx=>by rw [p0 (by have:=k4.1;omega),kk x (by have:=k4.1;omega),p0 (by have:=k4.1;omega),k4.2 x hx]⟩⟩
 generalize sl 6 l8 (some (g0y 4617315517961601024)) = ZO at *
 refine zzD func15 rfl ?_
 simp only [f15]
 intro Q1 Y1
 repeat' (first
  | (replace Y1:=Y1;simp [-lay,L5,L6,O6,J2,hCl,hCz,hDl,hDz,p0l,hw,e2,e3,eop,e4,e5,e6,e7,f7a,f7b,e8,hla8,hla5,hix,hsub,m1,m2])
  | refine Y1 _ _ _ ?_)
def h0t (n:Int):List AS:=[ii n]
theorem u0F {ts:List TabD} (h:∀ t ∈ ts,t.fr = false):d0d false ts = ts.map V2:=by
 unfold d0d
 rw [List.filter_eq_self.2 fun t ht=>by rw [h t ht];rfl]
theorem x0I {α:Type} {A B b q:List α} {P y:α} (e:A++P::B = b++y::q):(b.length = A.length/\y = P) \/ (b.length ≠ A.length/\y ∈ A++B):=by
 by_cases h:b.length = A.length
 ·left
  obtain ⟨e1,e2⟩:=List.append_inj e h.symm
  simp only [List.cons.injEq] at e2
  exact ⟨h,e2.1.symm⟩
 ·right
  refine ⟨h, ?_⟩
  have hy:(A++P::B)[b.length]? = some y:=by rw [e];simp
  rcases Nat.lt_or_ge b.length A.length with h1 | h1
  ·rw [List.getElem?_append_left h1] at hy
   exact List.mem_append_left _ (List.mem_of_getElem? hy)
  ·rw [List.getElem?_append_right h1] at hy
   obtain ⟨n,hn⟩:∃ n,b.length - A.length = n + 1:=⟨b.length - A.length - 1,by omega⟩
   rw [hn,List.getElem?_cons_succ] at hy
   exact List.mem_append_right _ (List.mem_of_getElem? hy)
theorem w0S:∀ l,FitL [.int .i64] l->∃ n:Int,I64 n/\l = h0t n:=by
 intro l hf
 obtain ⟨a1,r1,rfl,g1,hf⟩:=m0B hf
 cases q0u hf
 obtain ⟨n1,b1,rfl⟩:=y0N g1
 exact ⟨n1,b1,rfl⟩
end Go.Proofs.YtiagcnfmgigllaaGreat
namespace Wm
open Go Go.Ab
def vN (v:Value):Prop:=v.kind = 2->v.n < 2 ^ 64
def F0v (r:Row):Prop:=∀ c ∈ ls r,∀ x ∈ ls c.l,vN x.v
def B0Q (l:List Named):Prop:=∀ x ∈ l,F0v x.r
theorem k0x (l:List Column) (n:BL):S9 l n <= l.length:=q0r _ _
theorem s0V {l:List Tld} (ok:CchOk l) {x:Tld} (hx:x ∈ l):f0S l x.client = true/\∃ h:cix l x.client < l.length,l[cix l x.client] = x:=by
 obtain ⟨k,hk,rfl⟩:=List.getElem_of_mem hx
 have hlt:∀ i (hi:i < l.length),i < cix l l[k].client ↔ l[i].client < l[k].client:=fun i hi=>by
  rw [v0h ok.srt _ i hi]
  unfold j0x
  constructor
  ·intro h
   by_cases h1:l[i].client < l[k].client
   ·exact h1
   ·rw [if_neg h1] at h;split at h <;> omega
  ·intro h;rw [if_pos h];omega
 have hk2:cix l l[k].client = k:=by
  have h1:¬ k < cix l l[k].client:=fun h=>by have:=(hlt k hk).1 h;omega
  rcases Nat.lt_or_ge (cix l l[k].client) k with h2 | h2
  ·exfalso
   have h3:=(U0 b0i).1 ok.srt (cix l l[k].client) k h2 hk
   simp only [b0L,oqj] at h3
   have:=(hlt (cix l l[k].client) (by omega)).2 h3
   omega
  ·omega
 refine ⟨?_,by rw [hk2];exact hk,by simp only [hk2]⟩
 unfold f0S
 rw [hk2,List.getElem?_eq_getElem hk];simp
theorem r0V {l:List Tld} (ok:CchOk l) {c s:Int} {b:Option BL} (hs:1 <= s) (hx:(⟨c,s,b⟩:Tld) ∈ l):a0D l c s = (b,2):=by
 obtain ⟨h1,h2,h3⟩:=s0V ok hx
 unfold a0D
 dsimp only
 rw [List.getElem?_eq_getElem h2,h3,Option.getD_some,if_neg (by simp;omega),if_pos ⟨h1,rfl⟩]
theorem x0y {l:List Tld} {c s:Int} {b:Option BL} (hl:(a0D l c s).2 = 1) (hr:a0U c s b = true):(⟨c,s,b⟩:Tld) ∈ (a0v l c s b).1/\∀ x ∈ l,x.client ≠ c->x ∈ (a0v l c s b).1:=by
 unfold a0v
 rw [if_neg (by simp [hl,hr])]
 split
 ·rename_i hT
  obtain ⟨hi,hc⟩:=h0z hT
  refine ⟨List.mem_iff_getElem.2 ⟨cix l c,by simpa using hi,by simp⟩,fun x hx hxc=>?_⟩
  obtain ⟨k,hk,rfl⟩:=List.getElem_of_mem hx
  refine List.mem_iff_getElem.2 ⟨k,by simpa using hk, ?_⟩
  rw [List.getElem_set,if_neg]
  rintro rfl;exact hxc hc
 ·have hi:=l0F l c
  rw [c0I hi]
  refine ⟨by simp,fun x hx _=>?_⟩
  rw [<- List.take_append_drop (cix l c) l] at hx
  rcases oqe.1 hx with h | h
  ·exact List.mem_append_left _ h
  ·exact List.mem_append_right _ (List.mem_cons_of_mem _ h)
end Wm
