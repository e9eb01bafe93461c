/- A part of a proof over the abstract machine. No conditions. -/
import Derived.Test.YtiagcnfmgigllaaGreatC1
import Derived.Test.YtiagcnfmgigllaaGreatRw6
set_option linter.all false
namespace Go.Proofs.YtiagcnfmgigllaaGreat
open Go Go.Ab Wm NumPlain Go.Proofs.Tryz
set_option maxRecDepth 10000
set_option maxHeartbeats 4000000
theorem q0a (h:H):W K 55 [] h = some (.ret (.one (.ptr h.next 0 0)) (h.new ⟨0,[1],true,[.nilslc]⟩)):=by
 refine zzD func55 rfl ?_
 simp only [f55]
 intro Q1 Y1
 repeat' (first
  | (replace Y1:=Y1;simp)
  | refine Y1 _ _ _ ?_)
theorem g0v (o:Option BL) (ho:(ls o).length <= 1099511627776):Fun K 102 [.one (bs o)] (fun h=>.ret (.one (bs o)) h):=by
 cases o with
 | none =>
  simp only [C9]
  have Yb:a0M S.own 102 = false:=by kernel_rfl
  refine ⟨by simp [M5,c7],fun hh=>N2 rfl rfl (by kernel_rfl) func102 rfl (by simp [f102]) ?_⟩
  simp only [f102]
  refine s9 ?_;intro Q2 Y2
  repeat' (first
   | (replace Y2:=Y2;simp [bin,d0W,a0L,A7,A0,z9,c7,u9,Yb])
   | refine Y2 _ _ _ ?_)
 | some l =>
  rw [Z7]
  by_cases h0:l = []
  ·subst h0
   have Yb:a0M S.own 102 = false:=by kernel_rfl
   refine ⟨by simp [M5,c7,v9],fun hh=>N2 rfl rfl (by kernel_rfl) func102 rfl (by simp [f102]) ?_⟩
   simp only [f102]
   refine s9 ?_;intro Q3 Y3
   repeat' (first
    | (replace Y3:=Y3;simp [bin,d0W,a0L,X9,M8,U9,C6,sub,N3,A7,A0,z9,u9,Yb])
    | refine Y3 _ _ _ ?_)
  ·have h1:l.length ≠ 0:=by simpa using h0
   have h3:v9 true (l.map F7) = true:=by
    clear h0 h1 ho
    induction l with
    | nil=>rfl
    | cons a l ih=>simp [v9,F7,c7] at ih |-;exact ih
   have h2:¬ (17592186044416 < l.length + 600 + l.length):=by simp at ho;omega
   have ht:(l.map F7).take l.length = l.map F7:=List.take_of_length_le (by simp)
   have h4:v9 false (l.map F7) = true:=by have:=f0T (some l);rw [Z7] at this;simpa [c7] using this
   have h5:(l.map F7).mapM (z9 true ((H.empty.new ⟨0,[0],true,[]⟩).new ⟨0,[l.length],false,l.map F7⟩) 63) = some (l.map F7):=c0C (n:=62) (by assumption)
   have Yb:a0M S.own 102 = false:=by kernel_rfl
   refine ⟨by simp [M5,h4,c7],fun hh=>N2 rfl rfl (by kernel_rfl) func102 rfl (by simp [f102]) ?_⟩
   simp only [f102]
   refine s9 ?_;intro Q4 Y4
   repeat' (first
    | (replace Y4:=Y4;simp [bin,d0W,a0L,X9,M8,U9,C6,sub,N3,h0,h2,h5,ht,A7,A0,z9,u9,Yb])
    | refine Y4 _ _ _ ?_)
   all_goals trace_state
theorem f0m {h:H} {n:Nat}:∀ {l:List AS},v9 false l = true->(∀ a ∈ l,(∀ f x c,a ≠ .fn f x c)/\∀ t v,a ≠ .ifc t v)->l.mapM (N5 h (n + 1)) = some l
 | [],_,_=>rfl
 | a::l,hp,hn=>by
  simp only [v9,oqd] at hp
  have h1:=hn a (by simp)
  simp only [List.mapM_cons,d0R hp.1 h1.1 h1.2,f0m hp.2 (fun b hb=>hn b (by simp [hb])),oqE,oqS,oqP]
theorem g0Z (l:BL):v9 false (l.map F7) = true:=by have:=f0T (some l);rw [Z7] at this;simpa [c7] using this
theorem p0d (l:BL):∀ a ∈ l.map F7,(∀ f x c,a ≠ .fn f x c)/\∀ t v,a ≠ .ifc t v:=by
 intro a ha
 obtain ⟨b,_,rfl⟩:=List.mem_map.1 ha
 exact ⟨fun _ _ _ h=>(by cases h),fun _ _ h=>(by cases h)⟩
theorem r0s {h:H} {s:AS} {l:BL} (hs:Sees h 1 s (l.map F7)):∃ o:Option BL,ls o = l/\(s = bs o \/ c7 false s = false)/\N5 h 64 s = some (bs o):=by
 cases s <;> simp only [Sees] at hs
 ·refine ⟨none, ?_,.inl rfl,rfl⟩
  simpa using hs.symm
 ·rename_i b v o n s' c
  obtain ⟨rfl,hr⟩:=hs
  have hn:n = l.length:=by have:=m0x hr;simpa using this.symm
  subst hn
  refine ⟨some l,rfl,.inr rfl, ?_⟩
  rw [Z7]
  simp only [N5,hr,oqE,oqS,f0m (n:=62) (g0Z l) (p0d l)]
 ·rename_i n s' q
  obtain ⟨rfl,rfl,hl⟩:=hs
  have hn:n = l.length:=by simpa using hl.symm
  subst hn
  refine ⟨some l,rfl,.inl (Z7 l).symm, ?_⟩
  rw [Z7]
  simp only [N5,c7,g0Z,Bool.not_false,Bool.true_or,Bool.and_self,if_true]
theorem v0R {h:H} {s:AS} {l:BL} (hs:Sees h 1 s (l.map F7)) (hl:l.length <= 1099511627776):∃ o:Option BL,ls o = l/\W K 102 [.one s] h = some (.ret (.one (bs o)) h):=by
 obtain ⟨o,h1,h2,h3⟩:=r0s hs
 refine ⟨o,h1, ?_⟩
 rcases h2 with rfl | h2
 ·exact (g0v o (by rw [h1];exact hl)).pure hp h
 ·refine (g0v o (by rw [h1];exact hl)).view hp ?_
  unfold b0s
  rw [if_neg (by simp [M5,h2])]
  simp [d0b,h3]
theorem r0e {h:H} {p:Nat} {q:Option Nat} {l:BL} (w:Wr h p q l) (hl:l.length <= 1099511627776):∃ o,ls o = l/\W K 59 [.one (.ptr p 0 0)] h = some (.ret (.one (bs o)) h):=by
 obtain ⟨_,s,_,_,hf,ho⟩:=w
 obtain ⟨o,h1,h2⟩:=v0R ho.sees hl
 refine ⟨o,h1, ?_⟩
 refine zzD func59 rfl ?_
 simp only [f59]
 intro Q1 Y1
 repeat' (first
  | (replace Y1:=Y1;simp [hf,h2])
  | refine Y1 _ _ _ ?_)
theorem x0z {α:Type} {o:Option (List α)} {l:List α} (h:ls o = l) (hl:l ≠ []):o = some l:=by
 cases o with
 | none=>exact absurd h.symm hl
 | some x=>simp only [K6] at h;rw [h]
theorem n0G {h0 h:H} {q0:Option Nat} {p:Nat} {l:BL} {kept:List (Nat × Blk)} (ws:WS h0 q0 h p l kept) (hl:l.length <= 1099511627776) (hne:l ≠ []):W K 59 [.one (.ptr p 0 0)] h = some (.ret (.one (bs (some l))) h):=by
 obtain ⟨q,w,_⟩:=ws
 obtain ⟨o,h1,h2⟩:=r0e w hl
 rw [h2,x0z h1 hne]
theorem C0y (h:H) (kept:List (Nat × Blk)) (hk:J4 h kept) (hl:∀ e ∈ kept,e.1 < h.next):WS (h.new ⟨0,[1],true,[.nilslc]⟩) none (h.new ⟨0,[1],true,[.nilslc]⟩) h.next [] kept:=by
 refine ⟨none,⟨by simp,.nilslc,rfl,by simp,by simp,rfl⟩,Only.refl _ _ _,W5 (fun e he=>?_) hk,fun e he=>⟨?_, ?_,by simp⟩⟩
 ·rw [L8,if_neg (by have:=hl e he;omega)]
 ·have:=hl e he;simp;omega
 ·have:=hl e he;omega
theorem F0M {f:Nat} (hq:K.prim f = some (viaP (W Rw.K) f)) {args:List AV} {h:H} {r r':CR} (hw:W Rw.K f args h = some r) (hr:iceR true h r = some r'):W K f args h = some r':=by
 rw [l0h hp hq];simp only [viaP,hw,oqS,hr]
theorem q0N {f:Nat} (hq:K.prim f = some (viaP (W Rw.K) f)) {args:List AV} {h:H} {v:AV} (hw:W Rw.K f args h = some (.ret v h)) (hv:b0u v = true):W K f args h = some (.ret v h):=F0M hq hw (c0B (b0X h) hv)
theorem g0r (o:Row) (ho:(ls o).length < 1000000) (h:H):W K 166 [.agg [sl 2 l7 o]] h = some (.ret (.agg (J8 (rowCopy o))) h):=by
 obtain ⟨r,e,hr⟩:=Rw.copy_c (Rw.row_sees h o) ho
 obtain ⟨v,h',rfl,s',rs',rfl,w,hn,hf⟩:=hr.ret
 refine F0M rfl e (g0t ⟨hn,hf⟩ ?_)
 have:=w.frz (h:=h) (oqg _) 61
 simp only [A0,List.mapM_cons,List.mapM_nil,this,oqE,oqS,oqP,J8]
theorem p0K (o:Row) (ho:(ls o).length < 1000000) (h:H):W K 172 [.agg [sl 2 l7 o]] h = some (.ret (.one (.bool (V5 o))) h):=q0N rfl ((Rw.right_g o ho).pure Rw.hp h) rfl
theorem v0V {h:H} {s:AS} {rs:List RC} {o:Row} (w:Rw.RowSees h s rs o) (ho:(ls o).length < 1000000):W K 172 [.agg [s]] h = some (.ret (.one (.bool (V5 o))) h):=q0N rfl (Rw.right_s w ho (oqg _) fun _ _=>rfl) rfl
theorem A0c (o:Row) (n:BL) (hr:V5 o = true) (h:H):W K 254 [.agg [sl 2 l7 o],.one (.str n)] h = some (.ret (.tup [(false,[ii (S9 (ls o) n)]),(false,[.bool (a0f (ls o) n)])]) h):=q0N rfl ((Rw.find_g o n hr).pure Rw.hp h) rfl
theorem j0U (o:Row):v9 false (J8 o) = true:=by simp [J8,v9]
theorem q0z (o:Row) (ho:(ls o).length < 1000000) (n:BL) (t:Int) (H9:Int) (v_b:Option BL) (v_n:Nat) (h:H) :
  W K 238 [.agg [sl 2 l7 o],.one (.str n),.one (ii t),.agg [ii H9,bs v_b,.flt v_n]] h = some (.ret (.tup [(true,J8 (a0i o n t ⟨H9,v_b,v_n⟩).1),(false,[ii (a0i o n t ⟨H9,v_b,v_n⟩).2])]) h) :=
 q0N rfl (Rw.put_c o ho n t H9 v_b v_n h) (by simp [b0u,j0U,v9,c7])
theorem z0R (o:Row) (ho:(ls o).length < 1000000) (n:BL) (t:Int) (h:H):W K 239 [.agg [sl 2 l7 o],.one (.str n),.one (ii t)] h = some (.ret (.agg (J8 (g0p o n t))) h) :=
 q0N rfl (Rw.drop_c o ho n t h) (by simp [b0u,j0U])
theorem q0P (o:Row) (ho:(ls o).length < 1000000) (n:BL) (h:H):W K 240 [.agg [sl 2 l7 o],.one (.str n)] h = some (.ret (.agg (J8 (c0c o n))) h) :=
 q0N rfl (Rw.dropCol_c o ho n h) (by simp [b0u,j0U])
theorem k0f (o:Option BL) (ho:(ls o).length <= 1099511627776) (h:H):W K 102 [.one (bs o)] h = some (.ret (.one (bs o)) h):=(g0v o ho).pure hp h
theorem o0O (H9:Int) (v_b:Option BL) (v_n:Nat) (hb:H9 = 1->(ls v_b).length <= 1099511627776) (h:H):W K 206 [.agg [ii H9,bs v_b,.flt v_n]] h = some (.ret (.agg (a0t (M9 ⟨H9,v_b,v_n⟩))) h):=by
 by_cases h1:H9 = 1
 ·have hc:=k0f v_b (hb h1)
  subst h1
  refine zzP func206 rfl ?_
  simp only [f206]
  intro Yb Q1 Y1
  repeat' (first
   | (replace Y1:=Y1;simp [hc])
   | (refine Y1 _ _ _ ?_;clear Y1 Q1;first | simp only [] | simp [M9,a0t,A7,A0,z9,A5,c7,u9,Yb]))
  all_goals first | done | (simp_all [-List.isEmpty_iff,-List.isEmpty_eq_false_iff,<- List.isEmpty_iff];done) | (simp_all;first | done | omega) | (simp;omega) | (intros;first | omega | (simp only [oqj] at *;omega) | (simp at *;omega))
 ·by_cases h2:H9 = 2
  ·subst h2
   refine zzP func206 rfl ?_
   simp only [f206]
   intro Yb Q2 Y2
   repeat' (first
    | (replace Y2:=Y2;simp [g0e])
    | (refine Y2 _ _ _ ?_;clear Y2 Q2;first | simp only [] | simp [M9,a0t,C9,A7,A0,z9,c7,u9,Yb]))
   all_goals first | done | (simp_all [-List.isEmpty_iff,-List.isEmpty_eq_false_iff,<- List.isEmpty_iff];done) | (simp_all;first | done | omega) | (simp;omega) | (intros;first | omega | (simp only [oqj] at *;omega) | (simp at *;omega))
  ·have e1:M9 ⟨H9,v_b,v_n⟩ = ⟨0,none,0⟩:=by simp [M9,h1,h2]
   have b1:(H9 == 1) = false:=by simp [h1]
   have b2:(H9 == 2) = false:=by simp [h2]
   rw [e1]
   refine zzP func206 rfl ?_
   simp only [f206]
   intro Yb Q3 Y3
   repeat' (first
    | (replace Y3:=Y3;simp [b1,b2])
    | (refine Y3 _ _ _ ?_;clear Y3 Q3;first | simp only [] | simp [a0t,C9,A7,A0,z9,c7,u9,Yb]))
   all_goals first | done | (simp_all [-List.isEmpty_iff,-List.isEmpty_eq_false_iff,<- List.isEmpty_iff];done) | (simp_all;first | done | omega) | (simp;omega) | (intros;first | omega | (simp only [oqj] at *;omega) | (simp at *;omega))
theorem I0j (o:Row) (ho:(ls o).length < 1000000) (n:BL) (t:Int) (h:H):W K 236 [.agg [sl 2 l7 o],.one (.str n),.one (ii t)] h = some (.ret (.tup [(true,a0t (i0j o n t).1),(false,[.bool (i0j o n t).2])]) h):=by
 have hcp:=g0r o ho
 have hrB:=P6 o
 have hf:=A0c (rowCopy o) n hrB
 obtain ⟨res,hres⟩:∃ res,i0j o n t = res:=⟨_,rfl⟩
 rw [hres]
 unfold i0j at hres
 dsimp only at hres
 have hallO:(ls (rowCopy o)).all a0H = true:=by simp only [V5,oqd] at hrB;exact hrB.1.1
 simp only [J8] at hcp
 generalize rowCopy o = O at *
 cases hTb:a0f (ls O) n with
 | false =>
  rw [hTb] at hres hf
  rw [if_pos rfl] at hres
  subst hres
  refine zzP func236 rfl ?_
  simp only [f236]
  intro Yb Q4 Y4
  repeat' (first
   | (replace Y4:=Y4;simp [hcp,hf,zV,a0t,C9,A7,A0,z9,L9,c7,u9,Yb])
   | refine Y4 _ _ _ ?_)
 | true =>
  rw [hTb] at hres hf
  rw [if_neg (by simp)] at hres
  obtain ⟨hI3,hn3⟩:=Rw.at_inv hTb
  generalize hI:S9 (ls O) n = I at *
  rw [List.getElem?_eq_getElem hI3] at hres
  simp only [oqS] at hres
  obtain ⟨l,rfl⟩:∃ l,O = some l:=by cases O with | none=>simp at hI3 | some l=>exact ⟨l,rfl⟩
  simp only [K6] at *
  have hix:=N6 (P:=prog) (enc:=l7) (s:=2) (l:=l) (i:=I) underlying79 (by simp) (by omega) hI3
  obtain ⟨hcl2,_,_⟩:=Rw.colB_inv (oqn.1 hallO _ (List.getElem_mem hI3))
  have hsub:sub (cat l7 l) (I * 2 + 1) 1 = some [sl 4 i9 l[I].l]:=by rw [C0X a0d l hI3 (by omega)];rfl
  have hcl3:(ls l[I].l).length <= 2:=hcl2
  clear hcl2
  generalize l[I].l = vl at *
  refine zzP func236 rfl ?_
  simp only [f236]
  intro Yb Q5 Y5
  repeat' (first
   | (replace Y5:=Y5;simp [hcp,hf,hix,hsub])
   | refine Y5 _ _ _ ?_)
  refine I8 hp (ls vl) (fun a r fr hh=>(2 <= hh.next/\hh.f 1 = some ⟨0,[3],true,a0t zV⟩/\(ls vl).find? (fun x=>decide (x.time <= t)) = r.find? (fun x=>decide (x.time <= t)))/\∃ j:Nat->AV,fr = (j 0::j 1::(.one (ii t))::j 3::j 4::j 5::(.one (.ptr 1 0 0))::j 7::j 8::j 9::j 10::j 11::j 12::j 13::j 14::j 15::j 16::j 17::j 18::j 19::j 20::j 21::j 22::j 23::j 24::j 25::j 26::j 27::j 28::(.one (sl 4 i9 vl))::(.one (ii (ls vl).length))::(.one (ii a.length))::j 32::j 33::j 34::j 35::j 36::j 37::j 38::j 39::j 40::j 41::j 42::[])) ?_ ?_ _ _ ⟨⟨by simp,by simp [a0t,zV,C9],rfl⟩,y0 (by simp)⟩
  ·rintro a x r fr hh hl ⟨⟨i1,i2,i3⟩,j,rfl⟩
   obtain rfl:=a0R hl
   have hi:=N6 (P:=prog) (enc:=i9) (s:=4) (l:=a++x::r) (i:=a.length) underlying89 (by simp) (by omega) (by simp)
   have hr:=O9 (enc:=i9) (s:=4) J0 a x r (o:=0) (n:=4) (by omega)
   rw [L4 (J0 x),Nat.add_zero] at hr
   have hlt2:a.length < (a++x::r).length:=by simp
   have hw:IntKind.i64.wrap ((a.length:Int) + 1) = ((a++[x]).length:Int):=by rw [S4];exact J1 (by simp at hcl3;omega)
   have hne:¬ 1 = hh.next:=by omega
   obtain ⟨xt,⟨xk,xb,xn⟩⟩:=x
   simp only [i9,a0t,zV,C9] at hr i2
   by_cases hc:xt <= t
   ·have hfx:l0v ((ls (some (a++⟨xt,⟨xk,xb,xn⟩⟩::r))).find? (fun x=>decide (x.time <= t))) = ((⟨xk,xb,xn⟩:Wm.Value),true):=by rw [i3];simp [hc,l0v]
    rw [hfx] at hres
    subst hres
    generalize (a++(⟨xt,⟨xk,xb,xn⟩⟩:Version)::r) = L at *
    first | (refine s9 ?_;intro Q6 Y6) | have Y6:=oqk
    repeat' (first
     | (replace Y6:=Y6;simp [i2,hi,hr,hlt2,hne,hc])
     | (refine Y6 _ _ _ ?_;clear Y6 Q6;first | simp only [] | skip)
     | (refine F6 (by assumption) ?_;(try clear Y6);first | simp only [] | skip)
     | ((fail_if_success replace Y6:=Y6);(first | refine s9 ?_ | refine A1 ?_ | refine A4 ?_);intro Q6 Y6))
    all_goals (simp [a0t,A7,A0,z9,A5,L9,c7,u9,Yb])
   ·have hi4:(r).find? (fun x=>decide (x.time <= t)) = (ls (some (a++⟨xt,⟨xk,xb,xn⟩⟩::r))).find? (fun x=>decide (x.time <= t)):=by rw [i3];simp [hc]
    generalize (a++(⟨xt,⟨xk,xb,xn⟩⟩:Version)::r) = L at *
    generalize (a++[(⟨xt,⟨xk,xb,xn⟩⟩:Version)]) = A2 at *
    first | (refine s9 ?_;intro Q7 Y7) | have Y7:=oqk
    repeat' (first
     | (replace Y7:=Y7;simp [hi,hr,hlt2,hc,hw])
     | (refine Y7 _ _ _ ?_;clear Y7 Q7;first | simp only [] | skip)
     | (refine F6 (by assumption) ?_;(try clear Y7);first | simp only [] | skip)
     | ((fail_if_success replace Y7:=Y7);(first | refine s9 ?_ | refine A1 ?_ | refine A4 ?_);intro Q7 Y7))
    all_goals first | (refine ⟨⟨by simp;omega,by simp [hne,i2,a0t,zV,C9],hi4.symm⟩,y0 (by simp)⟩) | trace_state
  ·rintro fr hh ⟨⟨i1,i2,i3⟩,j,rfl⟩
   rw [i3] at hres
   simp only [List.find?_nil,l0v] at hres
   subst hres
   simp only [a0t,zV,C9] at i2
   first | (refine s9 ?_;intro Q8 Y8) | have Y8:=oqk
   repeat' (first
    | (replace Y8:=Y8;simp [i2])
    | (refine Y8 _ _ _ ?_;clear Y8 Q8;first | simp only [] | skip)
    | (refine F6 (by assumption) ?_;(try clear Y8);first | simp only [] | skip)
    | ((fail_if_success replace Y8:=Y8);(first | refine s9 ?_ | refine A1 ?_ | refine A4 ?_);intro Q8 Y8))
   all_goals (simp [a0t,zV,C9,A7,A0,z9,L9,c7,u9,Yb])
theorem p0U (o:Row) (ho:(ls o).length < 1000000) (n:BL) (h:H):W K 207 [.agg [sl 2 l7 o],.one (.str n)] h = some (.ret (.tup [(true,a0t (Z0 o n).1),(false,[.bool (Z0 o n).2])]) h):=by
 have hx:=I0j o ho n 1099511627776
 unfold Z0
 generalize i0j o n 1099511627776 = w at *
 obtain ⟨⟨k,b,x⟩,q⟩:=w
 simp only [a0t] at *
 refine zzP func207 rfl ?_
 simp only [f207]
 intro Yb Q1 Y1
 repeat' (first
  | (replace Y1:=Y1;simp [hx,A7,A0,z9,A5,L9,c7,u9,Yb])
  | refine Y1 _ _ _ ?_)
theorem w0w (h:H):W K 235 [.one .nan] h = some (.ret (.one (.flt 9221120237041090561)) h):=by
 have hn:∀ h,W K 253 [.one .nan] h = some (.ret (.one (.bool true)) h):=by
  intro h
  refine zzP func253 rfl ?_
  simp only [f253]
  intro Yb Q2 Y2
  repeat' (first
   | (replace Y2:=Y2;simp [A7,A0,z9,c7,u9,Yb])
   | refine Y2 _ _ _ ?_)
 refine zzP func235 rfl ?_
 simp only [f235]
 intro Yb Q3 Y3
 repeat' (first
  | (replace Y3:=Y3;simp [hn,b0W,A7,A0,z9,c7,u9,Yb])
  | refine Y3 _ _ _ ?_)
theorem G0a (a b:Nat) (h:H):W K 263 [.one (.flt a),.one (.flt b)] h = some (.ret (.one (.flt (m0d a b))) h):=by
 unfold m0d
 cases hs:(FloatKind.format .f64).add a b with
 | none =>
  have hs2:Ieee.double.add a b = none:=hs
  refine zzP func263 rfl ?_
  simp only [f263]
  intro Yb Q4 Y4
  repeat' (first
   | (replace Y4:=Y4;simp [b0Q,m0b,hs2,w0w,A7,A0,z9,c7,u9,Yb])
   | refine Y4 _ _ _ ?_)
 | some r =>
  have hc:=g0e r
  have hs2:Ieee.double.add a b = some r:=hs
  refine zzP func263 rfl ?_
  simp only [f263]
  intro Yb Q5 Y5
  repeat' (first
   | (replace Y5:=Y5;simp [b0Q,m0b,hs2,hc,A7,A0,z9,c7,u9,Yb])
   | refine Y5 _ _ _ ?_)
theorem v0n (a0k:Int) (a_b:Option BL) (a_n:Nat) (b_kind:Int) (b_b:Option BL) (b_n:Nat) (h:H):W K 241 [.agg [ii a0k,bs a_b,.flt a_n],.agg [ii b_kind,bs b_b,.flt b_n]] h = some (.ret (.tup [(true,a0t (a0h ⟨a0k,a_b,a_n⟩ ⟨b_kind,b_b,b_n⟩).1),(false,[ii (a0h ⟨a0k,a_b,a_n⟩ ⟨b_kind,b_b,b_n⟩).2])]) h):=by
 have hs:=G0a a_n b_n
 by_cases h1:a0k = 2
 ·by_cases h2:b_kind = 2
  ·have e:a0h ⟨a0k,a_b,a_n⟩ ⟨b_kind,b_b,b_n⟩ = (⟨2,none,m0d a_n b_n⟩,0):=by simp [a0h,h1,h2]
   rw [e];subst h1 h2
   refine zzP func241 rfl ?_
   simp only [f241]
   intro Yb Q6 Y6
   repeat' (first
    | (replace Y6:=Y6;simp [hs,a0t,C9,A7,A0,z9,L9,c7,u9,Yb])
    | refine Y6 _ _ _ ?_)
  ·have e:a0h ⟨a0k,a_b,a_n⟩ ⟨b_kind,b_b,b_n⟩ = (zV,24):=by simp [a0h,h2]
   have b2:(b_kind == 2) = false:=by simp [h2]
   have b3:(b_kind != 2) = true:=by simp [h2]
   rw [e];subst h1
   refine zzP func241 rfl ?_
   simp only [f241]
   intro Yb Q7 Y7
   repeat' (first
    | (replace Y7:=Y7;simp [b3,a0t,zV,C9,A7,A0,z9,L9,c7,u9,Yb])
    | refine Y7 _ _ _ ?_)
 ·have e:a0h ⟨a0k,a_b,a_n⟩ ⟨b_kind,b_b,b_n⟩ = (zV,24):=by simp [a0h,h1]
  have b2:(a0k == 2) = false:=by simp [h1]
  have b3:(a0k != 2) = true:=by simp [h1]
  rw [e]
  refine zzP func241 rfl ?_
  simp only [f241]
  intro Yb Q8 Y8
  repeat' (first
   | (replace Y8:=Y8;simp [b3,a0t,zV,C9,A7,A0,z9,L9,c7,u9,Yb])
   | refine Y8 _ _ _ ?_)
theorem A0L (x:Nat) (h:H):W K 269 [.one (.flt x)] h = some (.ret (.one (.int .u64 (o0Z x))) h):=by
 have hb:=g0s x
 unfold o0Z
 by_cases h1:q0n .u64 (a0n x) 9223372036854775808 = 0
 ·have b1:(q0n .u64 (a0n x) 9223372036854775808 != 0) = false:=by simp [h1]
  rw [if_pos h1]
  refine zzP func269 rfl ?_
  simp only [f269]
  intro Yb Q9 Y9
  repeat' (first
   | (replace Y9:=Y9;simp [hb,h1,A7,A0,z9,c7,u9,Yb])
   | refine Y9 _ _ _ ?_)
 ·have b1:(q0n .u64 (a0n x) 9223372036854775808 != 0) = true:=by simp [h1]
  rw [if_neg h1]
  refine zzP func269 rfl ?_
  simp only [f269]
  intro Yb Q10 Y10
  repeat' (first
   | (replace Y10:=Y10;simp [hb,b1,A7,A0,z9,c7,u9,Yb])
   | refine Y10 _ _ _ ?_)
theorem C0K (a b:Nat) (h:H):W K 256 [.one (.flt a),.one (.flt b)] h = some (.ret (.one (ii (B0F a b))) h):=by
 have h1:=A0L a
 have h2:=A0L b
 unfold B0F
 generalize o0Z a = x at *
 generalize o0Z b = y at *
 by_cases c1:x < y
 ·have d1:decide (x < y) = true:=by simp [c1]
  rw [if_pos c1]
  refine zzP func256 rfl ?_
  simp only [f256]
  intro Yb Q11 Y11
  repeat' (first
   | (replace Y11:=Y11;simp [h1,h2,c1,A7,A0,z9,c7,u9,Yb])
   | refine Y11 _ _ _ ?_)
 ·have d1:decide (x < y) = false:=by simp [c1]
  rw [if_neg c1]
  by_cases c2:y < x
  ·have d2:decide (y < x) = true:=by simp [c2]
   rw [if_pos c2]
   refine zzP func256 rfl ?_
   simp only [f256]
   intro Yb Q12 Y12
   repeat' (first
    | (replace Y12:=Y12;simp [h1,h2,c1,c2,A7,A0,z9,c7,u9,Yb])
    | refine Y12 _ _ _ ?_)
  ·have d2:decide (y < x) = false:=by simp [c2]
   rw [if_neg c2]
   refine zzP func256 rfl ?_
   simp only [f256]
   intro Yb Q13 Y13
   repeat' (first
    | (replace Y13:=Y13;simp [h1,h2,c1,c2,A7,A0,z9,c7,u9,Yb])
    | refine Y13 _ _ _ ?_)
theorem v0b (a b:Int) (h:H):W K 163 [.one (ii a),.one (ii b)] h = some (.ret (.one (ii (j0x a b))) h):=by
 have hn:∀ a h,W K 203 [.one (ii a)] h = some (.ret (.one (.bool false)) h):=by
  intro a h
  have he:(a != a) = false:=by simp
  refine zzP func203 rfl ?_
  simp only [f203]
  intro Yb Q14 Y14
  repeat' (first
   | (replace Y14:=Y14;simp [he])
   | (refine Y14 _ _ _ ?_;clear Y14 Q14;first | simp only [] | simp [A7,A0,z9,c7,u9,Yb]))
  all_goals first | done | (simp_all [-List.isEmpty_iff,-List.isEmpty_eq_false_iff,<- List.isEmpty_iff];done) | (simp_all;first | done | omega) | (simp;omega) | (intros;first | omega | (simp only [oqj] at *;omega) | (simp at *;omega))
 unfold j0x
 by_cases c1:a < b
 ·have d1:decide (a < b) = true:=by simp [c1]
  rw [if_pos c1]
  refine zzP func163 rfl ?_
  simp only [f163]
  intro Yb Q15 Y15
  repeat' (first
   | (replace Y15:=Y15;simp [hn,c1,A7,A0,z9,c7,u9,Yb])
   | refine Y15 _ _ _ ?_)
 ·have d1:decide (a < b) = false:=by simp [c1]
  rw [if_neg c1]
  by_cases c2:b < a
  ·have d2:decide (b < a) = true:=by simp [c2]
   rw [if_pos c2]
   refine zzP func163 rfl ?_
   simp only [f163]
   intro Yb Q16 Y16
   repeat' (first
    | (replace Y16:=Y16;simp [hn,c1,c2,A7,A0,z9,c7,u9,Yb])
    | refine Y16 _ _ _ ?_)
  ·have d2:decide (b < a) = false:=by simp [c2]
   rw [if_neg c2]
   refine zzP func163 rfl ?_
   simp only [f163]
   intro Yb Q17 Y17
   repeat' (first
    | (replace Y17:=Y17;simp [hn,c1,c2,A7,A0,z9,c7,u9,Yb])
    | refine Y17 _ _ _ ?_)
theorem g0b (l:BL):bytesOf (l.map F7) = some l:=by
 induction l with
 | nil=>rfl
 | cons a l ih =>
  have h1:(0:Int) <= (a.toNat:Int)/\(a.toNat:Int) < 256:=⟨by omega,by have:=a.toNat_lt;omega⟩
  simp only [List.map_cons,F7,bytesOf] at ih |-
  rw [if_pos h1]
  simp only [ih,oqE,oqS,Int.toNat_natCast,UInt8.ofNat_toNat]
theorem C0G (x y:Option BL) (h:H):W K 255 [.one (bs x),.one (bs y)] h = some (.ret (.one (ii (a0j (ls x) (ls y)))) h):=by
 have e:∀ h,W K 268 [.one (bs x),.one (bs y)] h = some (.ret (.one (ii (a0j (ls x) (ls y)))) h):=by
  intro h
  rw [p0p hp rfl rfl]
  have hl:∀ o:Option BL,U9 (bs o) = some (ls o).length:=fun o=>s0z 1 _ o
  simp only [u0q,hl,p0m,g0b,oqE,oqS]
 refine zzP func255 rfl ?_
 simp only [f255]
 intro Yb Q18 Y18
 repeat' (first
  | (replace Y18:=Y18;simp [e,A7,A0,z9,c7,u9,Yb])
  | refine Y18 _ _ _ ?_)
theorem D0g (a0k:Int) (a_b:Option BL) (a_n:Nat) (b_kind:Int) (b_b:Option BL) (b_n:Nat) (ha:a0k = 1->(ls a_b).length <= 1099511627776) (hb:b_kind = 1->(ls b_b).length <= 1099511627776) (h:H):W K 237 [.agg [ii a0k,bs a_b,.flt a_n],.agg [ii b_kind,bs b_b,.flt b_n]] h = some (.ret (.one (ii (x0U ⟨a0k,a_b,a_n⟩ ⟨b_kind,b_b,b_n⟩))) h):=by
 have h1:=o0O a0k a_b a_n ha
 have h2:=o0O b_kind b_b b_n hb
 unfold x0U
 dsimp only
 generalize M9 ⟨a0k,a_b,a_n⟩ = x at *
 generalize M9 ⟨b_kind,b_b,b_n⟩ = y at *
 obtain ⟨xk,xb,xn⟩:=x
 obtain ⟨yk,yb,yn⟩:=y
 simp only [a0t] at h1 h2
 have hbc:=C0G xb yb
 have hfc:=C0K xn yn
 have hic:=v0b xk yk
 by_cases c1:xk = yk
 ·subst c1
  rw [if_neg (by simp)]
  have d1:(xk != xk) = false:=by simp
  by_cases c2:xk = 1
  ·subst c2
   rw [if_pos rfl]
   refine zzP func237 rfl ?_
   simp only [f237]
   intro Yb Q19 Y19
   repeat' (first
    | (replace Y19:=Y19;simp [h1,h2,hbc,A7,A0,z9,c7,u9,Yb])
    | refine Y19 _ _ _ ?_
    | refine dF (id:=1) zl6 [(1,2)] ?_)
  ·have d2:(xk == 1) = false:=by simp [c2]
   rw [if_neg c2]
   by_cases c3:xk = 2
   ·subst c3
    rw [if_pos rfl]
    refine zzP func237 rfl ?_
    simp only [f237]
    intro Yb Q20 Y20
    repeat' (first
     | (replace Y20:=Y20;simp [h1,h2,d2,hfc,A7,A0,z9,c7,u9,Yb])
     | refine Y20 _ _ _ ?_
     | refine dF (id:=1) zl6 [(1,2)] ?_)
   ·have d3:(xk == 2) = false:=by simp [c3]
    rw [if_neg c3]
    refine zzP func237 rfl ?_
    simp only [f237]
    intro Yb Q21 Y21
    repeat' (first
     | (replace Y21:=Y21;simp [h1,h2,d2,d3,A7,A0,z9,c7,u9,Yb])
     | refine Y21 _ _ _ ?_
     | refine dF (id:=1) zl6 [(1,2)] ?_)
 ·have d1:(xk != yk) = true:=by simp [c1]
  rw [if_pos c1]
  refine zzP func237 rfl ?_
  simp only [f237]
  intro Yb Q22 Y22
  repeat' (first
   | (replace Y22:=Y22;simp [h1,h2,d1,hic,A7,A0,z9,c7,u9,Yb])
   | refine Y22 _ _ _ ?_
   | refine dF (id:=1) zl6 [(1,2)] ?_)
theorem B0P (a0k:Int) (a_b:Option BL) (a_n:Nat) (b_kind:Int) (b_b:Option BL) (b_n:Nat) (ha:a0k = 1->(ls a_b).length <= 1099511627776) (hb:b_kind = 1->(ls b_b).length <= 1099511627776) (h:H):W K 208 [.agg [ii a0k,bs a_b,.flt a_n],.agg [ii b_kind,bs b_b,.flt b_n]] h = some (.ret (.one (.bool (x0U ⟨a0k,a_b,a_n⟩ ⟨b_kind,b_b,b_n⟩ == 0))) h):=by
 have h1:=D0g a0k a_b a_n b_kind b_b b_n ha hb
 refine zzP func208 rfl ?_
 simp only [f208]
 intro Yb Q23 Y23
 repeat' (first
  | (replace Y23:=Y23;simp [h1,A7,A0,z9,c7,u9,Yb])
  | refine Y23 _ _ _ ?_)
theorem y0T (o:Row) (ho:(ls o).length < 1000000) (n0m:Bool) (i0K:Bool) (a0F:BL) (P9:Int) (b0c:Option BL) (b0w:Nat) (hb:P9 = 1->(ls b0c).length <= 1099511627776) (hok:(Z0 o a0F).1.kind = 1->(ls (Z0 o a0F).1.b).length <= 1099511627776) (h:H):W K 167 [.agg [sl 2 l7 o],.agg [.bool n0m,.bool i0K,.str a0F,ii P9,bs b0c,.flt b0w]] h = some (.ret (.one (.bool (holds o ⟨n0m,i0K,a0F,⟨P9,b0c,b0w⟩⟩))) h):=by
 have hn:=p0U o ho a0F
 unfold holds
 generalize Z0 o a0F = w at *
 obtain ⟨⟨k,b,x⟩,q⟩:=w
 have hs:=B0P k b x P9 b0c b0w hok hb
 simp only [a0t] at hn
 generalize x0U ⟨k,b,x⟩ ⟨P9,b0c,b0w⟩ = R at *
 cases n0m
 ·refine zzP func167 rfl ?_
  simp only [f167]
  intro Yb Q24 Y24
  repeat' (first
   | (replace Y24:=Y24;simp [A7,A0,z9,c7,u9,Yb])
   | refine Y24 _ _ _ ?_)
 ·cases i0K
  ·cases q
   ·refine zzP func167 rfl ?_
    simp only [f167]
    intro Yb Q25 Y25
    repeat' (first
     | (replace Y25:=Y25;simp [hn,A7,A0,z9,c7,u9,Yb])
     | refine Y25 _ _ _ ?_)
   ·refine zzP func167 rfl ?_
    simp only [f167]
    intro Yb Q26 Y26
    repeat' (first
     | (replace Y26:=Y26;simp [hn,A7,A0,z9,c7,u9,Yb])
     | refine Y26 _ _ _ ?_)
  ·cases q
   ·refine zzP func167 rfl ?_
    simp only [f167]
    intro Yb Q27 Y27
    repeat' (first
     | (replace Y27:=Y27;simp [hn,A7,A0,z9,c7,u9,Yb])
     | refine Y27 _ _ _ ?_)
   ·refine zzP func167 rfl ?_
    simp only [f167]
    intro Yb Q28 Y28
    repeat' (first
     | (replace Y28:=Y28;simp [hn,hs,A7,A0,z9,c7,u9,Yb])
     | refine Y28 _ _ _ ?_)
theorem G0N (o:Row) (ho:(ls o).length < 1000000) (B7:Int) (a0F:BL) (c0L:Int) (P9:Int) (b0c:Option BL) (b0w:Nat) (h:H):W K 209 [.agg [sl 2 l7 o],.agg [ii B7,.str a0F,ii c0L,ii P9,bs b0c,.flt b0w]] h = some (.ret (.tup [(true,J8 (b0m o ⟨B7,a0F,c0L,⟨P9,b0c,b0w⟩⟩).1),(false,[ii (b0m o ⟨B7,a0F,c0L,⟨P9,b0c,b0w⟩⟩).2])]) h):=by
 have h1:=q0z o ho a0F c0L P9 b0c b0w
 have h2:=z0R o ho a0F c0L
 have h3:=q0P o ho a0F
 unfold b0m
 simp only [J8] at *
 by_cases c1:B7 = 1
 ·subst c1
  simp only [if_true]
  refine zzP func209 rfl ?_
  simp only [f209]
  intro Yb Q29 Y29
  repeat' (first
   | (replace Y29:=Y29;simp [h1,A7,A0,z9,A5,L9,c7,u9,Yb])
   | refine Y29 _ _ _ ?_)
 ·have d1:(B7 == 1) = false:=by simp [c1]
  simp only [if_neg c1]
  by_cases c2:B7 = 2
  ·subst c2
   simp only [if_true]
   refine zzP func209 rfl ?_
   simp only [f209]
   intro Yb Q30 Y30
   repeat' (first
    | (replace Y30:=Y30;simp [d1,h2,A7,A0,z9,A5,L9,c7,u9,Yb])
    | refine Y30 _ _ _ ?_)
  ·have d2:(B7 == 2) = false:=by simp [c2]
   simp only [if_neg c2]
   by_cases c3:B7 = 3
   ·subst c3
    simp only [if_true]
    refine zzP func209 rfl ?_
    simp only [f209]
    intro Yb Q31 Y31
    repeat' (first
     | (replace Y31:=Y31;simp [d1,d2,h3,A7,A0,z9,A5,L9,c7,u9,Yb])
     | refine Y31 _ _ _ ?_)
   ·have d3:(B7 == 3) = false:=by simp [c3]
    simp only [if_neg c3]
    by_cases c4:B7 = 4
    ·subst c4
     simp only [if_true]
     have hsn:sl 2 l7 none = .nilslc:=rfl
     refine zzP func209 rfl ?_
     simp only [f209]
     intro Yb Q32 Y32
     repeat' (first
      | (replace Y32:=Y32;simp [d1,d2,d3,hsn,A7,A0,z9,L9,c7,u9,Yb])
      | refine Y32 _ _ _ ?_)
    ·have d4:(B7 == 4) = false:=by simp [c4]
     simp only [if_neg c4]
     have hn:=p0U o ho a0F
     generalize Z0 o a0F = w at *
     obtain ⟨⟨k,b,x⟩,q⟩:=w
     simp only [a0t] at hn
     have hsn:sl 2 l7 none = .nilslc:=rfl
     cases q with
     | false =>
      simp only [oqF,if_false]
      have hp1:=v0n 2 none 9223372036854775808 P9 b0c b0w
      simp only [C9] at hp1
      generalize a0h ⟨2,none,9223372036854775808⟩ ⟨P9,b0c,b0w⟩ = w2 at *
      obtain ⟨⟨k2,b2,x2⟩,q2⟩:=w2
      simp only [a0t] at hp1
      have h4:=q0z o ho a0F c0L k2 b2 x2
      simp only [J8] at h4
      by_cases hq:q2 = 0
      ·subst hq
       simp only [if_true]
       refine zzP func209 rfl ?_
       simp only [f209]
       intro Yb Q33 Y33
       repeat' (first
        | (replace Y33:=Y33;simp [d1,d2,d3,d4,hn,A0J,hp1,h4,A7,A0,z9,A5,L9,c7,u9,Yb])
        | refine Y33 _ _ _ ?_)
      ·have hqb:(q2 != 0) = true:=by simp [hq]
       simp only [if_neg hq]
       refine zzP func209 rfl ?_
       simp only [f209]
       intro Yb Q34 Y34
       repeat' (first
        | (replace Y34:=Y34;simp [d1,d2,d3,d4,hn,A0J,hp1,hqb,hsn,A7,A0,z9,L9,c7,u9,Yb])
        | refine Y34 _ _ _ ?_)
     | true =>
      simp only [if_true]
      have hp1:=v0n k b x P9 b0c b0w
      generalize a0h ⟨k,b,x⟩ ⟨P9,b0c,b0w⟩ = w2 at *
      obtain ⟨⟨k2,b2,x2⟩,q2⟩:=w2
      simp only [a0t] at hp1
      have h4:=q0z o ho a0F c0L k2 b2 x2
      simp only [J8] at h4
      by_cases hq:q2 = 0
      ·subst hq
       simp only [if_true]
       refine zzP func209 rfl ?_
       simp only [f209]
       intro Yb Q35 Y35
       repeat' (first
        | (replace Y35:=Y35;simp [d1,d2,d3,d4,hn,hp1,h4,A7,A0,z9,A5,L9,c7,u9,Yb])
        | refine Y35 _ _ _ ?_)
      ·have hqb:(q2 != 0) = true:=by simp [hq]
       simp only [if_neg hq]
       refine zzP func209 rfl ?_
       simp only [f209]
       intro Yb Q36 Y36
       repeat' (first
        | (replace Y36:=Y36;simp [d1,d2,d3,d4,hn,hp1,hqb,hsn,A7,A0,z9,L9,c7,u9,Yb])
        | refine Y36 _ _ _ ?_)
theorem c0S {o:Row} (h:V5 o = true):(ls o).length <= 4:=by simp only [V5,oqd,oqj] at h;exact h.2
theorem g0S (o:Row) (n:BL) (t:Int) (v:Wm.Value):rowCopy (a0i o n t v).1 = (a0i o n t v).1:=by
 unfold a0i
 split
 ·rfl
 ·dsimp only
  split
  ·rfl
  ·exact a0s _
theorem v0M (o:Row) (c:Change) (h:rowCopy o = o):rowCopy (b0m o c).1 = (b0m o c).1:=by
 unfold b0m
 split
 ·exact g0S _ _ _ _
 ·split
  ·unfold g0p
   dsimp only
   split
   ·exact a0s _
   ·split <;> exact a0s _
  ·split
   ·unfold c0c
    dsimp only
    split <;> exact a0s _
   ·split
    ·rfl
    ·dsimp only
     generalize a0h _ _ = p
     by_cases hp:p.2 = 0
     ·rw [if_pos hp];exact g0S _ _ _ _
     ·rw [if_neg hp];rfl
theorem w0r:∀ (l:List Change) (o:Row),rowCopy o = o->rowCopy (b0p o l).1 = (b0p o l).1
 | [],o,h=>h
 | c::l,o,h=>by
  unfold b0p
  dsimp only
  split
  ·exact w0r l _ (v0M o c h)
  ·rfl
theorem v0s (o:Row) (l:List Change):rowCopy (apply o l).1 = (apply o l).1:=by
 unfold apply
 split
 ·rfl
 ·cases l.find? (fun c=>K5 c != 0) with
  | some c=>rfl
  | none=>exact w0r l _ (a0s o)
theorem A0e (o:Row) (ho:(ls o).length < 1000000) (L:Option (List Change)) (h:H):W K 168 [.agg [sl 2 l7 o],.one (sl 6 l8 L)] h = some (.ret (.tup [(true,J8 (apply o (ls L)).1),(false,[ii (apply o (ls L)).2])]) h):=by
 have hcp:=g0r o ho
 obtain ⟨res,hres⟩:∃ res,apply o (ls L) = res:=⟨_,rfl⟩
 rw [hres]
 unfold apply at hres
 simp only [J8] at hcp |-
 have hsn:sl 2 l7 none = .nilslc:=rfl
 by_cases h8:8 < (ls L).length
 ·have d8:decide ((8:Int) < (ls L).length) = true:=by simp;omega
  rw [if_pos h8] at hres
  subst hres
  refine zzP func168 rfl ?_
  simp only [f168]
  intro Yb Q37 Y37
  repeat' (first
   | (replace Y37:=Y37;simp [h8,hsn,A7,A0,z9,L9,c7,u9,Yb])
   | refine Y37 _ _ _ ?_)
 ·rw [if_neg h8] at hres
  have hRb:=a0s o
  have hRl:(ls (rowCopy o)).length <= 4:=c0S (P6 o)
  refine zzP func168 rfl ?_
  simp only [f168]
  intro Yb Q38 Y38
  repeat' (first
   | (replace Y38:=Y38;simp [h8])
   | refine Y38 _ _ _ ?_)
  refine I8 hp (ls L) (fun a r fr hh=>(2 <= hh.next/\hh.f 0 = some ⟨0,[1],true,[sl 2 l7 o]⟩/\hh.f 1 = some ⟨0,[1],true,[.nilslc]⟩/\(ls L).find? (fun c=>K5 c != 0) = r.find? (fun c=>K5 c != 0))/\∃ j:Nat->AV,fr = (j 0::(.one (sl 6 l8 L))::(.one (.ptr 0 0 0))::j 3::(.one (.ptr 1 0 0))::j 5::j 6::j 7::j 8::j 9::j 10::j 11::j 12::j 13::j 14::j 15::j 16::(.one (sl 6 l8 L))::(.one (ii (ls L).length))::(.one (ii a.length))::j 20::j 21::j 22::j 23::j 24::j 25::j 26::j 27::j 28::j 29::j 30::j 31::j 32::j 33::j 34::j 35::j 36::j 37::j 38::j 39::j 40::j 41::j 42::j 43::j 44::j 45::j 46::j 47::j 48::j 49::[])) ?_ ?_ _ _ ⟨⟨by simp,by simp,by simp,rfl⟩,y0 (by simp)⟩
  ·rintro a x r fr hh hl ⟨⟨i1,i0,i2,i3⟩,j,rfl⟩
   obtain rfl:=a0R hl
   have hi:=N6 (P:=prog) (enc:=l8) (s:=6) (l:=a++x::r) (i:=a.length) underlying33 (by simp) (by omega) (by simp)
   have hr:=O9 (enc:=l8) (s:=6) b0T a x r (o:=0) (n:=6) (by omega)
   rw [L4 (b0T x),Nat.add_zero] at hr
   have hlt2:a.length < (a++x::r).length:=by simp
   have hw:IntKind.i64.wrap ((a.length:Int) + 1) = ((a++[x]).length:Int):=by rw [S4];exact J1 (by simp at h8;omega)
   have hne:¬ 1 = hh.next:=by omega
   have hne0:¬ 0 = hh.next:=by omega
   obtain ⟨xk,xc,xt,⟨vk,vb,vn⟩⟩:=x
   have hcr:=g0F xk xc xt vk vb vn
   simp only [l8] at hr
   by_cases hc:K5 ⟨xk,xc,xt,⟨vk,vb,vn⟩⟩ = 0
   ·have hi4:(ls (some (a++⟨xk,xc,xt,⟨vk,vb,vn⟩⟩::r))).find? (fun c=>K5 c != 0) = r.find? (fun c=>K5 c != 0):=by rw [i3];simp [hc]
    have hcb:(K5 ⟨xk,xc,xt,⟨vk,vb,vn⟩⟩ != 0) = false:=by simp [hc]
    rw [hc] at hcr
    generalize (a++(⟨xk,xc,xt,⟨vk,vb,vn⟩⟩:Change)::r) = l at *
    generalize (a++[(⟨xk,xc,xt,⟨vk,vb,vn⟩⟩:Change)]) = A2 at *
    first | (refine s9 ?_;intro Q39 Y39) | have Y39:=oqk
    repeat' (first
     | (replace Y39:=Y39;simp [hi,hr,hlt2,hcr,hw])
     | (refine Y39 _ _ _ ?_;clear Y39 Q39;first | simp only [] | skip)
     | (refine F6 (by assumption) ?_;(try clear Y39);first | simp only [] | skip)
     | ((fail_if_success replace Y39:=Y39);(first | refine s9 ?_ | refine A1 ?_ | refine A4 ?_);intro Q39 Y39))
    all_goals first | (refine ⟨⟨by simp;omega,by simp [hne0,i0],by simp [hne,i2],hi4⟩,y0 (by simp)⟩) | trace_state
   ·have hfx:d0n o (ls (some (a++⟨xk,xc,xt,⟨vk,vb,vn⟩⟩::r))) ((ls (some (a++⟨xk,xc,xt,⟨vk,vb,vn⟩⟩::r))).find? (fun c=>K5 c != 0)) = (none,K5 ⟨xk,xc,xt,⟨vk,vb,vn⟩⟩):=by
     rw [i3];simp [hc,d0n]
    rw [hfx] at hres
    subst hres
    have hcb:(K5 ⟨xk,xc,xt,⟨vk,vb,vn⟩⟩ != 0) = true:=by simp [hc]
    generalize K5 ⟨xk,xc,xt,⟨vk,vb,vn⟩⟩ = why at *
    generalize (a++(⟨xk,xc,xt,⟨vk,vb,vn⟩⟩:Change)::r) = l at *
    first | (refine s9 ?_;intro Q40 Y40) | have Y40:=oqk
    repeat' (first
     | (replace Y40:=Y40;simp [i2,hi,hr,hlt2,hne,hcr,hcb])
     | (refine Y40 _ _ _ ?_;clear Y40 Q40;first | simp only [] | skip)
     | (refine F6 (by assumption) ?_;(try clear Y40);first | simp only [] | skip)
     | ((fail_if_success replace Y40:=Y40);(first | refine s9 ?_ | refine A1 ?_ | refine A4 ?_);intro Q40 Y40))
    all_goals (simp [hsn,A7,A0,z9,L9,c7,u9,Yb])
  ·rintro fr hh ⟨⟨i1,i0,i2,i3⟩,j,rfl⟩
   rw [i3] at hres
   simp only [List.find?_nil,d0n] at hres
   generalize hRR:rowCopy o = R0 at *
   have hne:¬ 1 = hh.next:=by omega
   first | (refine s9 ?_;intro Q41 Y41) | have Y41:=oqk
   repeat' (first
    | (replace Y41:=Y41;simp [i0,hcp])
    | (refine Y41 _ _ _ ?_;clear Y41 Q41;first | simp only [] | skip)
    | (refine F6 (by assumption) ?_;(try clear Y41);first | simp only [] | skip)
    | ((fail_if_success replace Y41:=Y41);(first | refine s9 ?_ | refine A1 ?_ | refine A4 ?_);intro Q41 Y41))
   refine I8 hp (ls L) (fun a r fr h2=>(hh.next < h2.next/\h2.f 1 = some ⟨0,[1],true,[.nilslc]⟩/\∃ R:Row,h2.f hh.next = some ⟨0,[1],true,[sl 2 l7 R]⟩/\rowCopy R = R/\b0p R r = res)/\∃ j:Nat->AV,fr = (j 0::j 1::j 2::j 3::(.one (.ptr 1 0 0))::j 5::j 6::j 7::j 8::(.one (.ptr hh.next 0 0))::j 10::j 11::j 12::j 13::j 14::j 15::j 16::j 17::j 18::j 19::j 20::j 21::j 22::j 23::j 24::j 25::j 26::j 27::j 28::j 29::j 30::j 31::(.one (sl 6 l8 L))::(.one (ii (ls L).length))::(.one (ii a.length))::j 35::j 36::j 37::j 38::j 39::j 40::j 41::j 42::j 43::j 44::j 45::j 46::j 47::j 48::j 49::[])) ?_ ?_ _ _ ⟨⟨by simp,by simp [hne,i2],R0,by simp,hRb,hres⟩,y0 (by simp)⟩
   ·rintro a x r fr h2 hl ⟨⟨k1,k2,R,k3,k4,k5⟩,j,rfl⟩
    obtain rfl:=a0R hl
    have hi:=N6 (P:=prog) (enc:=l8) (s:=6) (l:=a++x::r) (i:=a.length) underlying33 (by simp) (by omega) (by simp)
    have hr:=O9 (enc:=l8) (s:=6) b0T a x r (o:=0) (n:=6) (by omega)
    rw [L4 (b0T x),Nat.add_zero] at hr
    have hlt2:a.length < (a++x::r).length:=by simp
    have hw:IntKind.i64.wrap ((a.length:Int) + 1) = ((a++[x]).length:Int):=by rw [S4];exact J1 (by simp at h8;omega)
    have hne1:¬ 1 = h2.next:=by omega
    have hne2:¬ hh.next = h2.next:=by omega
    have hne3:¬ 1 = hh.next:=hne
    have hRl:(ls R).length < 1000000:=by rw [<- k4];have:=c0S (P6 R);omega
    obtain ⟨xk,xc,xt,⟨vk,vb,vn⟩⟩:=x
    have hone:=G0N R hRl xk xc xt vk vb vn
    have hok1:=v0M R ⟨xk,xc,xt,⟨vk,vb,vn⟩⟩ k4
    unfold b0p at k5
    dsimp only at k5
    simp only [l8,J8] at hr hone
    generalize b0m R ⟨xk,xc,xt,⟨vk,vb,vn⟩⟩ = w at *
    obtain ⟨R2,q2⟩:=w
    simp only at k5 hone hok1
    by_cases hq:q2 = 0
    ·rw [if_pos hq] at k5
     subst hq
     generalize (a++(⟨xk,xc,xt,⟨vk,vb,vn⟩⟩:Change)::r) = l at *
     generalize (a++[(⟨xk,xc,xt,⟨vk,vb,vn⟩⟩:Change)]) = A2 at *
     first | (refine s9 ?_;intro Q42 Y42) | have Y42:=oqk
     repeat' (first
      | (replace Y42:=Y42;simp [k3,hi,hr,hlt2,hne2,hone,hw])
      | (refine Y42 _ _ _ ?_;clear Y42 Q42;first | simp only [] | skip)
      | (refine F6 (by assumption) ?_;(try clear Y42);first | simp only [] | skip)
      | ((fail_if_success replace Y42:=Y42);(first | refine s9 ?_ | refine A1 ?_ | refine A4 ?_);intro Q42 Y42))
     all_goals first | (refine ⟨⟨by simp;omega,by simp [hne1,hne3,k2],R2,by simp,hok1,k5⟩,y0 (by simp)⟩) | trace_state
    ·rw [if_neg hq] at k5
     subst k5
     have hqb:(q2 != 0) = true:=by simp [hq]
     generalize (a++(⟨xk,xc,xt,⟨vk,vb,vn⟩⟩:Change)::r) = l at *
     first | (refine s9 ?_;intro Q43 Y43) | have Y43:=oqk
     repeat' (first
      | (replace Y43:=Y43;simp [k2,k3,hi,hr,hlt2,hne1,hne2,hne3,hone,hqb])
      | (refine Y43 _ _ _ ?_;clear Y43 Q43;first | simp only [] | skip)
      | (refine F6 (by assumption) ?_;(try clear Y43);first | simp only [] | skip)
      | ((fail_if_success replace Y43:=Y43);(first | refine s9 ?_ | refine A1 ?_ | refine A4 ?_);intro Q43 Y43))
     all_goals (simp [hsn,A7,A0,z9,L9,c7,u9,Yb])
   ·rintro fr h2 ⟨⟨k1,k2,R,k3,k4,k5⟩,j,rfl⟩
    have k5':(R,(0:Int)) = res:=k5
    subst k5'
    first | (refine s9 ?_;intro Q44 Y44) | have Y44:=oqk
    repeat' (first
     | (replace Y44:=Y44;simp [k2,k3])
     | (refine Y44 _ _ _ ?_;clear Y44 Q44;first | simp only [] | skip)
     | (refine F6 (by assumption) ?_;(try clear Y44);first | simp only [] | skip)
     | ((fail_if_success replace Y44:=Y44);(first | refine s9 ?_ | refine A1 ?_ | refine A4 ?_);intro Q44 Y44))
    all_goals (simp [A7,A0,z9,A5,L9,c7,u9,Yb])
end Go.Proofs.YtiagcnfmgigllaaGreat
