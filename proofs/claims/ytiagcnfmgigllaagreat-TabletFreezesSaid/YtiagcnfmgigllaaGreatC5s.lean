/- A part of a proof over the abstract machine. No conditions. -/
import Derived.Test.YtiagcnfmgigllaaGreatC1
import Derived.Test.YtiagcnfmgigllaaGreatRw6
set_option linter.unusedSimpArgs false
set_option linter.unnecessarySimpa false
set_option linter.unusedVariables false
namespace Go.Proofs.YtiagcnfmgigllaaGreat
open Go Go.Ab Wm NumPlain
set_option maxRecDepth 10000
set_option maxHeartbeats 4000000
theorem q0M (h:H):W K 55 [] h = some (.ret (.one (.ptr h.next 0 0)) (h.new ⟨0,[1],true,[.nilslc]⟩)):=by
 refine A5 hp rfl rfl rfl Tryz.func55 rfl (by simp [Tryz.f55]) ?_
 simp only [Tryz.f55]
 refine hide ?_;intro Q1 hQ1
 repeat' (first
  | (replace hQ1:=hQ1;simp)
  | refine hQ1 _ _ _ ?_)
theorem f0N (o:Option BL) (ho:(ls o).length ≤ 1099511627776):Fun K 102 [.one (bs o)] (fun h=>.ret (.one (bs o)) h):=by
 cases o with
 | none =>
  simp only [B7]
  have hown:A8 S.own 102 = false:=by kernel_rfl
  refine ⟨by simp [p7,c5],fun hh=>c6 rfl rfl (by kernel_rfl) Tryz.func102 rfl (by simp [Tryz.f102]) ?_⟩
  simp only [Tryz.f102]
  refine hide ?_;intro Q2 hQ2
  repeat' (first
   | (replace hQ2:=hQ2;simp [bin,g0k,a0x,t7,p9,p6,c5,p0,hown])
   | refine hQ2 _ _ _ ?_)
 | some l =>
  rw [O9]
  by_cases h0:l = []
  ·subst h0
   have hown:A8 S.own 102 = false:=by kernel_rfl
   refine ⟨by simp [p7,c5,j9],fun hh=>c6 rfl rfl (by kernel_rfl) Tryz.func102 rfl (by simp [Tryz.f102]) ?_⟩
   simp only [Tryz.f102]
   refine hide ?_;intro Q3 hQ3
   repeat' (first
    | (replace hQ3:=hQ3;simp [bin,g0k,a0x,U7,K9,P5,C3,sub,L4,t7,p9,p6,p0,hown])
    | refine hQ3 _ _ _ ?_)
  ·have h1:l.length ≠ 0:=by simpa using h0
   have h3:j9 true (l.map D9) = true:=by
    clear h0 h1 ho
    induction l with
    | nil=>rfl
    | cons a l ih=>simp [j9,D9,c5] at ih ⊢;exact ih
   have h2:¬ (17592186044416 < l.length + 600 + l.length):=by simp at ho;omega
   have ht:(l.map D9).take l.length = l.map D9:=List.take_of_length_le (by simp)
   have h4:j9 false (l.map D9) = true:=by have:=f0k (some l);rw [O9] at this;simpa [c5] using this
   have h5:(l.map D9).mapM (p6 true ((H.empty.new ⟨0,[0],true,[]⟩).new ⟨0,[l.length],false,l.map D9⟩) 63) = some (l.map D9):=b0s (n:=62) (by assumption)
   have hown:A8 S.own 102 = false:=by kernel_rfl
   refine ⟨by simp [p7,h4,c5],fun hh=>c6 rfl rfl (by kernel_rfl) Tryz.func102 rfl (by simp [Tryz.f102]) ?_⟩
   simp only [Tryz.f102]
   refine hide ?_;intro Q4 hQ4
   repeat' (first
    | (replace hQ4:=hQ4;simp [bin,g0k,a0x,U7,K9,P5,C3,sub,L4,h0,h2,h5,ht,t7,p9,p6,p0,hown])
    | refine hQ4 _ _ _ ?_)
   all_goals trace_state
theorem d0p {h:H} {n:Nat}:∀ {l:List AS},j9 false l = true→(∀ a ∈ l,(∀ f x c,a ≠ .fn f x c)∧∀ t v,a ≠ .ifc t v)→l.mapM (K4 h (n + 1)) = some l
 | [],_,_=>rfl
 | a::l,hp,hn=>by
  simp only [j9,Bool.and_eq_true] at hp
  have h1:=hn a (by simp)
  simp only [List.mapM_cons,c0w hp.1 h1.1 h1.2,d0p hp.2 (fun b hb=>hn b (by simp [hb])),oqE,oqS,oqP]
theorem g0w (l:BL):j9 false (l.map D9) = true:=by have:=f0k (some l);rw [O9] at this;simpa [c5] using this
theorem o0M (l:BL):∀ a ∈ l.map D9,(∀ f x c,a ≠ .fn f x c)∧∀ t v,a ≠ .ifc t v:=by
 intro a ha
 obtain ⟨b,_,rfl⟩:=List.mem_map.1 ha
 exact ⟨fun _ _ _ h=>(by cases h),fun _ _ h=>(by cases h)⟩
theorem p0O {h:H} {s:AS} {l:BL} (hs:Sees h 1 s (l.map D9)):∃ o:Option BL,ls o = l∧(s = bs o ∨ c5 false s = false)∧K4 h 64 s = some (bs o):=by
 cases s <;> simp only [Sees] at hs
 ·refine ⟨none, ?_,.inl rfl,rfl⟩
  simpa using hs.symm
 ·rename_i b v o n s' c
  obtain ⟨rfl,hr⟩:=hs
  have hn:n = l.length:=by have:=m0e hr;simpa using this.symm
  subst hn
  refine ⟨some l,rfl,.inr rfl, ?_⟩
  rw [O9]
  simp only [K4,hr,oqE,oqS,d0p (n:=62) (g0w l) (o0M l)]
 ·rename_i n s' q
  obtain ⟨rfl,rfl,hl⟩:=hs
  have hn:n = l.length:=by simpa using hl.symm
  subst hn
  refine ⟨some l,rfl,.inl (O9 l).symm, ?_⟩
  rw [O9]
  simp only [K4,c5,g0w,Bool.not_false,Bool.true_or,Bool.and_self,if_true]
theorem u0B {h:H} {s:AS} {l:BL} (hs:Sees h 1 s (l.map D9)) (hl:l.length ≤ 1099511627776):∃ o:Option BL,ls o = l∧W K 102 [.one s] h = some (.ret (.one (bs o)) h):=by
 obtain ⟨o,h1,h2,h3⟩:=p0O hs
 refine ⟨o,h1, ?_⟩
 rcases h2 with rfl | h2
 ·exact (f0N o (by rw [h1];exact hl)).pure hp h
 ·refine (f0N o (by rw [h1];exact hl)).view hp ?_
  unfold a0U
  rw [if_neg (by simp [p7,h2])]
  simp [b0R,h3]
theorem v0A {h:H} {p:Nat} {q:Option Nat} {l:BL} (w:Wr h p q l) (hl:l.length ≤ 1099511627776):∃ o,ls o = l∧W K 59 [.one (.ptr p 0 0)] h = some (.ret (.one (bs o)) h):=by
 obtain ⟨_,s,_,_,hf,ho⟩:=w
 obtain ⟨o,h1,h2⟩:=u0B ho.sees hl
 refine ⟨o,h1, ?_⟩
 refine A5 hp rfl rfl rfl Tryz.func59 rfl (by simp [Tryz.f59]) ?_
 simp only [Tryz.f59]
 refine hide ?_;intro Q1 hQ1
 repeat' (first
  | (replace hQ1:=hQ1;simp [hf,h2])
  | refine hQ1 _ _ _ ?_)
theorem A0b {α:Type} {o:Option (List α)} {l:List α} (h:ls o = l) (hl:l ≠ []):o = some l:=by
 cases o with
 | none=>exact absurd h.symm hl
 | some x=>simp only [I6] at h;rw [h]
theorem m0C {h0 h:H} {q0:Option Nat} {p:Nat} {l:BL} {kept:List (Nat × Blk)} (ws:WS h0 q0 h p l kept) (hl:l.length ≤ 1099511627776) (hne:l ≠ []):W K 59 [.one (.ptr p 0 0)] h = some (.ret (.one (bs (some l))) h):=by
 obtain ⟨q,w,_⟩:=ws
 obtain ⟨o,h1,h2⟩:=v0A w hl
 rw [h2,A0b h1 hne]
theorem A0V (h:H) (kept:List (Nat × Blk)) (hk:H9 h kept) (hl:∀ e ∈ kept,e.1 < h.next):WS (h.new ⟨0,[1],true,[.nilslc]⟩) none (h.new ⟨0,[1],true,[.nilslc]⟩) h.next [] kept:=by
 refine ⟨none,⟨by simp,.nilslc,rfl,by simp,by simp,rfl⟩,Only.refl _ _ _,T7 (fun e he=>?_) hk,fun e he=>⟨?_, ?_,by simp⟩⟩
 ·rw [K7,if_neg (by have:=hl e he;omega)]
 ·have:=hl e he;simp;omega
 ·have:=hl e he;omega
theorem D0V {f:Nat} (hq:K.prim f = some (viaP (W Rw.K) f)) {args:List AV} {h:H} {r r':CR} (hw:W Rw.K f args h = some r) (hr:iceR true h r = some r'):W K f args h = some r':=by
 rw [k0O hp hq];simp only [viaP,hw,oqS,hr]
theorem p0u {f:Nat} (hq:K.prim f = some (viaP (W Rw.K) f)) {args:List AV} {h:H} {v:AV} (hw:W Rw.K f args h = some (.ret v h)) (hv:a0S v = true):W K f args h = some (.ret v h):=D0V hq hw (c0b (a0V h) hv)
theorem f0H (o:Row) (ho:(ls o).length < 1000000) (h:H):W K 166 [.agg [sl 2 d9 o]] h = some (.ret (.agg (F6 (rowCopy o))) h):=by
 obtain ⟨r,e,hr⟩:=Rw.copy_c (Rw.row_sees h o) ho
 obtain ⟨v,h',rfl,s',rs',rfl,w,hn,hf⟩:=hr.ret
 refine D0V rfl e (f0A ⟨hn,hf⟩ ?_)
 have:=w.frz (h:=h) (Nat.le_refl _) 61
 simp only [p9,List.mapM_cons,List.mapM_nil,this,oqE,oqS,oqP,F6]
theorem o0p (o:Row) (ho:(ls o).length < 1000000) (h:H):W K 172 [.agg [sl 2 d9 o]] h = some (.ret (.one (.bool (S1 o))) h):=p0u rfl ((Rw.right_g o ho).pure Rw.hp h) rfl
theorem w0m {h:H} {s:AS} {rs:List RC} {o:Row} (w:Rw.RowSees h s rs o) (ho:(ls o).length < 1000000):W K 172 [.agg [s]] h = some (.ret (.one (.bool (S1 o))) h):=p0u rfl (Rw.right_s w ho (Nat.le_refl _) fun _ _=>rfl) rfl
theorem y0w (o:Row) (n:BL) (hr:S1 o = true) (h:H):W K 254 [.agg [sl 2 d9 o],.one (.str n)] h = some (.ret (.tup [(false,[ii (X5 (ls o) n)]),(false,[.bool (b0k (ls o) n)])]) h):=p0u rfl ((Rw.find_g o n hr).pure Rw.hp h) rfl
theorem j0G (o:Row):j9 false (F6 o) = true:=by simp [F6,j9]
theorem p0D (o:Row) (ho:(ls o).length < 1000000) (n:BL) (t:Int) (B9:Int) (v_b:Option BL) (v_n:Nat) (h:H) :
  W K 238 [.agg [sl 2 d9 o],.one (.str n),.one (ii t),.agg [ii B9,bs v_b,.flt v_n]] h = some (.ret (.tup [(true,F6 (Y8 o n t ⟨B9,v_b,v_n⟩).1),(false,[ii (Y8 o n t ⟨B9,v_b,v_n⟩).2])]) h) :=
 p0u rfl (Rw.put_c o ho n t B9 v_b v_n h) (by simp [a0S,j0G,j9,c5])
theorem y0s (o:Row) (ho:(ls o).length < 1000000) (n:BL) (t:Int) (h:H):W K 239 [.agg [sl 2 d9 o],.one (.str n),.one (ii t)] h = some (.ret (.agg (F6 (c0H o n t))) h) :=
 p0u rfl (Rw.drop_c o ho n t h) (by simp [a0S,j0G])
theorem p0T (o:Row) (ho:(ls o).length < 1000000) (n:BL) (h:H):W K 240 [.agg [sl 2 d9 o],.one (.str n)] h = some (.ret (.agg (F6 (a0k o n))) h) :=
 p0u rfl (Rw.dropCol_c o ho n h) (by simp [a0S,j0G])
theorem j0P (o:Option BL) (ho:(ls o).length ≤ 1099511627776) (h:H):W K 102 [.one (bs o)] h = some (.ret (.one (bs o)) h):=(f0N o ho).pure hp h
theorem o0f (B9:Int) (v_b:Option BL) (v_n:Nat) (hb:B9 = 1→(ls v_b).length ≤ 1099511627776) (h:H):W K 206 [.agg [ii B9,bs v_b,.flt v_n]] h = some (.ret (.agg (W0 (N4 ⟨B9,v_b,v_n⟩))) h):=by
 by_cases h1:B9 = 1
 ·have hc:=j0P v_b (hb h1)
  subst h1
  have hown:A8 S.own 206 = false:=by kernel_rfl
  refine p5 hp (by simp [p7,c5,j9]) (c6 rfl rfl (by kernel_rfl) Tryz.func206 rfl (by simp [Tryz.f206]) ?_)
  simp only [Tryz.f206]
  refine hide ?_;intro Q1 hQ1
  repeat' (first
   | (replace hQ1:=hQ1;simp [hc])
   | (refine hQ1 _ _ _ ?_;clear hQ1 Q1;first | simp only [] | simp [N4,W0,t7,p9,p6,s7,c5,p0,hown]))
  all_goals first | done | (simp_all [-List.isEmpty_iff,-List.isEmpty_eq_false_iff,← List.isEmpty_iff];done) | (simp_all;done) | (simp_all;omega) | (simp;omega) | (intros;omega) | (intros;simp only [decide_eq_true_eq] at *;omega) | (intros;simp at *;omega) | skip
 ·by_cases h2:B9 = 2
  ·subst h2
   have hown:A8 S.own 206 = false:=by kernel_rfl
   refine p5 hp (by simp [p7,c5,j9]) (c6 rfl rfl (by kernel_rfl) Tryz.func206 rfl (by simp [Tryz.f206]) ?_)
   simp only [Tryz.f206]
   refine hide ?_;intro Q2 hQ2
   repeat' (first
    | (replace hQ2:=hQ2;simp [f0L])
    | (refine hQ2 _ _ _ ?_;clear hQ2 Q2;first | simp only [] | simp [N4,W0,B7,t7,p9,p6,c5,p0,hown]))
   all_goals first | done | (simp_all [-List.isEmpty_iff,-List.isEmpty_eq_false_iff,← List.isEmpty_iff];done) | (simp_all;done) | (simp_all;omega) | (simp;omega) | (intros;omega) | (intros;simp only [decide_eq_true_eq] at *;omega) | (intros;simp at *;omega) | skip
  ·have e1:N4 ⟨B9,v_b,v_n⟩ = ⟨0,none,0⟩:=by simp [N4,h1,h2]
   have b1:(B9 == 1) = false:=by simp [h1]
   have b2:(B9 == 2) = false:=by simp [h2]
   rw [e1]
   have hown:A8 S.own 206 = false:=by kernel_rfl
   refine p5 hp (by simp [p7,c5,j9]) (c6 rfl rfl (by kernel_rfl) Tryz.func206 rfl (by simp [Tryz.f206]) ?_)
   simp only [Tryz.f206]
   refine hide ?_;intro Q3 hQ3
   repeat' (first
    | (replace hQ3:=hQ3;simp [b1,b2])
    | (refine hQ3 _ _ _ ?_;clear hQ3 Q3;first | simp only [] | simp [W0,B7,t7,p9,p6,c5,p0,hown]))
   all_goals first | done | (simp_all [-List.isEmpty_iff,-List.isEmpty_eq_false_iff,← List.isEmpty_iff];done) | (simp_all;done) | (simp_all;omega) | (simp;omega) | (intros;omega) | (intros;simp only [decide_eq_true_eq] at *;omega) | (intros;simp at *;omega) | skip
theorem G0W (o:Row) (ho:(ls o).length < 1000000) (n:BL) (t:Int) (h:H):W K 236 [.agg [sl 2 d9 o],.one (.str n),.one (ii t)] h = some (.ret (.tup [(true,W0 (k0x o n t).1),(false,[.bool (k0x o n t).2])]) h):=by
 have hcp:=f0H o ho
 have hrB:=M7 o
 have hf:=y0w (rowCopy o) n hrB
 obtain ⟨res,hres⟩:∃ res,k0x o n t = res:=⟨_,rfl⟩
 rw [hres]
 unfold k0x at hres
 dsimp only at hres
 have hallO:(ls (rowCopy o)).all a0w = true:=by simp only [S1,Bool.and_eq_true] at hrB;exact hrB.1.1
 simp only [F6] at hcp
 generalize rowCopy o = O at *
 cases hTb:b0k (ls O) n with
 | false =>
  rw [hTb] at hres hf
  rw [if_pos rfl] at hres
  subst hres
  have hown:A8 S.own 236 = false:=by kernel_rfl
  refine p5 hp (by simp [p7,c5,j9]) (c6 rfl rfl (by kernel_rfl) Tryz.func236 rfl (by simp [Tryz.f236]) ?_)
  simp only [Tryz.f236]
  refine hide ?_;intro Q4 hQ4
  repeat' (first
   | (replace hQ4:=hQ4;simp [hcp,hf,zV,W0,B7,t7,p9,p6,J3,c5,p0,hown])
   | refine hQ4 _ _ _ ?_)
 | true =>
  rw [hTb] at hres hf
  rw [if_neg (by simp)] at hres
  obtain ⟨hI3,hn3⟩:=Rw.at_inv hTb
  generalize hI:X5 (ls O) n = I at *
  rw [List.getElem?_eq_getElem hI3] at hres
  simp only [oqS] at hres
  obtain ⟨l,rfl⟩:∃ l,O = some l:=by cases O with | none=>simp at hI3 | some l=>exact ⟨l,rfl⟩
  simp only [I6] at *
  have hix:=J8 (P:=Tryz.prog) (enc:=d9) (s:=2) (l:=l) (i:=I) Tryz.underlying79 (by simp) (by omega) hI3
  obtain ⟨hcl2,_,_⟩:=Rw.colB_inv (List.all_eq_true.1 hallO _ (List.getElem_mem hI3))
  have hsub:sub (cat d9 l) (I * 2 + 1) 1 = some [sl 4 c9 l[I].l]:=by rw [B0q O8 l hI3 (by omega)];rfl
  have hcl3:(ls l[I].l).length ≤ 2:=hcl2
  clear hcl2
  generalize l[I].l = vl at *
  have hown:A8 S.own 236 = false:=by kernel_rfl
  refine p5 hp (by simp [p7,c5,j9]) (c6 rfl rfl (by kernel_rfl) Tryz.func236 rfl (by simp [Tryz.f236]) ?_)
  simp only [Tryz.f236]
  refine hide ?_;intro Q5 hQ5
  repeat' (first
   | (replace hQ5:=hQ5;simp [hcp,hf,hix,hsub])
   | refine hQ5 _ _ _ ?_)
  refine F5 hp (ls vl) (fun a r fr hh=>(2 ≤ hh.next∧hh.f 1 = some ⟨0,[3],true,W0 zV⟩∧(ls vl).find? (fun x=>decide (x.time ≤ t)) = r.find? (fun x=>decide (x.time ≤ t)))∧∃ j:Nat→AV,fr = (j 0::j 1::(.one (ii t))::j 3::j 4::j 5::(.one (.ptr 1 0 0))::j 7::j 8::j 9::j 10::j 11::j 12::j 13::j 14::j 15::j 16::j 17::j 18::j 19::j 20::j 21::j 22::j 23::j 24::j 25::j 26::j 27::j 28::(.one (sl 4 c9 vl))::(.one (ii (ls vl).length))::(.one (ii a.length))::j 32::j 33::j 34::j 35::j 36::j 37::j 38::j 39::j 40::j 41::j 42::[])) ?_ ?_ _ _ ⟨⟨by simp,by simp [W0,zV,B7],rfl⟩,s9 (by simp)⟩
  ·rintro a x r fr hh hl ⟨⟨i1,i2,i3⟩,j,rfl⟩
   obtain rfl:=S7 hl
   have hi:=J8 (P:=Tryz.prog) (enc:=c9) (s:=4) (l:=a++x::r) (i:=a.length) Tryz.underlying89 (by simp) (by omega) (by simp)
   have hr:=I4 (enc:=c9) (s:=4) C9 a x r (o:=0) (n:=4) (by omega)
   rw [J2 (C9 x),Nat.add_zero] at hr
   have hlt2:a.length < (a++x::r).length:=by simp
   have hw:IntKind.i64.wrap ((a.length:Int) + 1) = ((a++[x]).length:Int):=by rw [M9];exact F0 (by simp at hcl3;omega)
   have hne:¬ 1 = hh.next:=by omega
   obtain ⟨xt,⟨xk,xb,xn⟩⟩:=x
   simp only [c9,W0,zV,B7] at hr i2
   by_cases hc:xt ≤ t
   ·have hfx:l0q ((ls (some (a++⟨xt,⟨xk,xb,xn⟩⟩::r))).find? (fun x=>decide (x.time ≤ t))) = ((⟨xk,xb,xn⟩:Wm.Value),true):=by rw [i3];simp [hc,l0q]
    rw [hfx] at hres
    subst hres
    generalize (a++(⟨xt,⟨xk,xb,xn⟩⟩:Version)::r) = L at *
    first | (refine hide ?_;intro Q6 hQ6) | have hQ6:=True.intro
    repeat' (first
     | (replace hQ6:=hQ6;simp [i2,hi,hr,hlt2,hne,hc])
     | (refine hQ6 _ _ _ ?_;clear hQ6 Q6;first | simp only [] | skip)
     | (refine D3 (by assumption) ?_;(try clear hQ6);first | simp only [] | skip)
     | ((fail_if_success replace hQ6:=hQ6);(first | refine hide ?_ | refine u6 ?_ | refine u7 ?_);intro Q6 hQ6))
    all_goals (simp [W0,t7,p9,p6,s7,J3,c5,p0,hown])
   ·have hi4:(r).find? (fun x=>decide (x.time ≤ t)) = (ls (some (a++⟨xt,⟨xk,xb,xn⟩⟩::r))).find? (fun x=>decide (x.time ≤ t)):=by rw [i3];simp [hc]
    generalize (a++(⟨xt,⟨xk,xb,xn⟩⟩:Version)::r) = L at *
    generalize (a++[(⟨xt,⟨xk,xb,xn⟩⟩:Version)]) = A2 at *
    first | (refine hide ?_;intro Q7 hQ7) | have hQ7:=True.intro
    repeat' (first
     | (replace hQ7:=hQ7;simp [hi,hr,hlt2,hc,hw])
     | (refine hQ7 _ _ _ ?_;clear hQ7 Q7;first | simp only [] | skip)
     | (refine D3 (by assumption) ?_;(try clear hQ7);first | simp only [] | skip)
     | ((fail_if_success replace hQ7:=hQ7);(first | refine hide ?_ | refine u6 ?_ | refine u7 ?_);intro Q7 hQ7))
    all_goals first | (refine ⟨⟨by simp;omega,by simp [hne,i2,W0,zV,B7],hi4.symm⟩,s9 (by simp)⟩) | trace_state
  ·rintro fr hh ⟨⟨i1,i2,i3⟩,j,rfl⟩
   rw [i3] at hres
   simp only [List.find?_nil,l0q] at hres
   subst hres
   simp only [W0,zV,B7] at i2
   first | (refine hide ?_;intro Q8 hQ8) | have hQ8:=True.intro
   repeat' (first
    | (replace hQ8:=hQ8;simp [i2])
    | (refine hQ8 _ _ _ ?_;clear hQ8 Q8;first | simp only [] | skip)
    | (refine D3 (by assumption) ?_;(try clear hQ8);first | simp only [] | skip)
    | ((fail_if_success replace hQ8:=hQ8);(first | refine hide ?_ | refine u6 ?_ | refine u7 ?_);intro Q8 hQ8))
   all_goals (simp [W0,zV,B7,t7,p9,p6,J3,c5,p0,hown])
theorem n0M (o:Row) (ho:(ls o).length < 1000000) (n:BL) (h:H):W K 207 [.agg [sl 2 d9 o],.one (.str n)] h = some (.ret (.tup [(true,W0 (a0a o n).1),(false,[.bool (a0a o n).2])]) h):=by
 have hx:=G0W o ho n 1099511627776
 unfold a0a
 generalize k0x o n 1099511627776 = w at *
 obtain ⟨⟨k,b,x⟩,q⟩:=w
 simp only [W0] at *
 have hown:A8 S.own 207 = false:=by kernel_rfl
 refine p5 hp (by simp [p7,c5,j9]) (c6 rfl rfl (by kernel_rfl) Tryz.func207 rfl (by simp [Tryz.f207]) ?_)
 simp only [Tryz.f207]
 refine hide ?_;intro Q1 hQ1
 repeat' (first
  | (replace hQ1:=hQ1;simp [hx,t7,p9,p6,s7,J3,c5,p0,hown])
  | refine hQ1 _ _ _ ?_)
theorem u0d (h:H):W K 235 [.one .nan] h = some (.ret (.one (.flt 9221120237041090561)) h):=by
 have hn:∀ h,W K 253 [.one .nan] h = some (.ret (.one (.bool true)) h):=by
  intro h
  have hown:A8 S.own 253 = false:=by kernel_rfl
  refine p5 hp (by simp [p7,c5]) (c6 rfl rfl (by kernel_rfl) Tryz.func253 rfl (by simp [Tryz.f253]) ?_)
  simp only [Tryz.f253]
  refine hide ?_;intro Q2 hQ2
  repeat' (first
   | (replace hQ2:=hQ2;simp [t7,p9,p6,c5,p0,hown])
   | refine hQ2 _ _ _ ?_)
 have hown:A8 S.own 235 = false:=by kernel_rfl
 refine p5 hp (by simp [p7,c5]) (c6 rfl rfl (by kernel_rfl) Tryz.func235 rfl (by simp [Tryz.f235]) ?_)
 simp only [Tryz.f235]
 refine hide ?_;intro Q3 hQ3
 repeat' (first
  | (replace hQ3:=hQ3;simp [hn,X6,t7,p9,p6,c5,p0,hown])
  | refine hQ3 _ _ _ ?_)
theorem D0z (a b:Nat) (h:H):W K 263 [.one (.flt a),.one (.flt b)] h = some (.ret (.one (.flt (t0g a b))) h):=by
 unfold t0g
 cases hs:(FloatKind.format .f64).add a b with
 | none =>
  have hs2:Ieee.double.add a b = none:=hs
  have hown:A8 S.own 263 = false:=by kernel_rfl
  refine p5 hp (by simp [p7,c5]) (c6 rfl rfl (by kernel_rfl) Tryz.func263 rfl (by simp [Tryz.f263]) ?_)
  simp only [Tryz.f263]
  refine hide ?_;intro Q4 hQ4
  repeat' (first
   | (replace hQ4:=hQ4;simp [c0U,q0B,hs2,u0d,t7,p9,p6,c5,p0,hown])
   | refine hQ4 _ _ _ ?_)
 | some r =>
  have hc:=f0L r
  have hs2:Ieee.double.add a b = some r:=hs
  have hown:A8 S.own 263 = false:=by kernel_rfl
  refine p5 hp (by simp [p7,c5]) (c6 rfl rfl (by kernel_rfl) Tryz.func263 rfl (by simp [Tryz.f263]) ?_)
  simp only [Tryz.f263]
  refine hide ?_;intro Q5 hQ5
  repeat' (first
   | (replace hQ5:=hQ5;simp [c0U,q0B,hs2,hc,t7,p9,p6,c5,p0,hown])
   | refine hQ5 _ _ _ ?_)
theorem u0w (Y0:Int) (a_b:Option BL) (a_n:Nat) (b_kind:Int) (b_b:Option BL) (b_n:Nat) (h:H):W K 241 [.agg [ii Y0,bs a_b,.flt a_n],.agg [ii b_kind,bs b_b,.flt b_n]] h = some (.ret (.tup [(true,W0 (W8 ⟨Y0,a_b,a_n⟩ ⟨b_kind,b_b,b_n⟩).1),(false,[ii (W8 ⟨Y0,a_b,a_n⟩ ⟨b_kind,b_b,b_n⟩).2])]) h):=by
 have hs:=D0z a_n b_n
 by_cases h1:Y0 = 2
 ·by_cases h2:b_kind = 2
  ·have e:W8 ⟨Y0,a_b,a_n⟩ ⟨b_kind,b_b,b_n⟩ = (⟨2,none,t0g a_n b_n⟩,0):=by simp [W8,h1,h2]
   rw [e];subst h1 h2
   have hown:A8 S.own 241 = false:=by kernel_rfl
   refine p5 hp (by simp [p7,c5,j9]) (c6 rfl rfl (by kernel_rfl) Tryz.func241 rfl (by simp [Tryz.f241]) ?_)
   simp only [Tryz.f241]
   refine hide ?_;intro Q6 hQ6
   repeat' (first
    | (replace hQ6:=hQ6;simp [hs,W0,B7,t7,p9,p6,J3,c5,p0,hown])
    | refine hQ6 _ _ _ ?_)
  ·have e:W8 ⟨Y0,a_b,a_n⟩ ⟨b_kind,b_b,b_n⟩ = (zV,24):=by simp [W8,h2]
   have b2:(b_kind == 2) = false:=by simp [h2]
   have b3:(b_kind != 2) = true:=by simp [h2]
   rw [e];subst h1
   have hown:A8 S.own 241 = false:=by kernel_rfl
   refine p5 hp (by simp [p7,c5,j9]) (c6 rfl rfl (by kernel_rfl) Tryz.func241 rfl (by simp [Tryz.f241]) ?_)
   simp only [Tryz.f241]
   refine hide ?_;intro Q7 hQ7
   repeat' (first
    | (replace hQ7:=hQ7;simp [b3,W0,zV,B7,t7,p9,p6,J3,c5,p0,hown])
    | refine hQ7 _ _ _ ?_)
 ·have e:W8 ⟨Y0,a_b,a_n⟩ ⟨b_kind,b_b,b_n⟩ = (zV,24):=by simp [W8,h1]
  have b2:(Y0 == 2) = false:=by simp [h1]
  have b3:(Y0 != 2) = true:=by simp [h1]
  rw [e]
  have hown:A8 S.own 241 = false:=by kernel_rfl
  refine p5 hp (by simp [p7,c5,j9]) (c6 rfl rfl (by kernel_rfl) Tryz.func241 rfl (by simp [Tryz.f241]) ?_)
  simp only [Tryz.f241]
  refine hide ?_;intro Q8 hQ8
  repeat' (first
   | (replace hQ8:=hQ8;simp [b3,W0,zV,B7,t7,p9,p6,J3,c5,p0,hown])
   | refine hQ8 _ _ _ ?_)
theorem z0r (x:Nat) (h:H):W K 269 [.one (.flt x)] h = some (.ret (.one (.int .u64 (o0S x))) h):=by
 have hb:=f0B x
 unfold o0S
 by_cases h1:l0j .u64 (b0y x) 9223372036854775808 = 0
 ·have b1:(l0j .u64 (b0y x) 9223372036854775808 != 0) = false:=by simp [h1]
  rw [if_pos h1]
  have hown:A8 S.own 269 = false:=by kernel_rfl
  refine p5 hp (by simp [p7,c5]) (c6 rfl rfl (by kernel_rfl) Tryz.func269 rfl (by simp [Tryz.f269]) ?_)
  simp only [Tryz.f269]
  refine hide ?_;intro Q9 hQ9
  repeat' (first
   | (replace hQ9:=hQ9;simp [hb,h1,t7,p9,p6,c5,p0,hown])
   | refine hQ9 _ _ _ ?_)
 ·have b1:(l0j .u64 (b0y x) 9223372036854775808 != 0) = true:=by simp [h1]
  rw [if_neg h1]
  have hown:A8 S.own 269 = false:=by kernel_rfl
  refine p5 hp (by simp [p7,c5]) (c6 rfl rfl (by kernel_rfl) Tryz.func269 rfl (by simp [Tryz.f269]) ?_)
  simp only [Tryz.f269]
  refine hide ?_;intro Q10 hQ10
  repeat' (first
   | (replace hQ10:=hQ10;simp [hb,b1,t7,p9,p6,c5,p0,hown])
   | refine hQ10 _ _ _ ?_)
theorem A0x (a b:Nat) (h:H):W K 256 [.one (.flt a),.one (.flt b)] h = some (.ret (.one (ii (B0O a b))) h):=by
 have h1:=z0r a
 have h2:=z0r b
 unfold B0O
 generalize o0S a = x at *
 generalize o0S b = y at *
 by_cases c1:x < y
 ·have d1:decide (x < y) = true:=by simp [c1]
  rw [if_pos c1]
  have hown:A8 S.own 256 = false:=by kernel_rfl
  refine p5 hp (by simp [p7,c5]) (c6 rfl rfl (by kernel_rfl) Tryz.func256 rfl (by simp [Tryz.f256]) ?_)
  simp only [Tryz.f256]
  refine hide ?_;intro Q11 hQ11
  repeat' (first
   | (replace hQ11:=hQ11;simp [h1,h2,c1,t7,p9,p6,c5,p0,hown])
   | refine hQ11 _ _ _ ?_)
 ·have d1:decide (x < y) = false:=by simp [c1]
  rw [if_neg c1]
  by_cases c2:y < x
  ·have d2:decide (y < x) = true:=by simp [c2]
   rw [if_pos c2]
   have hown:A8 S.own 256 = false:=by kernel_rfl
   refine p5 hp (by simp [p7,c5]) (c6 rfl rfl (by kernel_rfl) Tryz.func256 rfl (by simp [Tryz.f256]) ?_)
   simp only [Tryz.f256]
   refine hide ?_;intro Q12 hQ12
   repeat' (first
    | (replace hQ12:=hQ12;simp [h1,h2,c1,c2,t7,p9,p6,c5,p0,hown])
    | refine hQ12 _ _ _ ?_)
  ·have d2:decide (y < x) = false:=by simp [c2]
   rw [if_neg c2]
   have hown:A8 S.own 256 = false:=by kernel_rfl
   refine p5 hp (by simp [p7,c5]) (c6 rfl rfl (by kernel_rfl) Tryz.func256 rfl (by simp [Tryz.f256]) ?_)
   simp only [Tryz.f256]
   refine hide ?_;intro Q13 hQ13
   repeat' (first
    | (replace hQ13:=hQ13;simp [h1,h2,c1,c2,t7,p9,p6,c5,p0,hown])
    | refine hQ13 _ _ _ ?_)
theorem w0E (a b:Int) (h:H):W K 163 [.one (ii a),.one (ii b)] h = some (.ret (.one (ii (j0o a b))) h):=by
 have hn:∀ a h,W K 203 [.one (ii a)] h = some (.ret (.one (.bool false)) h):=by
  intro a h
  have he:(a != a) = false:=by simp
  have hown:A8 S.own 203 = false:=by kernel_rfl
  refine p5 hp (by simp [p7,c5]) (c6 rfl rfl (by kernel_rfl) Tryz.func203 rfl (by simp [Tryz.f203]) ?_)
  simp only [Tryz.f203]
  refine hide ?_;intro Q14 hQ14
  repeat' (first
   | (replace hQ14:=hQ14;simp [he])
   | (refine hQ14 _ _ _ ?_;clear hQ14 Q14;first | simp only [] | simp [t7,p9,p6,c5,p0,hown]))
  all_goals first | done | (simp_all [-List.isEmpty_iff,-List.isEmpty_eq_false_iff,← List.isEmpty_iff];done) | (simp_all;done) | (simp_all;omega) | (simp;omega) | (intros;omega) | (intros;simp only [decide_eq_true_eq] at *;omega) | (intros;simp at *;omega) | skip
 unfold j0o
 by_cases c1:a < b
 ·have d1:decide (a < b) = true:=by simp [c1]
  rw [if_pos c1]
  have hown:A8 S.own 163 = false:=by kernel_rfl
  refine p5 hp (by simp [p7,c5]) (c6 rfl rfl (by kernel_rfl) Tryz.func163 rfl (by simp [Tryz.f163]) ?_)
  simp only [Tryz.f163]
  refine hide ?_;intro Q15 hQ15
  repeat' (first
   | (replace hQ15:=hQ15;simp [hn,c1,t7,p9,p6,c5,p0,hown])
   | refine hQ15 _ _ _ ?_)
 ·have d1:decide (a < b) = false:=by simp [c1]
  rw [if_neg c1]
  by_cases c2:b < a
  ·have d2:decide (b < a) = true:=by simp [c2]
   rw [if_pos c2]
   have hown:A8 S.own 163 = false:=by kernel_rfl
   refine p5 hp (by simp [p7,c5]) (c6 rfl rfl (by kernel_rfl) Tryz.func163 rfl (by simp [Tryz.f163]) ?_)
   simp only [Tryz.f163]
   refine hide ?_;intro Q16 hQ16
   repeat' (first
    | (replace hQ16:=hQ16;simp [hn,c1,c2,t7,p9,p6,c5,p0,hown])
    | refine hQ16 _ _ _ ?_)
  ·have d2:decide (b < a) = false:=by simp [c2]
   rw [if_neg c2]
   have hown:A8 S.own 163 = false:=by kernel_rfl
   refine p5 hp (by simp [p7,c5]) (c6 rfl rfl (by kernel_rfl) Tryz.func163 rfl (by simp [Tryz.f163]) ?_)
   simp only [Tryz.f163]
   refine hide ?_;intro Q17 hQ17
   repeat' (first
    | (replace hQ17:=hQ17;simp [hn,c1,c2,t7,p9,p6,c5,p0,hown])
    | refine hQ17 _ _ _ ?_)
theorem f0t (l:BL):bytesOf (l.map D9) = some l:=by
 induction l with
 | nil=>rfl
 | cons a l ih =>
  have h1:(0:Int) ≤ (a.toNat:Int)∧(a.toNat:Int) < 256:=⟨by omega,by have:=a.toNat_lt;omega⟩
  simp only [List.map_cons,D9,bytesOf] at ih ⊢
  rw [if_pos h1]
  simp only [ih,oqE,oqS,Int.toNat_natCast,UInt8.ofNat_toNat]
theorem A0w (x y:Option BL) (h:H):W K 255 [.one (bs x),.one (bs y)] h = some (.ret (.one (ii (X8 (ls x) (ls y)))) h):=by
 have e:∀ h,W K 268 [.one (bs x),.one (bs y)] h = some (.ret (.one (ii (X8 (ls x) (ls y)))) h):=by
  intro h
  rw [l0L hp rfl rfl]
  have hl:∀ o:Option BL,P5 (bs o) = some (ls o).length:=fun o=>q0T 1 _ o
  simp only [s0y,hl,o0C,f0t,oqE,oqS]
 have hown:A8 S.own 255 = false:=by kernel_rfl
 refine p5 hp (by simp [p7]) (c6 rfl rfl (by kernel_rfl) Tryz.func255 rfl (by simp [Tryz.f255]) ?_)
 simp only [Tryz.f255]
 refine hide ?_;intro Q18 hQ18
 repeat' (first
  | (replace hQ18:=hQ18;simp [e,t7,p9,p6,c5,p0,hown])
  | refine hQ18 _ _ _ ?_)
theorem B0p (Y0:Int) (a_b:Option BL) (a_n:Nat) (b_kind:Int) (b_b:Option BL) (b_n:Nat) (ha:Y0 = 1→(ls a_b).length ≤ 1099511627776) (hb:b_kind = 1→(ls b_b).length ≤ 1099511627776) (h:H):W K 237 [.agg [ii Y0,bs a_b,.flt a_n],.agg [ii b_kind,bs b_b,.flt b_n]] h = some (.ret (.one (ii (v0f ⟨Y0,a_b,a_n⟩ ⟨b_kind,b_b,b_n⟩))) h):=by
 have h1:=o0f Y0 a_b a_n ha
 have h2:=o0f b_kind b_b b_n hb
 unfold v0f
 dsimp only
 generalize N4 ⟨Y0,a_b,a_n⟩ = x at *
 generalize N4 ⟨b_kind,b_b,b_n⟩ = y at *
 obtain ⟨xk,xb,xn⟩:=x
 obtain ⟨yk,yb,yn⟩:=y
 simp only [W0] at h1 h2
 have hbc:=A0w xb yb
 have hfc:=A0x xn yn
 have hic:=w0E xk yk
 by_cases c1:xk = yk
 ·subst c1
  rw [if_neg (by simp)]
  have d1:(xk != xk) = false:=by simp
  by_cases c2:xk = 1
  ·subst c2
   rw [if_pos rfl]
   have hown:A8 S.own 237 = false:=by kernel_rfl
   refine p5 hp (by simp [p7,c5,j9]) (c6 rfl rfl (by kernel_rfl) Tryz.func237 rfl (by simp [Tryz.f237]) ?_)
   simp only [Tryz.f237]
   refine hide ?_;intro Q19 hQ19
   repeat' (first
    | (replace hQ19:=hQ19;simp [h1,h2,hbc,t7,p9,p6,c5,p0,hown])
    | refine hQ19 _ _ _ ?_
    | refine dF (id:=1) [0,1,2,3,4,5] [(1,2)] ?_)
  ·have d2:(xk == 1) = false:=by simp [c2]
   rw [if_neg c2]
   by_cases c3:xk = 2
   ·subst c3
    rw [if_pos rfl]
    have hown:A8 S.own 237 = false:=by kernel_rfl
    refine p5 hp (by simp [p7,c5,j9]) (c6 rfl rfl (by kernel_rfl) Tryz.func237 rfl (by simp [Tryz.f237]) ?_)
    simp only [Tryz.f237]
    refine hide ?_;intro Q20 hQ20
    repeat' (first
     | (replace hQ20:=hQ20;simp [h1,h2,d2,hfc,t7,p9,p6,c5,p0,hown])
     | refine hQ20 _ _ _ ?_
     | refine dF (id:=1) [0,1,2,3,4,5] [(1,2)] ?_)
   ·have d3:(xk == 2) = false:=by simp [c3]
    rw [if_neg c3]
    have hown:A8 S.own 237 = false:=by kernel_rfl
    refine p5 hp (by simp [p7,c5,j9]) (c6 rfl rfl (by kernel_rfl) Tryz.func237 rfl (by simp [Tryz.f237]) ?_)
    simp only [Tryz.f237]
    refine hide ?_;intro Q21 hQ21
    repeat' (first
     | (replace hQ21:=hQ21;simp [h1,h2,d2,d3,t7,p9,p6,c5,p0,hown])
     | refine hQ21 _ _ _ ?_
     | refine dF (id:=1) [0,1,2,3,4,5] [(1,2)] ?_)
 ·have d1:(xk != yk) = true:=by simp [c1]
  rw [if_pos c1]
  have hown:A8 S.own 237 = false:=by kernel_rfl
  refine p5 hp (by simp [p7,c5,j9]) (c6 rfl rfl (by kernel_rfl) Tryz.func237 rfl (by simp [Tryz.f237]) ?_)
  simp only [Tryz.f237]
  refine hide ?_;intro Q22 hQ22
  repeat' (first
   | (replace hQ22:=hQ22;simp [h1,h2,d1,hic,t7,p9,p6,c5,p0,hown])
   | refine hQ22 _ _ _ ?_
   | refine dF (id:=1) [0,1,2,3,4,5] [(1,2)] ?_)
theorem B0P (Y0:Int) (a_b:Option BL) (a_n:Nat) (b_kind:Int) (b_b:Option BL) (b_n:Nat) (ha:Y0 = 1→(ls a_b).length ≤ 1099511627776) (hb:b_kind = 1→(ls b_b).length ≤ 1099511627776) (h:H):W K 208 [.agg [ii Y0,bs a_b,.flt a_n],.agg [ii b_kind,bs b_b,.flt b_n]] h = some (.ret (.one (.bool (v0f ⟨Y0,a_b,a_n⟩ ⟨b_kind,b_b,b_n⟩ == 0))) h):=by
 have h1:=B0p Y0 a_b a_n b_kind b_b b_n ha hb
 have hown:A8 S.own 208 = false:=by kernel_rfl
 refine p5 hp (by simp [p7,c5,j9]) (c6 rfl rfl (by kernel_rfl) Tryz.func208 rfl (by simp [Tryz.f208]) ?_)
 simp only [Tryz.f208]
 refine hide ?_;intro Q23 hQ23
 repeat' (first
  | (replace hQ23:=hQ23;simp [h1,t7,p9,p6,c5,p0,hown])
  | refine hQ23 _ _ _ ?_)
theorem x0z (o:Row) (ho:(ls o).length < 1000000) (l0w:Bool) (i0n:Bool) (S3:BL) (N3:Int) (X4:Option BL) (V7:Nat) (hb:N3 = 1→(ls X4).length ≤ 1099511627776) (hok:(a0a o S3).1.kind = 1→(ls (a0a o S3).1.b).length ≤ 1099511627776) (h:H):W K 167 [.agg [sl 2 d9 o],.agg [.bool l0w,.bool i0n,.str S3,ii N3,bs X4,.flt V7]] h = some (.ret (.one (.bool (holds o ⟨l0w,i0n,S3,⟨N3,X4,V7⟩⟩))) h):=by
 have hn:=n0M o ho S3
 unfold holds
 generalize a0a o S3 = w at *
 obtain ⟨⟨k,b,x⟩,q⟩:=w
 have hs:=B0P k b x N3 X4 V7 hok hb
 simp only [W0] at hn
 generalize v0f ⟨k,b,x⟩ ⟨N3,X4,V7⟩ = R at *
 cases l0w
 ·have hown:A8 S.own 167 = false:=by kernel_rfl
  refine p5 hp (by simp [p7,c5,j9]) (c6 rfl rfl (by kernel_rfl) Tryz.func167 rfl (by simp [Tryz.f167]) ?_)
  simp only [Tryz.f167]
  refine hide ?_;intro Q24 hQ24
  repeat' (first
   | (replace hQ24:=hQ24;simp [t7,p9,p6,c5,p0,hown])
   | refine hQ24 _ _ _ ?_)
 ·cases i0n
  ·cases q
   ·have hown:A8 S.own 167 = false:=by kernel_rfl
    refine p5 hp (by simp [p7,c5,j9]) (c6 rfl rfl (by kernel_rfl) Tryz.func167 rfl (by simp [Tryz.f167]) ?_)
    simp only [Tryz.f167]
    refine hide ?_;intro Q25 hQ25
    repeat' (first
     | (replace hQ25:=hQ25;simp [hn,t7,p9,p6,c5,p0,hown])
     | refine hQ25 _ _ _ ?_)
   ·have hown:A8 S.own 167 = false:=by kernel_rfl
    refine p5 hp (by simp [p7,c5,j9]) (c6 rfl rfl (by kernel_rfl) Tryz.func167 rfl (by simp [Tryz.f167]) ?_)
    simp only [Tryz.f167]
    refine hide ?_;intro Q26 hQ26
    repeat' (first
     | (replace hQ26:=hQ26;simp [hn,t7,p9,p6,c5,p0,hown])
     | refine hQ26 _ _ _ ?_)
  ·cases q
   ·have hown:A8 S.own 167 = false:=by kernel_rfl
    refine p5 hp (by simp [p7,c5,j9]) (c6 rfl rfl (by kernel_rfl) Tryz.func167 rfl (by simp [Tryz.f167]) ?_)
    simp only [Tryz.f167]
    refine hide ?_;intro Q27 hQ27
    repeat' (first
     | (replace hQ27:=hQ27;simp [hn,t7,p9,p6,c5,p0,hown])
     | refine hQ27 _ _ _ ?_)
   ·have hown:A8 S.own 167 = false:=by kernel_rfl
    refine p5 hp (by simp [p7,c5,j9]) (c6 rfl rfl (by kernel_rfl) Tryz.func167 rfl (by simp [Tryz.f167]) ?_)
    simp only [Tryz.f167]
    refine hide ?_;intro Q28 hQ28
    repeat' (first
     | (replace hQ28:=hQ28;simp [hn,hs,t7,p9,p6,c5,p0,hown])
     | refine hQ28 _ _ _ ?_)
theorem D0G (o:Row) (ho:(ls o).length < 1000000) (B8:Int) (S3:BL) (U6:Int) (N3:Int) (X4:Option BL) (V7:Nat) (h:H):W K 209 [.agg [sl 2 d9 o],.agg [ii B8,.str S3,ii U6,ii N3,bs X4,.flt V7]] h = some (.ret (.tup [(true,F6 (a0N o ⟨B8,S3,U6,⟨N3,X4,V7⟩⟩).1),(false,[ii (a0N o ⟨B8,S3,U6,⟨N3,X4,V7⟩⟩).2])]) h):=by
 have h1:=p0D o ho S3 U6 N3 X4 V7
 have h2:=y0s o ho S3 U6
 have h3:=p0T o ho S3
 unfold a0N
 simp only [F6] at *
 by_cases c1:B8 = 1
 ·subst c1
  simp only [if_true]
  have hown:A8 S.own 209 = false:=by kernel_rfl
  refine p5 hp (by simp [p7,c5,j9]) (c6 rfl rfl (by kernel_rfl) Tryz.func209 rfl (by simp [Tryz.f209]) ?_)
  simp only [Tryz.f209]
  refine hide ?_;intro Q29 hQ29
  repeat' (first
   | (replace hQ29:=hQ29;simp [h1,t7,p9,p6,s7,J3,c5,p0,hown])
   | refine hQ29 _ _ _ ?_)
 ·have d1:(B8 == 1) = false:=by simp [c1]
  simp only [if_neg c1]
  by_cases c2:B8 = 2
  ·subst c2
   simp only [if_true]
   have hown:A8 S.own 209 = false:=by kernel_rfl
   refine p5 hp (by simp [p7,c5,j9]) (c6 rfl rfl (by kernel_rfl) Tryz.func209 rfl (by simp [Tryz.f209]) ?_)
   simp only [Tryz.f209]
   refine hide ?_;intro Q30 hQ30
   repeat' (first
    | (replace hQ30:=hQ30;simp [d1,h2,t7,p9,p6,s7,J3,c5,p0,hown])
    | refine hQ30 _ _ _ ?_)
  ·have d2:(B8 == 2) = false:=by simp [c2]
   simp only [if_neg c2]
   by_cases c3:B8 = 3
   ·subst c3
    simp only [if_true]
    have hown:A8 S.own 209 = false:=by kernel_rfl
    refine p5 hp (by simp [p7,c5,j9]) (c6 rfl rfl (by kernel_rfl) Tryz.func209 rfl (by simp [Tryz.f209]) ?_)
    simp only [Tryz.f209]
    refine hide ?_;intro Q31 hQ31
    repeat' (first
     | (replace hQ31:=hQ31;simp [d1,d2,h3,t7,p9,p6,s7,J3,c5,p0,hown])
     | refine hQ31 _ _ _ ?_)
   ·have d3:(B8 == 3) = false:=by simp [c3]
    simp only [if_neg c3]
    by_cases c4:B8 = 4
    ·subst c4
     simp only [if_true]
     have hsn:sl 2 d9 none = .nilslc:=rfl
     have hown:A8 S.own 209 = false:=by kernel_rfl
     refine p5 hp (by simp [p7,c5,j9]) (c6 rfl rfl (by kernel_rfl) Tryz.func209 rfl (by simp [Tryz.f209]) ?_)
     simp only [Tryz.f209]
     refine hide ?_;intro Q32 hQ32
     repeat' (first
      | (replace hQ32:=hQ32;simp [d1,d2,d3,hsn,t7,p9,p6,J3,c5,p0,hown])
      | refine hQ32 _ _ _ ?_)
    ·have d4:(B8 == 4) = false:=by simp [c4]
     simp only [if_neg c4]
     have hn:=n0M o ho S3
     generalize a0a o S3 = w at *
     obtain ⟨⟨k,b,x⟩,q⟩:=w
     simp only [W0] at hn
     have hsn:sl 2 d9 none = .nilslc:=rfl
     cases q with
     | false =>
      simp only [oqF,if_false]
      have hp1:=u0w 2 none 9223372036854775808 N3 X4 V7
      simp only [B7] at hp1
      generalize W8 ⟨2,none,9223372036854775808⟩ ⟨N3,X4,V7⟩ = w2 at *
      obtain ⟨⟨k2,b2,x2⟩,q2⟩:=w2
      simp only [W0] at hp1
      have h4:=p0D o ho S3 U6 k2 b2 x2
      simp only [F6] at h4
      by_cases hq:q2 = 0
      ·subst hq
       simp only [if_true]
       have hown:A8 S.own 209 = false:=by kernel_rfl
       refine p5 hp (by simp [p7,c5,j9]) (c6 rfl rfl (by kernel_rfl) Tryz.func209 rfl (by simp [Tryz.f209]) ?_)
       simp only [Tryz.f209]
       refine hide ?_;intro Q33 hQ33
       repeat' (first
        | (replace hQ33:=hQ33;simp [d1,d2,d3,d4,hn,u0n,hp1,h4,t7,p9,p6,s7,J3,c5,p0,hown])
        | refine hQ33 _ _ _ ?_)
      ·have hqb:(q2 != 0) = true:=by simp [hq]
       simp only [if_neg hq]
       have hown:A8 S.own 209 = false:=by kernel_rfl
       refine p5 hp (by simp [p7,c5,j9]) (c6 rfl rfl (by kernel_rfl) Tryz.func209 rfl (by simp [Tryz.f209]) ?_)
       simp only [Tryz.f209]
       refine hide ?_;intro Q34 hQ34
       repeat' (first
        | (replace hQ34:=hQ34;simp [d1,d2,d3,d4,hn,u0n,hp1,hqb,hsn,t7,p9,p6,J3,c5,p0,hown])
        | refine hQ34 _ _ _ ?_)
     | true =>
      simp only [if_true]
      have hp1:=u0w k b x N3 X4 V7
      generalize W8 ⟨k,b,x⟩ ⟨N3,X4,V7⟩ = w2 at *
      obtain ⟨⟨k2,b2,x2⟩,q2⟩:=w2
      simp only [W0] at hp1
      have h4:=p0D o ho S3 U6 k2 b2 x2
      simp only [F6] at h4
      by_cases hq:q2 = 0
      ·subst hq
       simp only [if_true]
       have hown:A8 S.own 209 = false:=by kernel_rfl
       refine p5 hp (by simp [p7,c5,j9]) (c6 rfl rfl (by kernel_rfl) Tryz.func209 rfl (by simp [Tryz.f209]) ?_)
       simp only [Tryz.f209]
       refine hide ?_;intro Q35 hQ35
       repeat' (first
        | (replace hQ35:=hQ35;simp [d1,d2,d3,d4,hn,hp1,h4,t7,p9,p6,s7,J3,c5,p0,hown])
        | refine hQ35 _ _ _ ?_)
      ·have hqb:(q2 != 0) = true:=by simp [hq]
       simp only [if_neg hq]
       have hown:A8 S.own 209 = false:=by kernel_rfl
       refine p5 hp (by simp [p7,c5,j9]) (c6 rfl rfl (by kernel_rfl) Tryz.func209 rfl (by simp [Tryz.f209]) ?_)
       simp only [Tryz.f209]
       refine hide ?_;intro Q36 hQ36
       repeat' (first
        | (replace hQ36:=hQ36;simp [d1,d2,d3,d4,hn,hp1,hqb,hsn,t7,p9,p6,J3,c5,p0,hown])
        | refine hQ36 _ _ _ ?_)
theorem d0h {o:Row} (h:S1 o = true):(ls o).length ≤ 4:=by simp only [S1,Bool.and_eq_true,decide_eq_true_eq] at h;exact h.2
theorem g0p (o:Row) (n:BL) (t:Int) (v:Wm.Value):rowCopy (Y8 o n t v).1 = (Y8 o n t v).1:=by
 unfold Y8
 split
 ·rfl
 ·dsimp only
  split
  ·rfl
  ·exact X3 _
theorem u0M (o:Row) (c:Change) (h:rowCopy o = o):rowCopy (a0N o c).1 = (a0N o c).1:=by
 unfold a0N
 split
 ·exact g0p _ _ _ _
 ·split
  ·unfold c0H
   dsimp only
   split
   ·exact X3 _
   ·split <;> exact X3 _
  ·split
   ·unfold a0k
    dsimp only
    split <;> exact X3 _
   ·split
    ·rfl
    ·dsimp only
     generalize W8 _ _ = p
     by_cases hp:p.2 = 0
     ·rw [if_pos hp];exact g0p _ _ _ _
     ·rw [if_neg hp];rfl
theorem w0A:∀ (l:List Change) (o:Row),rowCopy o = o→rowCopy (a0G o l).1 = (a0G o l).1
 | [],o,h=>h
 | c::l,o,h=>by
  unfold a0G
  dsimp only
  split
  ·exact w0A l _ (u0M o c h)
  ·rfl
theorem v0r (o:Row) (l:List Change):rowCopy (apply o l).1 = (apply o l).1:=by
 unfold apply
 split
 ·rfl
 ·cases l.find? (fun c=>F9 c != 0) with
  | some c=>rfl
  | none=>exact w0A l _ (X3 o)
theorem x0J (o:Row) (ho:(ls o).length < 1000000) (L:Option (List Change)) (h:H):W K 168 [.agg [sl 2 d9 o],.one (sl 6 l6 L)] h = some (.ret (.tup [(true,F6 (apply o (ls L)).1),(false,[ii (apply o (ls L)).2])]) h):=by
 have hcp:=f0H o ho
 obtain ⟨res,hres⟩:∃ res,apply o (ls L) = res:=⟨_,rfl⟩
 rw [hres]
 unfold apply at hres
 simp only [F6] at hcp ⊢
 have hsn:sl 2 d9 none = .nilslc:=rfl
 by_cases h8:8 < (ls L).length
 ·have d8:decide ((8:Int) < (ls L).length) = true:=by simp;omega
  rw [if_pos h8] at hres
  subst hres
  have hown:A8 S.own 168 = false:=by kernel_rfl
  refine p5 hp (by simp [p7,j9]) (c6 rfl rfl (by kernel_rfl) Tryz.func168 rfl (by simp [Tryz.f168]) ?_)
  simp only [Tryz.f168]
  refine hide ?_;intro Q37 hQ37
  repeat' (first
   | (replace hQ37:=hQ37;simp [h8,hsn,t7,p9,p6,J3,c5,p0,hown])
   | refine hQ37 _ _ _ ?_)
 ·rw [if_neg h8] at hres
  have hRb:=X3 o
  have hRl:(ls (rowCopy o)).length ≤ 4:=d0h (M7 o)
  have hown:A8 S.own 168 = false:=by kernel_rfl
  refine p5 hp (by simp [p7,j9]) (c6 rfl rfl (by kernel_rfl) Tryz.func168 rfl (by simp [Tryz.f168]) ?_)
  simp only [Tryz.f168]
  refine hide ?_;intro Q38 hQ38
  repeat' (first
   | (replace hQ38:=hQ38;simp [h8])
   | refine hQ38 _ _ _ ?_)
  refine F5 hp (ls L) (fun a r fr hh=>(2 ≤ hh.next∧hh.f 0 = some ⟨0,[1],true,[sl 2 d9 o]⟩∧hh.f 1 = some ⟨0,[1],true,[.nilslc]⟩∧(ls L).find? (fun c=>F9 c != 0) = r.find? (fun c=>F9 c != 0))∧∃ j:Nat→AV,fr = (j 0::(.one (sl 6 l6 L))::(.one (.ptr 0 0 0))::j 3::(.one (.ptr 1 0 0))::j 5::j 6::j 7::j 8::j 9::j 10::j 11::j 12::j 13::j 14::j 15::j 16::(.one (sl 6 l6 L))::(.one (ii (ls L).length))::(.one (ii a.length))::j 20::j 21::j 22::j 23::j 24::j 25::j 26::j 27::j 28::j 29::j 30::j 31::j 32::j 33::j 34::j 35::j 36::j 37::j 38::j 39::j 40::j 41::j 42::j 43::j 44::j 45::j 46::j 47::j 48::j 49::[])) ?_ ?_ _ _ ⟨⟨by simp,by simp,by simp,rfl⟩,s9 (by simp)⟩
  ·rintro a x r fr hh hl ⟨⟨i1,i0,i2,i3⟩,j,rfl⟩
   obtain rfl:=S7 hl
   have hi:=J8 (P:=Tryz.prog) (enc:=l6) (s:=6) (l:=a++x::r) (i:=a.length) Tryz.underlying33 (by simp) (by omega) (by simp)
   have hr:=I4 (enc:=l6) (s:=6) a0h a x r (o:=0) (n:=6) (by omega)
   rw [J2 (a0h x),Nat.add_zero] at hr
   have hlt2:a.length < (a++x::r).length:=by simp
   have hw:IntKind.i64.wrap ((a.length:Int) + 1) = ((a++[x]).length:Int):=by rw [M9];exact F0 (by simp at h8;omega)
   have hne:¬ 1 = hh.next:=by omega
   have hne0:¬ 0 = hh.next:=by omega
   obtain ⟨xk,xc,xt,⟨vk,vb,vn⟩⟩:=x
   have hcr:=g0b xk xc xt vk vb vn
   simp only [l6] at hr
   by_cases hc:F9 ⟨xk,xc,xt,⟨vk,vb,vn⟩⟩ = 0
   ·have hi4:(ls (some (a++⟨xk,xc,xt,⟨vk,vb,vn⟩⟩::r))).find? (fun c=>F9 c != 0) = r.find? (fun c=>F9 c != 0):=by rw [i3];simp [hc]
    have hcb:(F9 ⟨xk,xc,xt,⟨vk,vb,vn⟩⟩ != 0) = false:=by simp [hc]
    rw [hc] at hcr
    generalize (a++(⟨xk,xc,xt,⟨vk,vb,vn⟩⟩:Change)::r) = l at *
    generalize (a++[(⟨xk,xc,xt,⟨vk,vb,vn⟩⟩:Change)]) = A2 at *
    first | (refine hide ?_;intro Q39 hQ39) | have hQ39:=True.intro
    repeat' (first
     | (replace hQ39:=hQ39;simp [hi,hr,hlt2,hcr,hw])
     | (refine hQ39 _ _ _ ?_;clear hQ39 Q39;first | simp only [] | skip)
     | (refine D3 (by assumption) ?_;(try clear hQ39);first | simp only [] | skip)
     | ((fail_if_success replace hQ39:=hQ39);(first | refine hide ?_ | refine u6 ?_ | refine u7 ?_);intro Q39 hQ39))
    all_goals first | (refine ⟨⟨by simp;omega,by simp [hne0,i0],by simp [hne,i2],hi4⟩,s9 (by simp)⟩) | trace_state
   ·have hfx:f0M o (ls (some (a++⟨xk,xc,xt,⟨vk,vb,vn⟩⟩::r))) ((ls (some (a++⟨xk,xc,xt,⟨vk,vb,vn⟩⟩::r))).find? (fun c=>F9 c != 0)) = (none,F9 ⟨xk,xc,xt,⟨vk,vb,vn⟩⟩):=by
     rw [i3];simp [hc,f0M]
    rw [hfx] at hres
    subst hres
    have hcb:(F9 ⟨xk,xc,xt,⟨vk,vb,vn⟩⟩ != 0) = true:=by simp [hc]
    generalize F9 ⟨xk,xc,xt,⟨vk,vb,vn⟩⟩ = why at *
    generalize (a++(⟨xk,xc,xt,⟨vk,vb,vn⟩⟩:Change)::r) = l at *
    first | (refine hide ?_;intro Q40 hQ40) | have hQ40:=True.intro
    repeat' (first
     | (replace hQ40:=hQ40;simp [i2,hi,hr,hlt2,hne,hcr,hcb])
     | (refine hQ40 _ _ _ ?_;clear hQ40 Q40;first | simp only [] | skip)
     | (refine D3 (by assumption) ?_;(try clear hQ40);first | simp only [] | skip)
     | ((fail_if_success replace hQ40:=hQ40);(first | refine hide ?_ | refine u6 ?_ | refine u7 ?_);intro Q40 hQ40))
    all_goals (simp [hsn,t7,p9,p6,J3,c5,p0,hown])
  ·rintro fr hh ⟨⟨i1,i0,i2,i3⟩,j,rfl⟩
   rw [i3] at hres
   simp only [List.find?_nil,f0M] at hres
   generalize hRR:rowCopy o = R0 at *
   have hne:¬ 1 = hh.next:=by omega
   first | (refine hide ?_;intro Q41 hQ41) | have hQ41:=True.intro
   repeat' (first
    | (replace hQ41:=hQ41;simp [i0,hcp])
    | (refine hQ41 _ _ _ ?_;clear hQ41 Q41;first | simp only [] | skip)
    | (refine D3 (by assumption) ?_;(try clear hQ41);first | simp only [] | skip)
    | ((fail_if_success replace hQ41:=hQ41);(first | refine hide ?_ | refine u6 ?_ | refine u7 ?_);intro Q41 hQ41))
   refine F5 hp (ls L) (fun a r fr h2=>(hh.next < h2.next∧h2.f 1 = some ⟨0,[1],true,[.nilslc]⟩∧∃ R:Row,h2.f hh.next = some ⟨0,[1],true,[sl 2 d9 R]⟩∧rowCopy R = R∧a0G R r = res)∧∃ j:Nat→AV,fr = (j 0::j 1::j 2::j 3::(.one (.ptr 1 0 0))::j 5::j 6::j 7::j 8::(.one (.ptr hh.next 0 0))::j 10::j 11::j 12::j 13::j 14::j 15::j 16::j 17::j 18::j 19::j 20::j 21::j 22::j 23::j 24::j 25::j 26::j 27::j 28::j 29::j 30::j 31::(.one (sl 6 l6 L))::(.one (ii (ls L).length))::(.one (ii a.length))::j 35::j 36::j 37::j 38::j 39::j 40::j 41::j 42::j 43::j 44::j 45::j 46::j 47::j 48::j 49::[])) ?_ ?_ _ _ ⟨⟨by simp,by simp [hne,i2],R0,by simp,hRb,hres⟩,s9 (by simp)⟩
   ·rintro a x r fr h2 hl ⟨⟨k1,k2,R,k3,k4,k5⟩,j,rfl⟩
    obtain rfl:=S7 hl
    have hi:=J8 (P:=Tryz.prog) (enc:=l6) (s:=6) (l:=a++x::r) (i:=a.length) Tryz.underlying33 (by simp) (by omega) (by simp)
    have hr:=I4 (enc:=l6) (s:=6) a0h a x r (o:=0) (n:=6) (by omega)
    rw [J2 (a0h x),Nat.add_zero] at hr
    have hlt2:a.length < (a++x::r).length:=by simp
    have hw:IntKind.i64.wrap ((a.length:Int) + 1) = ((a++[x]).length:Int):=by rw [M9];exact F0 (by simp at h8;omega)
    have hne1:¬ 1 = h2.next:=by omega
    have hne2:¬ hh.next = h2.next:=by omega
    have hne3:¬ 1 = hh.next:=hne
    have hRl:(ls R).length < 1000000:=by rw [← k4];have:=d0h (M7 R);omega
    obtain ⟨xk,xc,xt,⟨vk,vb,vn⟩⟩:=x
    have hone:=D0G R hRl xk xc xt vk vb vn
    have hok1:=u0M R ⟨xk,xc,xt,⟨vk,vb,vn⟩⟩ k4
    unfold a0G at k5
    dsimp only at k5
    simp only [l6,F6] at hr hone
    generalize a0N R ⟨xk,xc,xt,⟨vk,vb,vn⟩⟩ = w at *
    obtain ⟨R2,q2⟩:=w
    simp only at k5 hone hok1
    by_cases hq:q2 = 0
    ·rw [if_pos hq] at k5
     subst hq
     generalize (a++(⟨xk,xc,xt,⟨vk,vb,vn⟩⟩:Change)::r) = l at *
     generalize (a++[(⟨xk,xc,xt,⟨vk,vb,vn⟩⟩:Change)]) = A2 at *
     first | (refine hide ?_;intro Q42 hQ42) | have hQ42:=True.intro
     repeat' (first
      | (replace hQ42:=hQ42;simp [k3,hi,hr,hlt2,hne2,hone,hw])
      | (refine hQ42 _ _ _ ?_;clear hQ42 Q42;first | simp only [] | skip)
      | (refine D3 (by assumption) ?_;(try clear hQ42);first | simp only [] | skip)
      | ((fail_if_success replace hQ42:=hQ42);(first | refine hide ?_ | refine u6 ?_ | refine u7 ?_);intro Q42 hQ42))
     all_goals first | (refine ⟨⟨by simp;omega,by simp [hne1,hne3,k2],R2,by simp,hok1,k5⟩,s9 (by simp)⟩) | trace_state
    ·rw [if_neg hq] at k5
     subst k5
     have hqb:(q2 != 0) = true:=by simp [hq]
     generalize (a++(⟨xk,xc,xt,⟨vk,vb,vn⟩⟩:Change)::r) = l at *
     first | (refine hide ?_;intro Q43 hQ43) | have hQ43:=True.intro
     repeat' (first
      | (replace hQ43:=hQ43;simp [k2,k3,hi,hr,hlt2,hne1,hne2,hne3,hone,hqb])
      | (refine hQ43 _ _ _ ?_;clear hQ43 Q43;first | simp only [] | skip)
      | (refine D3 (by assumption) ?_;(try clear hQ43);first | simp only [] | skip)
      | ((fail_if_success replace hQ43:=hQ43);(first | refine hide ?_ | refine u6 ?_ | refine u7 ?_);intro Q43 hQ43))
     all_goals (simp [hsn,t7,p9,p6,J3,c5,p0,hown])
   ·rintro fr h2 ⟨⟨k1,k2,R,k3,k4,k5⟩,j,rfl⟩
    have k5':(R,(0:Int)) = res:=k5
    subst k5'
    first | (refine hide ?_;intro Q44 hQ44) | have hQ44:=True.intro
    repeat' (first
     | (replace hQ44:=hQ44;simp [k2,k3])
     | (refine hQ44 _ _ _ ?_;clear hQ44 Q44;first | simp only [] | skip)
     | (refine D3 (by assumption) ?_;(try clear hQ44);first | simp only [] | skip)
     | ((fail_if_success replace hQ44:=hQ44);(first | refine hide ?_ | refine u6 ?_ | refine u7 ?_);intro Q44 hQ44))
    all_goals (simp [t7,p9,p6,s7,J3,c5,p0,hown])
end Go.Proofs.YtiagcnfmgigllaaGreat
