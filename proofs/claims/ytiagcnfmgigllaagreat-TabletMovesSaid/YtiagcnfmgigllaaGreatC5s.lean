/- A part of a proof over the abstract machine. No conditions. -/
import Derived.Test.YtiagcnfmgigllaaGreatC1
import Derived.Test.YtiagcnfmgigllaaGreatRw6
set_option linter.all false
namespace Go.Proofs.YtiagcnfmgigllaaGreat
open Go Go.Ab Wm NumPlain Go.Proofs.Tryz
set_option maxRecDepth 10000
set_option maxHeartbeats 4000000
theorem r0P (h:H):W K 55 [] h = some (.ret (.one (.ptr h.next 0 0)) (h.new ⟨0,[1],true,[.nilslc]⟩)):=by
 refine A9 hp rfl rfl rfl func55 rfl (by simp [Tryz.f55]) ?_
 simp only [Tryz.f55]
 refine c7 ?_;intro Q1 hQ1
 repeat' (first
  | (replace hQ1:=hQ1;simp)
  | refine hQ1 _ _ _ ?_)
theorem f0C (o:Option BL) (ho:(ls o).length ≤ 1099511627776):Fun K 102 [.one (bs o)] (fun h=>.ret (.one (bs o)) h):=by
 cases o with
 | none =>
  simp only [C4]
  have hown:A8 S.own 102 = false:=by kernel_rfl
  refine ⟨by simp [s7,c5],fun hh=>c6 rfl rfl (by kernel_rfl) func102 rfl (by simp [Tryz.f102]) ?_⟩
  simp only [Tryz.f102]
  refine c7 ?_;intro Q2 hQ2
  repeat' (first
   | (replace hQ2:=hQ2;simp [bin,f0O,a0c,u6,u5,p9,c5,l5,hown])
   | refine hQ2 _ _ _ ?_)
 | some l =>
  rw [T6]
  by_cases h0:l = []
  ·subst h0
   have hown:A8 S.own 102 = false:=by kernel_rfl
   refine ⟨by simp [s7,c5,l0],fun hh=>c6 rfl rfl (by kernel_rfl) func102 rfl (by simp [Tryz.f102]) ?_⟩
   simp only [Tryz.f102]
   refine c7 ?_;intro Q3 hQ3
   repeat' (first
    | (replace hQ3:=hQ3;simp [bin,f0O,a0c,S5,J3,P5,B8,sub,J6,u6,u5,p9,l5,hown])
    | refine hQ3 _ _ _ ?_)
  ·have h1:l.length ≠ 0:=by simpa using h0
   have h3:l0 true (l.map C9) = true:=by
    clear h0 h1 ho
    induction l with
    | nil=>rfl
    | cons a l ih=>simp [l0,C9,c5] at ih ⊢;exact ih
   have h2:¬ (17592186044416 < l.length + 600 + l.length):=by simp at ho;omega
   have ht:(l.map C9).take l.length = l.map C9:=List.take_of_length_le (by simp)
   have h4:l0 false (l.map C9) = true:=by have:=h0y (some l);rw [T6] at this;simpa [c5] using this
   have h5:(l.map C9).mapM (p9 true ((H.empty.new ⟨0,[0],true,[]⟩).new ⟨0,[l.length],false,l.map C9⟩) 63) = some (l.map C9):=b0p (n:=62) (by assumption)
   have hown:A8 S.own 102 = false:=by kernel_rfl
   refine ⟨by simp [s7,h4,c5],fun hh=>c6 rfl rfl (by kernel_rfl) func102 rfl (by simp [Tryz.f102]) ?_⟩
   simp only [Tryz.f102]
   refine c7 ?_;intro Q4 hQ4
   repeat' (first
    | (replace hQ4:=hQ4;simp [bin,f0O,a0c,S5,J3,P5,B8,sub,J6,h0,h2,h5,ht,u6,u5,p9,l5,hown])
    | refine hQ4 _ _ _ ?_)
   all_goals trace_state
theorem g0w {h:H} {n:Nat}:∀ {l:List AS},l0 false l = true→(∀ a ∈ l,(∀ f x c,a ≠ .fn f x c)∧∀ t v,a ≠ .ifc t v)→l.mapM (J8 h (n + 1)) = some l
 | [],_,_=>rfl
 | a::l,hp,hn=>by
  simp only [l0,oqd] at hp
  have h1:=hn a (by simp)
  simp only [List.mapM_cons,d0j hp.1 h1.1 h1.2,g0w hp.2 (fun b hb=>hn b (by simp [hb])),oqE,oqS,oqP]
theorem k0R (l:BL):l0 false (l.map C9) = true:=by have:=h0y (some l);rw [T6] at this;simpa [c5] using this
theorem p0m (l:BL):∀ a ∈ l.map C9,(∀ f x c,a ≠ .fn f x c)∧∀ t v,a ≠ .ifc t v:=by
 intro a ha
 obtain ⟨b,_,rfl⟩:=List.mem_map.1 ha
 exact ⟨fun _ _ _ h=>(by cases h),fun _ _ h=>(by cases h)⟩
theorem p0P {h:H} {s:AS} {l:BL} (hs:Sees h 1 s (l.map C9)):∃ o:Option BL,ls o = l∧(s = bs o ∨ c5 false s = false)∧J8 h 64 s = some (bs o):=by
 cases s <;> simp only [Sees] at hs
 ·refine ⟨none, ?_,.inl rfl,rfl⟩
  simpa using hs.symm
 ·rename_i b v o n s' c
  obtain ⟨rfl,hr⟩:=hs
  have hn:n = l.length:=by have:=l0y hr;simpa using this.symm
  subst hn
  refine ⟨some l,rfl,.inr rfl, ?_⟩
  rw [T6]
  simp only [J8,hr,oqE,oqS,g0w (n:=62) (k0R l) (p0m l)]
 ·rename_i n s' q
  obtain ⟨rfl,rfl,hl⟩:=hs
  have hn:n = l.length:=by simpa using hl.symm
  subst hn
  refine ⟨some l,rfl,.inl (T6 l).symm, ?_⟩
  rw [T6]
  simp only [J8,c5,k0R,Bool.not_false,Bool.true_or,Bool.and_self,if_true]
theorem w0d {h:H} {s:AS} {l:BL} (hs:Sees h 1 s (l.map C9)) (hl:l.length ≤ 1099511627776):∃ o:Option BL,ls o = l∧W K 102 [.one s] h = some (.ret (.one (bs o)) h):=by
 obtain ⟨o,h1,h2,h3⟩:=p0P hs
 refine ⟨o,h1, ?_⟩
 rcases h2 with rfl | h2
 ·exact (f0C o (by rw [h1];exact hl)).pure hp h
 ·refine (f0C o (by rw [h1];exact hl)).view hp ?_
  unfold a0W
  rw [if_neg (by simp [s7,h2])]
  simp [c0o,h3]
theorem x0h {h:H} {p:Nat} {q:Option Nat} {l:BL} (w:Wr h p q l) (hl:l.length ≤ 1099511627776):∃ o,ls o = l∧W K 59 [.one (.ptr p 0 0)] h = some (.ret (.one (bs o)) h):=by
 obtain ⟨_,s,_,_,hf,ho⟩:=w
 obtain ⟨o,h1,h2⟩:=w0d ho.sees hl
 refine ⟨o,h1, ?_⟩
 refine A9 hp rfl rfl rfl func59 rfl (by simp [Tryz.f59]) ?_
 simp only [Tryz.f59]
 refine c7 ?_;intro Q1 hQ1
 repeat' (first
  | (replace hQ1:=hQ1;simp [hf,h2])
  | refine hQ1 _ _ _ ?_)
theorem A0a {α:Type} {o:Option (List α)} {l:List α} (h:ls o = l) (hl:l ≠ []):o = some l:=by
 cases o with
 | none=>exact absurd h.symm hl
 | some x=>simp only [H1] at h;rw [h]
theorem n0p {h0 h:H} {q0:Option Nat} {p:Nat} {l:BL} {kept:List (Nat × Blk)} (ws:WS h0 q0 h p l kept) (hl:l.length ≤ 1099511627776) (hne:l ≠ []):W K 59 [.one (.ptr p 0 0)] h = some (.ret (.one (bs (some l))) h):=by
 obtain ⟨q,w,_⟩:=ws
 obtain ⟨o,h1,h2⟩:=x0h w hl
 rw [h2,A0a h1 hne]
theorem C0m (h:H) (kept:List (Nat × Blk)) (hk:F6 h kept) (hl:∀ e ∈ kept,e.1 < h.next):WS (h.new ⟨0,[1],true,[.nilslc]⟩) none (h.new ⟨0,[1],true,[.nilslc]⟩) h.next [] kept:=by
 refine ⟨none,⟨by simp,.nilslc,rfl,by simp,by simp,rfl⟩,Only.refl _ _ _,S2 (fun e he=>?_) hk,fun e he=>⟨?_, ?_,by simp⟩⟩
 ·rw [K9,if_neg (by have:=hl e he;omega)]
 ·have:=hl e he;simp;omega
 ·have:=hl e he;omega
theorem G0p {f:Nat} (hq:K.prim f = some (viaP (W Rw.K) f)) {args:List AV} {h:H} {r r':CR} (hw:W Rw.K f args h = some r) (hr:iceR true h r = some r'):W K f args h = some r':=by
 rw [j0D hp hq];simp only [viaP,hw,oqS,hr]
theorem p0Y {f:Nat} (hq:K.prim f = some (viaP (W Rw.K) f)) {args:List AV} {h:H} {v:AV} (hw:W Rw.K f args h = some (.ret v h)) (hv:a0J v = true):W K f args h = some (.ret v h):=G0p hq hw (b0N (b0g h) hv)
theorem f0A (o:Row) (ho:(ls o).length < 1000000) (h:H):W K 166 [.agg [sl 2 j9 o]] h = some (.ret (.agg (D6 (rowCopy o))) h):=by
 obtain ⟨r,e,hr⟩:=Rw.copy_c (Rw.row_sees h o) ho
 obtain ⟨v,h',rfl,s',rs',rfl,w,hn,hf⟩:=hr.ret
 refine G0p rfl e (f0B ⟨hn,hf⟩ ?_)
 have:=w.frz (h:=h) (oqg _) 61
 simp only [u5,List.mapM_cons,List.mapM_nil,this,oqE,oqS,oqP,D6]
theorem n0L (o:Row) (ho:(ls o).length < 1000000) (h:H):W K 172 [.agg [sl 2 j9 o]] h = some (.ret (.one (.bool (P3 o))) h):=p0Y rfl ((Rw.right_g o ho).pure Rw.hp h) rfl
theorem u0C {h:H} {s:AS} {rs:List RC} {o:Row} (w:Rw.RowSees h s rs o) (ho:(ls o).length < 1000000):W K 172 [.agg [s]] h = some (.ret (.one (.bool (P3 o))) h):=p0Y rfl (Rw.right_s w ho (oqg _) fun _ _=>rfl) rfl
theorem z0h (o:Row) (n:BL) (hr:P3 o = true) (h:H):W K 254 [.agg [sl 2 j9 o],.one (.str n)] h = some (.ret (.tup [(false,[ii (L6 (ls o) n)]),(false,[.bool (Z3 (ls o) n)])]) h):=p0Y rfl ((Rw.find_g o n hr).pure Rw.hp h) rfl
theorem j0Y (o:Row):l0 false (D6 o) = true:=by simp [D6,l0]
theorem q0X (o:Row) (ho:(ls o).length < 1000000) (n:BL) (t:Int) (B7:Int) (v_b:Option BL) (v_n:Nat) (h:H) :
  W K 238 [.agg [sl 2 j9 o],.one (.str n),.one (ii t),.agg [ii B7,bs v_b,.flt v_n]] h = some (.ret (.tup [(true,D6 (S8 o n t ⟨B7,v_b,v_n⟩).1),(false,[ii (S8 o n t ⟨B7,v_b,v_n⟩).2])]) h) :=
 p0Y rfl (Rw.put_c o ho n t B7 v_b v_n h) (by simp [a0J,j0Y,l0,c5])
theorem x0W (o:Row) (ho:(ls o).length < 1000000) (n:BL) (t:Int) (h:H):W K 239 [.agg [sl 2 j9 o],.one (.str n),.one (ii t)] h = some (.ret (.agg (D6 (a0T o n t))) h) :=
 p0Y rfl (Rw.drop_c o ho n t h) (by simp [a0J,j0Y])
theorem q0A (o:Row) (ho:(ls o).length < 1000000) (n:BL) (h:H):W K 240 [.agg [sl 2 j9 o],.one (.str n)] h = some (.ret (.agg (D6 (V0 o n))) h) :=
 p0Y rfl (Rw.dropCol_c o ho n h) (by simp [a0J,j0Y])
theorem k0W (o:Option BL) (ho:(ls o).length ≤ 1099511627776) (h:H):W K 102 [.one (bs o)] h = some (.ret (.one (bs o)) h):=(f0C o ho).pure hp h
theorem o0t (B7:Int) (v_b:Option BL) (v_n:Nat) (hb:B7 = 1→(ls v_b).length ≤ 1099511627776) (h:H):W K 206 [.agg [ii B7,bs v_b,.flt v_n]] h = some (.ret (.agg (V3 (J4 ⟨B7,v_b,v_n⟩))) h):=by
 by_cases h1:B7 = 1
 ·have hc:=k0W v_b (hb h1)
  subst h1
  have hown:A8 S.own 206 = false:=by kernel_rfl
  refine p7 hp (by simp [s7,c5,l0]) (c6 rfl rfl (by kernel_rfl) func206 rfl (by simp [Tryz.f206]) ?_)
  simp only [Tryz.f206]
  refine c7 ?_;intro Q1 hQ1
  repeat' (first
   | (replace hQ1:=hQ1;simp [hc])
   | (refine hQ1 _ _ _ ?_;clear hQ1 Q1;first | simp only [] | simp [J4,V3,u6,u5,p9,s8,c5,l5,hown]))
  all_goals first | done | (simp_all [-List.isEmpty_iff,-List.isEmpty_eq_false_iff,← List.isEmpty_iff];done) | (simp_all;done) | (simp_all;omega) | (simp;omega) | (intros;omega) | (intros;simp only [oqj] at *;omega) | (intros;simp at *;omega) | skip
 ·by_cases h2:B7 = 2
  ·subst h2
   have hown:A8 S.own 206 = false:=by kernel_rfl
   refine p7 hp (by simp [s7,c5,l0]) (c6 rfl rfl (by kernel_rfl) func206 rfl (by simp [Tryz.f206]) ?_)
   simp only [Tryz.f206]
   refine c7 ?_;intro Q2 hQ2
   repeat' (first
    | (replace hQ2:=hQ2;simp [f0L])
    | (refine hQ2 _ _ _ ?_;clear hQ2 Q2;first | simp only [] | simp [J4,V3,C4,u6,u5,p9,c5,l5,hown]))
   all_goals first | done | (simp_all [-List.isEmpty_iff,-List.isEmpty_eq_false_iff,← List.isEmpty_iff];done) | (simp_all;done) | (simp_all;omega) | (simp;omega) | (intros;omega) | (intros;simp only [oqj] at *;omega) | (intros;simp at *;omega) | skip
  ·have e1:J4 ⟨B7,v_b,v_n⟩ = ⟨0,none,0⟩:=by simp [J4,h1,h2]
   have b1:(B7 == 1) = false:=by simp [h1]
   have b2:(B7 == 2) = false:=by simp [h2]
   rw [e1]
   have hown:A8 S.own 206 = false:=by kernel_rfl
   refine p7 hp (by simp [s7,c5,l0]) (c6 rfl rfl (by kernel_rfl) func206 rfl (by simp [Tryz.f206]) ?_)
   simp only [Tryz.f206]
   refine c7 ?_;intro Q3 hQ3
   repeat' (first
    | (replace hQ3:=hQ3;simp [b1,b2])
    | (refine hQ3 _ _ _ ?_;clear hQ3 Q3;first | simp only [] | simp [V3,C4,u6,u5,p9,c5,l5,hown]))
   all_goals first | done | (simp_all [-List.isEmpty_iff,-List.isEmpty_eq_false_iff,← List.isEmpty_iff];done) | (simp_all;done) | (simp_all;omega) | (simp;omega) | (intros;omega) | (intros;simp only [oqj] at *;omega) | (intros;simp at *;omega) | skip
theorem H0L (o:Row) (ho:(ls o).length < 1000000) (n:BL) (t:Int) (h:H):W K 236 [.agg [sl 2 j9 o],.one (.str n),.one (ii t)] h = some (.ret (.tup [(true,V3 (f0d o n t).1),(false,[.bool (f0d o n t).2])]) h):=by
 have hcp:=f0A o ho
 have hrB:=L5 o
 have hf:=z0h (rowCopy o) n hrB
 obtain ⟨res,hres⟩:∃ res,f0d o n t = res:=⟨_,rfl⟩
 rw [hres]
 unfold f0d at hres
 dsimp only at hres
 have hallO:(ls (rowCopy o)).all a0t = true:=by simp only [P3,oqd] at hrB;exact hrB.1.1
 simp only [D6] at hcp
 generalize rowCopy o = O at *
 cases hTb:Z3 (ls O) n with
 | false =>
  rw [hTb] at hres hf
  rw [if_pos rfl] at hres
  subst hres
  have hown:A8 S.own 236 = false:=by kernel_rfl
  refine p7 hp (by simp [s7,c5,l0]) (c6 rfl rfl (by kernel_rfl) func236 rfl (by simp [Tryz.f236]) ?_)
  simp only [Tryz.f236]
  refine c7 ?_;intro Q4 hQ4
  repeat' (first
   | (replace hQ4:=hQ4;simp [hcp,hf,zV,V3,C4,u6,u5,p9,H8,c5,l5,hown])
   | refine hQ4 _ _ _ ?_)
 | true =>
  rw [hTb] at hres hf
  rw [if_neg (by simp)] at hres
  obtain ⟨hI3,hn3⟩:=Rw.at_inv hTb
  generalize hI:L6 (ls O) n = I at *
  rw [List.getElem?_eq_getElem hI3] at hres
  simp only [oqS] at hres
  obtain ⟨l,rfl⟩:∃ l,O = some l:=by cases O with | none=>simp at hI3 | some l=>exact ⟨l,rfl⟩
  simp only [H1] at *
  have hix:=I4 (P:=prog) (enc:=j9) (s:=2) (l:=l) (i:=I) underlying79 (by simp) (by omega) hI3
  obtain ⟨hcl2,_,_⟩:=Rw.colB_inv (oqn.1 hallO _ (List.getElem_mem hI3))
  have hsub:sub (cat j9 l) (I * 2 + 1) 1 = some [sl 4 c9 l[I].l]:=by rw [C0a N6 l hI3 (by omega)];rfl
  have hcl3:(ls l[I].l).length ≤ 2:=hcl2
  clear hcl2
  generalize l[I].l = vl at *
  have hown:A8 S.own 236 = false:=by kernel_rfl
  refine p7 hp (by simp [s7,c5,l0]) (c6 rfl rfl (by kernel_rfl) func236 rfl (by simp [Tryz.f236]) ?_)
  simp only [Tryz.f236]
  refine c7 ?_;intro Q5 hQ5
  repeat' (first
   | (replace hQ5:=hQ5;simp [hcp,hf,hix,hsub])
   | refine hQ5 _ _ _ ?_)
  refine D5 hp (ls vl) (fun a r fr hh=>(2 ≤ hh.next∧hh.f 1 = some ⟨0,[3],true,V3 zV⟩∧(ls vl).find? (fun x=>decide (x.time ≤ t)) = r.find? (fun x=>decide (x.time ≤ t)))∧∃ j:Nat→AV,fr = (j 0::j 1::(.one (ii t))::j 3::j 4::j 5::(.one (.ptr 1 0 0))::j 7::j 8::j 9::j 10::j 11::j 12::j 13::j 14::j 15::j 16::j 17::j 18::j 19::j 20::j 21::j 22::j 23::j 24::j 25::j 26::j 27::j 28::(.one (sl 4 c9 vl))::(.one (ii (ls vl).length))::(.one (ii a.length))::j 32::j 33::j 34::j 35::j 36::j 37::j 38::j 39::j 40::j 41::j 42::[])) ?_ ?_ _ _ ⟨⟨by simp,by simp [V3,zV,C4],rfl⟩,s9 (by simp)⟩
  ·rintro a x r fr hh hl ⟨⟨i1,i2,i3⟩,j,rfl⟩
   obtain rfl:=O9 hl
   have hi:=I4 (P:=prog) (enc:=c9) (s:=4) (l:=a++x::r) (i:=a.length) underlying89 (by simp) (by omega) (by simp)
   have hr:=F3 (enc:=c9) (s:=4) C3 a x r (o:=0) (n:=4) (by omega)
   rw [I8 (C3 x),Nat.add_zero] at hr
   have hlt2:a.length < (a++x::r).length:=by simp
   have hw:IntKind.i64.wrap ((a.length:Int) + 1) = ((a++[x]).length:Int):=by rw [J9];exact D3 (by simp at hcl3;omega)
   have hne:¬ 1 = hh.next:=by omega
   obtain ⟨xt,⟨xk,xb,xn⟩⟩:=x
   simp only [c9,V3,zV,C4] at hr i2
   by_cases hc:xt ≤ t
   ·have hfx:g0W ((ls (some (a++⟨xt,⟨xk,xb,xn⟩⟩::r))).find? (fun x=>decide (x.time ≤ t))) = ((⟨xk,xb,xn⟩:Wm.Value),true):=by rw [i3];simp [hc,g0W]
    rw [hfx] at hres
    subst hres
    generalize (a++(⟨xt,⟨xk,xb,xn⟩⟩:Version)::r) = L at *
    first | (refine c7 ?_;intro Q6 hQ6) | have hQ6:=oqk
    repeat' (first
     | (replace hQ6:=hQ6;simp [i2,hi,hr,hlt2,hne,hc])
     | (refine hQ6 _ _ _ ?_;clear hQ6 Q6;first | simp only [] | skip)
     | (refine C5 (by assumption) ?_;(try clear hQ6);first | simp only [] | skip)
     | ((fail_if_success replace hQ6:=hQ6);(first | refine c7 ?_ | refine y5 ?_ | refine y3 ?_);intro Q6 hQ6))
    all_goals (simp [V3,u6,u5,p9,s8,H8,c5,l5,hown])
   ·have hi4:(r).find? (fun x=>decide (x.time ≤ t)) = (ls (some (a++⟨xt,⟨xk,xb,xn⟩⟩::r))).find? (fun x=>decide (x.time ≤ t)):=by rw [i3];simp [hc]
    generalize (a++(⟨xt,⟨xk,xb,xn⟩⟩:Version)::r) = L at *
    generalize (a++[(⟨xt,⟨xk,xb,xn⟩⟩:Version)]) = A2 at *
    first | (refine c7 ?_;intro Q7 hQ7) | have hQ7:=oqk
    repeat' (first
     | (replace hQ7:=hQ7;simp [hi,hr,hlt2,hc,hw])
     | (refine hQ7 _ _ _ ?_;clear hQ7 Q7;first | simp only [] | skip)
     | (refine C5 (by assumption) ?_;(try clear hQ7);first | simp only [] | skip)
     | ((fail_if_success replace hQ7:=hQ7);(first | refine c7 ?_ | refine y5 ?_ | refine y3 ?_);intro Q7 hQ7))
    all_goals first | (refine ⟨⟨by simp;omega,by simp [hne,i2,V3,zV,C4],hi4.symm⟩,s9 (by simp)⟩) | trace_state
  ·rintro fr hh ⟨⟨i1,i2,i3⟩,j,rfl⟩
   rw [i3] at hres
   simp only [List.find?_nil,g0W] at hres
   subst hres
   simp only [V3,zV,C4] at i2
   first | (refine c7 ?_;intro Q8 hQ8) | have hQ8:=oqk
   repeat' (first
    | (replace hQ8:=hQ8;simp [i2])
    | (refine hQ8 _ _ _ ?_;clear hQ8 Q8;first | simp only [] | skip)
    | (refine C5 (by assumption) ?_;(try clear hQ8);first | simp only [] | skip)
    | ((fail_if_success replace hQ8:=hQ8);(first | refine c7 ?_ | refine y5 ?_ | refine y3 ?_);intro Q8 hQ8))
   all_goals (simp [V3,zV,C4,u6,u5,p9,H8,c5,l5,hown])
theorem n0P (o:Row) (ho:(ls o).length < 1000000) (n:BL) (h:H):W K 207 [.agg [sl 2 j9 o],.one (.str n)] h = some (.ret (.tup [(true,V3 (M4 o n).1),(false,[.bool (M4 o n).2])]) h):=by
 have hx:=H0L o ho n 1099511627776
 unfold M4
 generalize f0d o n 1099511627776 = w at *
 obtain ⟨⟨k,b,x⟩,q⟩:=w
 simp only [V3] at *
 have hown:A8 S.own 207 = false:=by kernel_rfl
 refine p7 hp (by simp [s7,c5,l0]) (c6 rfl rfl (by kernel_rfl) func207 rfl (by simp [Tryz.f207]) ?_)
 simp only [Tryz.f207]
 refine c7 ?_;intro Q1 hQ1
 repeat' (first
  | (replace hQ1:=hQ1;simp [hx,u6,u5,p9,s8,H8,c5,l5,hown])
  | refine hQ1 _ _ _ ?_)
theorem x0k (h:H):W K 235 [.one .nan] h = some (.ret (.one (.flt 9221120237041090561)) h):=by
 have hn:∀ h,W K 253 [.one .nan] h = some (.ret (.one (.bool true)) h):=by
  intro h
  have hown:A8 S.own 253 = false:=by kernel_rfl
  refine p7 hp (by simp [s7,c5]) (c6 rfl rfl (by kernel_rfl) func253 rfl (by simp [Tryz.f253]) ?_)
  simp only [Tryz.f253]
  refine c7 ?_;intro Q2 hQ2
  repeat' (first
   | (replace hQ2:=hQ2;simp [u6,u5,p9,c5,l5,hown])
   | refine hQ2 _ _ _ ?_)
 have hown:A8 S.own 235 = false:=by kernel_rfl
 refine p7 hp (by simp [s7,c5]) (c6 rfl rfl (by kernel_rfl) func235 rfl (by simp [Tryz.f235]) ?_)
 simp only [Tryz.f235]
 refine c7 ?_;intro Q3 hQ3
 repeat' (first
  | (replace hQ3:=hQ3;simp [hn,W6,u6,u5,p9,c5,l5,hown])
  | refine hQ3 _ _ _ ?_)
theorem F0N (a b:Nat) (h:H):W K 263 [.one (.flt a),.one (.flt b)] h = some (.ret (.one (.flt (t0I a b))) h):=by
 unfold t0I
 cases hs:(FloatKind.format .f64).add a b with
 | none =>
  have hs2:Ieee.double.add a b = none:=hs
  have hown:A8 S.own 263 = false:=by kernel_rfl
  refine p7 hp (by simp [s7,c5]) (c6 rfl rfl (by kernel_rfl) func263 rfl (by simp [Tryz.f263]) ?_)
  simp only [Tryz.f263]
  refine c7 ?_;intro Q4 hQ4
  repeat' (first
   | (replace hQ4:=hQ4;simp [c0H,q0W,hs2,x0k,u6,u5,p9,c5,l5,hown])
   | refine hQ4 _ _ _ ?_)
 | some r =>
  have hc:=f0L r
  have hs2:Ieee.double.add a b = some r:=hs
  have hown:A8 S.own 263 = false:=by kernel_rfl
  refine p7 hp (by simp [s7,c5]) (c6 rfl rfl (by kernel_rfl) func263 rfl (by simp [Tryz.f263]) ?_)
  simp only [Tryz.f263]
  refine c7 ?_;intro Q5 hQ5
  repeat' (first
   | (replace hQ5:=hQ5;simp [c0H,q0W,hs2,hc,u6,u5,p9,c5,l5,hown])
   | refine hQ5 _ _ _ ?_)
theorem v0m (X3:Int) (a_b:Option BL) (a_n:Nat) (b_kind:Int) (b_b:Option BL) (b_n:Nat) (h:H):W K 241 [.agg [ii X3,bs a_b,.flt a_n],.agg [ii b_kind,bs b_b,.flt b_n]] h = some (.ret (.tup [(true,V3 (N8 ⟨X3,a_b,a_n⟩ ⟨b_kind,b_b,b_n⟩).1),(false,[ii (N8 ⟨X3,a_b,a_n⟩ ⟨b_kind,b_b,b_n⟩).2])]) h):=by
 have hs:=F0N a_n b_n
 by_cases h1:X3 = 2
 ·by_cases h2:b_kind = 2
  ·have e:N8 ⟨X3,a_b,a_n⟩ ⟨b_kind,b_b,b_n⟩ = (⟨2,none,t0I a_n b_n⟩,0):=by simp [N8,h1,h2]
   rw [e];subst h1 h2
   have hown:A8 S.own 241 = false:=by kernel_rfl
   refine p7 hp (by simp [s7,c5,l0]) (c6 rfl rfl (by kernel_rfl) func241 rfl (by simp [Tryz.f241]) ?_)
   simp only [Tryz.f241]
   refine c7 ?_;intro Q6 hQ6
   repeat' (first
    | (replace hQ6:=hQ6;simp [hs,V3,C4,u6,u5,p9,H8,c5,l5,hown])
    | refine hQ6 _ _ _ ?_)
  ·have e:N8 ⟨X3,a_b,a_n⟩ ⟨b_kind,b_b,b_n⟩ = (zV,24):=by simp [N8,h2]
   have b2:(b_kind == 2) = false:=by simp [h2]
   have b3:(b_kind != 2) = true:=by simp [h2]
   rw [e];subst h1
   have hown:A8 S.own 241 = false:=by kernel_rfl
   refine p7 hp (by simp [s7,c5,l0]) (c6 rfl rfl (by kernel_rfl) func241 rfl (by simp [Tryz.f241]) ?_)
   simp only [Tryz.f241]
   refine c7 ?_;intro Q7 hQ7
   repeat' (first
    | (replace hQ7:=hQ7;simp [b3,V3,zV,C4,u6,u5,p9,H8,c5,l5,hown])
    | refine hQ7 _ _ _ ?_)
 ·have e:N8 ⟨X3,a_b,a_n⟩ ⟨b_kind,b_b,b_n⟩ = (zV,24):=by simp [N8,h1]
  have b2:(X3 == 2) = false:=by simp [h1]
  have b3:(X3 != 2) = true:=by simp [h1]
  rw [e]
  have hown:A8 S.own 241 = false:=by kernel_rfl
  refine p7 hp (by simp [s7,c5,l0]) (c6 rfl rfl (by kernel_rfl) func241 rfl (by simp [Tryz.f241]) ?_)
  simp only [Tryz.f241]
  refine c7 ?_;intro Q8 hQ8
  repeat' (first
   | (replace hQ8:=hQ8;simp [b3,V3,zV,C4,u6,u5,p9,H8,c5,l5,hown])
   | refine hQ8 _ _ _ ?_)
theorem z0V (x:Nat) (h:H):W K 269 [.one (.flt x)] h = some (.ret (.one (.int .u64 (o0o x))) h):=by
 have hb:=f0M x
 unfold o0o
 by_cases h1:l0g .u64 (b0n x) 9223372036854775808 = 0
 ·have b1:(l0g .u64 (b0n x) 9223372036854775808 != 0) = false:=by simp [h1]
  rw [if_pos h1]
  have hown:A8 S.own 269 = false:=by kernel_rfl
  refine p7 hp (by simp [s7,c5]) (c6 rfl rfl (by kernel_rfl) func269 rfl (by simp [Tryz.f269]) ?_)
  simp only [Tryz.f269]
  refine c7 ?_;intro Q9 hQ9
  repeat' (first
   | (replace hQ9:=hQ9;simp [hb,h1,u6,u5,p9,c5,l5,hown])
   | refine hQ9 _ _ _ ?_)
 ·have b1:(l0g .u64 (b0n x) 9223372036854775808 != 0) = true:=by simp [h1]
  rw [if_neg h1]
  have hown:A8 S.own 269 = false:=by kernel_rfl
  refine p7 hp (by simp [s7,c5]) (c6 rfl rfl (by kernel_rfl) func269 rfl (by simp [Tryz.f269]) ?_)
  simp only [Tryz.f269]
  refine c7 ?_;intro Q10 hQ10
  repeat' (first
   | (replace hQ10:=hQ10;simp [hb,b1,u6,u5,p9,c5,l5,hown])
   | refine hQ10 _ _ _ ?_)
theorem A0V (a b:Nat) (h:H):W K 256 [.one (.flt a),.one (.flt b)] h = some (.ret (.one (ii (B0f a b))) h):=by
 have h1:=z0V a
 have h2:=z0V b
 unfold B0f
 generalize o0o a = x at *
 generalize o0o b = y at *
 by_cases c1:x < y
 ·have d1:decide (x < y) = true:=by simp [c1]
  rw [if_pos c1]
  have hown:A8 S.own 256 = false:=by kernel_rfl
  refine p7 hp (by simp [s7,c5]) (c6 rfl rfl (by kernel_rfl) func256 rfl (by simp [Tryz.f256]) ?_)
  simp only [Tryz.f256]
  refine c7 ?_;intro Q11 hQ11
  repeat' (first
   | (replace hQ11:=hQ11;simp [h1,h2,c1,u6,u5,p9,c5,l5,hown])
   | refine hQ11 _ _ _ ?_)
 ·have d1:decide (x < y) = false:=by simp [c1]
  rw [if_neg c1]
  by_cases c2:y < x
  ·have d2:decide (y < x) = true:=by simp [c2]
   rw [if_pos c2]
   have hown:A8 S.own 256 = false:=by kernel_rfl
   refine p7 hp (by simp [s7,c5]) (c6 rfl rfl (by kernel_rfl) func256 rfl (by simp [Tryz.f256]) ?_)
   simp only [Tryz.f256]
   refine c7 ?_;intro Q12 hQ12
   repeat' (first
    | (replace hQ12:=hQ12;simp [h1,h2,c1,c2,u6,u5,p9,c5,l5,hown])
    | refine hQ12 _ _ _ ?_)
  ·have d2:decide (y < x) = false:=by simp [c2]
   rw [if_neg c2]
   have hown:A8 S.own 256 = false:=by kernel_rfl
   refine p7 hp (by simp [s7,c5]) (c6 rfl rfl (by kernel_rfl) func256 rfl (by simp [Tryz.f256]) ?_)
   simp only [Tryz.f256]
   refine c7 ?_;intro Q13 hQ13
   repeat' (first
    | (replace hQ13:=hQ13;simp [h1,h2,c1,c2,u6,u5,p9,c5,l5,hown])
    | refine hQ13 _ _ _ ?_)
theorem w0o (a b:Int) (h:H):W K 163 [.one (ii a),.one (ii b)] h = some (.ret (.one (ii (k0E a b))) h):=by
 have hn:∀ a h,W K 203 [.one (ii a)] h = some (.ret (.one (.bool false)) h):=by
  intro a h
  have he:(a != a) = false:=by simp
  have hown:A8 S.own 203 = false:=by kernel_rfl
  refine p7 hp (by simp [s7,c5]) (c6 rfl rfl (by kernel_rfl) func203 rfl (by simp [Tryz.f203]) ?_)
  simp only [Tryz.f203]
  refine c7 ?_;intro Q14 hQ14
  repeat' (first
   | (replace hQ14:=hQ14;simp [he])
   | (refine hQ14 _ _ _ ?_;clear hQ14 Q14;first | simp only [] | simp [u6,u5,p9,c5,l5,hown]))
  all_goals first | done | (simp_all [-List.isEmpty_iff,-List.isEmpty_eq_false_iff,← List.isEmpty_iff];done) | (simp_all;done) | (simp_all;omega) | (simp;omega) | (intros;omega) | (intros;simp only [oqj] at *;omega) | (intros;simp at *;omega) | skip
 unfold k0E
 by_cases c1:a < b
 ·have d1:decide (a < b) = true:=by simp [c1]
  rw [if_pos c1]
  have hown:A8 S.own 163 = false:=by kernel_rfl
  refine p7 hp (by simp [s7,c5]) (c6 rfl rfl (by kernel_rfl) func163 rfl (by simp [Tryz.f163]) ?_)
  simp only [Tryz.f163]
  refine c7 ?_;intro Q15 hQ15
  repeat' (first
   | (replace hQ15:=hQ15;simp [hn,c1,u6,u5,p9,c5,l5,hown])
   | refine hQ15 _ _ _ ?_)
 ·have d1:decide (a < b) = false:=by simp [c1]
  rw [if_neg c1]
  by_cases c2:b < a
  ·have d2:decide (b < a) = true:=by simp [c2]
   rw [if_pos c2]
   have hown:A8 S.own 163 = false:=by kernel_rfl
   refine p7 hp (by simp [s7,c5]) (c6 rfl rfl (by kernel_rfl) func163 rfl (by simp [Tryz.f163]) ?_)
   simp only [Tryz.f163]
   refine c7 ?_;intro Q16 hQ16
   repeat' (first
    | (replace hQ16:=hQ16;simp [hn,c1,c2,u6,u5,p9,c5,l5,hown])
    | refine hQ16 _ _ _ ?_)
  ·have d2:decide (b < a) = false:=by simp [c2]
   rw [if_neg c2]
   have hown:A8 S.own 163 = false:=by kernel_rfl
   refine p7 hp (by simp [s7,c5]) (c6 rfl rfl (by kernel_rfl) func163 rfl (by simp [Tryz.f163]) ?_)
   simp only [Tryz.f163]
   refine c7 ?_;intro Q17 hQ17
   repeat' (first
    | (replace hQ17:=hQ17;simp [hn,c1,c2,u6,u5,p9,c5,l5,hown])
    | refine hQ17 _ _ _ ?_)
theorem f0i (l:BL):bytesOf (l.map C9) = some l:=by
 induction l with
 | nil=>rfl
 | cons a l ih =>
  have h1:(0:Int) ≤ (a.toNat:Int)∧(a.toNat:Int) < 256:=⟨by omega,by have:=a.toNat_lt;omega⟩
  simp only [List.map_cons,C9,bytesOf] at ih ⊢
  rw [if_pos h1]
  simp only [ih,oqE,oqS,Int.toNat_natCast,UInt8.ofNat_toNat]
theorem A0S (x y:Option BL) (h:H):W K 255 [.one (bs x),.one (bs y)] h = some (.ret (.one (ii (X6 (ls x) (ls y)))) h):=by
 have e:∀ h,W K 268 [.one (bs x),.one (bs y)] h = some (.ret (.one (ii (X6 (ls x) (ls y)))) h):=by
  intro h
  rw [m0g hp rfl rfl]
  have hl:∀ o:Option BL,P5 (bs o) = some (ls o).length:=fun o=>r0k 1 _ o
  simp only [s0A,hl,p0k,f0i,oqE,oqS]
 have hown:A8 S.own 255 = false:=by kernel_rfl
 refine p7 hp (by simp [s7]) (c6 rfl rfl (by kernel_rfl) func255 rfl (by simp [Tryz.f255]) ?_)
 simp only [Tryz.f255]
 refine c7 ?_;intro Q18 hQ18
 repeat' (first
  | (replace hQ18:=hQ18;simp [e,u6,u5,p9,c5,l5,hown])
  | refine hQ18 _ _ _ ?_)
theorem B0v (X3:Int) (a_b:Option BL) (a_n:Nat) (b_kind:Int) (b_b:Option BL) (b_n:Nat) (ha:X3 = 1→(ls a_b).length ≤ 1099511627776) (hb:b_kind = 1→(ls b_b).length ≤ 1099511627776) (h:H):W K 237 [.agg [ii X3,bs a_b,.flt a_n],.agg [ii b_kind,bs b_b,.flt b_n]] h = some (.ret (.one (ii (o0y ⟨X3,a_b,a_n⟩ ⟨b_kind,b_b,b_n⟩))) h):=by
 have h1:=o0t X3 a_b a_n ha
 have h2:=o0t b_kind b_b b_n hb
 unfold o0y
 dsimp only
 generalize J4 ⟨X3,a_b,a_n⟩ = x at *
 generalize J4 ⟨b_kind,b_b,b_n⟩ = y at *
 obtain ⟨xk,xb,xn⟩:=x
 obtain ⟨yk,yb,yn⟩:=y
 simp only [V3] at h1 h2
 have hbc:=A0S xb yb
 have hfc:=A0V xn yn
 have hic:=w0o xk yk
 by_cases c1:xk = yk
 ·subst c1
  rw [if_neg (by simp)]
  have d1:(xk != xk) = false:=by simp
  by_cases c2:xk = 1
  ·subst c2
   rw [if_pos rfl]
   have hown:A8 S.own 237 = false:=by kernel_rfl
   refine p7 hp (by simp [s7,c5,l0]) (c6 rfl rfl (by kernel_rfl) func237 rfl (by simp [Tryz.f237]) ?_)
   simp only [Tryz.f237]
   refine c7 ?_;intro Q19 hQ19
   repeat' (first
    | (replace hQ19:=hQ19;simp [h1,h2,hbc,u6,u5,p9,c5,l5,hown])
    | refine hQ19 _ _ _ ?_
    | refine dF (id:=1) [0,1,2,3,4,5] [(1,2)] ?_)
  ·have d2:(xk == 1) = false:=by simp [c2]
   rw [if_neg c2]
   by_cases c3:xk = 2
   ·subst c3
    rw [if_pos rfl]
    have hown:A8 S.own 237 = false:=by kernel_rfl
    refine p7 hp (by simp [s7,c5,l0]) (c6 rfl rfl (by kernel_rfl) func237 rfl (by simp [Tryz.f237]) ?_)
    simp only [Tryz.f237]
    refine c7 ?_;intro Q20 hQ20
    repeat' (first
     | (replace hQ20:=hQ20;simp [h1,h2,d2,hfc,u6,u5,p9,c5,l5,hown])
     | refine hQ20 _ _ _ ?_
     | refine dF (id:=1) [0,1,2,3,4,5] [(1,2)] ?_)
   ·have d3:(xk == 2) = false:=by simp [c3]
    rw [if_neg c3]
    have hown:A8 S.own 237 = false:=by kernel_rfl
    refine p7 hp (by simp [s7,c5,l0]) (c6 rfl rfl (by kernel_rfl) func237 rfl (by simp [Tryz.f237]) ?_)
    simp only [Tryz.f237]
    refine c7 ?_;intro Q21 hQ21
    repeat' (first
     | (replace hQ21:=hQ21;simp [h1,h2,d2,d3,u6,u5,p9,c5,l5,hown])
     | refine hQ21 _ _ _ ?_
     | refine dF (id:=1) [0,1,2,3,4,5] [(1,2)] ?_)
 ·have d1:(xk != yk) = true:=by simp [c1]
  rw [if_pos c1]
  have hown:A8 S.own 237 = false:=by kernel_rfl
  refine p7 hp (by simp [s7,c5,l0]) (c6 rfl rfl (by kernel_rfl) func237 rfl (by simp [Tryz.f237]) ?_)
  simp only [Tryz.f237]
  refine c7 ?_;intro Q22 hQ22
  repeat' (first
   | (replace hQ22:=hQ22;simp [h1,h2,d1,hic,u6,u5,p9,c5,l5,hown])
   | refine hQ22 _ _ _ ?_
   | refine dF (id:=1) [0,1,2,3,4,5] [(1,2)] ?_)
theorem B0X (X3:Int) (a_b:Option BL) (a_n:Nat) (b_kind:Int) (b_b:Option BL) (b_n:Nat) (ha:X3 = 1→(ls a_b).length ≤ 1099511627776) (hb:b_kind = 1→(ls b_b).length ≤ 1099511627776) (h:H):W K 208 [.agg [ii X3,bs a_b,.flt a_n],.agg [ii b_kind,bs b_b,.flt b_n]] h = some (.ret (.one (.bool (o0y ⟨X3,a_b,a_n⟩ ⟨b_kind,b_b,b_n⟩ == 0))) h):=by
 have h1:=B0v X3 a_b a_n b_kind b_b b_n ha hb
 have hown:A8 S.own 208 = false:=by kernel_rfl
 refine p7 hp (by simp [s7,c5,l0]) (c6 rfl rfl (by kernel_rfl) func208 rfl (by simp [Tryz.f208]) ?_)
 simp only [Tryz.f208]
 refine c7 ?_;intro Q23 hQ23
 repeat' (first
  | (replace hQ23:=hQ23;simp [h1,u6,u5,p9,c5,l5,hown])
  | refine hQ23 _ _ _ ?_)
theorem z0r (o:Row) (ho:(ls o).length < 1000000) (m0i:Bool) (h0E:Bool) (P6:BL) (M2:Int) (W4:Option BL) (U9:Nat) (hb:M2 = 1→(ls W4).length ≤ 1099511627776) (hok:(M4 o P6).1.kind = 1→(ls (M4 o P6).1.b).length ≤ 1099511627776) (h:H):W K 167 [.agg [sl 2 j9 o],.agg [.bool m0i,.bool h0E,.str P6,ii M2,bs W4,.flt U9]] h = some (.ret (.one (.bool (holds o ⟨m0i,h0E,P6,⟨M2,W4,U9⟩⟩))) h):=by
 have hn:=n0P o ho P6
 unfold holds
 generalize M4 o P6 = w at *
 obtain ⟨⟨k,b,x⟩,q⟩:=w
 have hs:=B0X k b x M2 W4 U9 hok hb
 simp only [V3] at hn
 generalize o0y ⟨k,b,x⟩ ⟨M2,W4,U9⟩ = R at *
 cases m0i
 ·have hown:A8 S.own 167 = false:=by kernel_rfl
  refine p7 hp (by simp [s7,c5,l0]) (c6 rfl rfl (by kernel_rfl) func167 rfl (by simp [Tryz.f167]) ?_)
  simp only [Tryz.f167]
  refine c7 ?_;intro Q24 hQ24
  repeat' (first
   | (replace hQ24:=hQ24;simp [u6,u5,p9,c5,l5,hown])
   | refine hQ24 _ _ _ ?_)
 ·cases h0E
  ·cases q
   ·have hown:A8 S.own 167 = false:=by kernel_rfl
    refine p7 hp (by simp [s7,c5,l0]) (c6 rfl rfl (by kernel_rfl) func167 rfl (by simp [Tryz.f167]) ?_)
    simp only [Tryz.f167]
    refine c7 ?_;intro Q25 hQ25
    repeat' (first
     | (replace hQ25:=hQ25;simp [hn,u6,u5,p9,c5,l5,hown])
     | refine hQ25 _ _ _ ?_)
   ·have hown:A8 S.own 167 = false:=by kernel_rfl
    refine p7 hp (by simp [s7,c5,l0]) (c6 rfl rfl (by kernel_rfl) func167 rfl (by simp [Tryz.f167]) ?_)
    simp only [Tryz.f167]
    refine c7 ?_;intro Q26 hQ26
    repeat' (first
     | (replace hQ26:=hQ26;simp [hn,u6,u5,p9,c5,l5,hown])
     | refine hQ26 _ _ _ ?_)
  ·cases q
   ·have hown:A8 S.own 167 = false:=by kernel_rfl
    refine p7 hp (by simp [s7,c5,l0]) (c6 rfl rfl (by kernel_rfl) func167 rfl (by simp [Tryz.f167]) ?_)
    simp only [Tryz.f167]
    refine c7 ?_;intro Q27 hQ27
    repeat' (first
     | (replace hQ27:=hQ27;simp [hn,u6,u5,p9,c5,l5,hown])
     | refine hQ27 _ _ _ ?_)
   ·have hown:A8 S.own 167 = false:=by kernel_rfl
    refine p7 hp (by simp [s7,c5,l0]) (c6 rfl rfl (by kernel_rfl) func167 rfl (by simp [Tryz.f167]) ?_)
    simp only [Tryz.f167]
    refine c7 ?_;intro Q28 hQ28
    repeat' (first
     | (replace hQ28:=hQ28;simp [hn,hs,u6,u5,p9,c5,l5,hown])
     | refine hQ28 _ _ _ ?_)
theorem G0q (o:Row) (ho:(ls o).length < 1000000) (B6:Int) (P6:BL) (S7:Int) (M2:Int) (W4:Option BL) (U9:Nat) (h:H):W K 209 [.agg [sl 2 j9 o],.agg [ii B6,.str P6,ii S7,ii M2,bs W4,.flt U9]] h = some (.ret (.tup [(true,D6 (W8 o ⟨B6,P6,S7,⟨M2,W4,U9⟩⟩).1),(false,[ii (W8 o ⟨B6,P6,S7,⟨M2,W4,U9⟩⟩).2])]) h):=by
 have h1:=q0X o ho P6 S7 M2 W4 U9
 have h2:=x0W o ho P6 S7
 have h3:=q0A o ho P6
 unfold W8
 simp only [D6] at *
 by_cases c1:B6 = 1
 ·subst c1
  simp only [if_true]
  have hown:A8 S.own 209 = false:=by kernel_rfl
  refine p7 hp (by simp [s7,c5,l0]) (c6 rfl rfl (by kernel_rfl) func209 rfl (by simp [Tryz.f209]) ?_)
  simp only [Tryz.f209]
  refine c7 ?_;intro Q29 hQ29
  repeat' (first
   | (replace hQ29:=hQ29;simp [h1,u6,u5,p9,s8,H8,c5,l5,hown])
   | refine hQ29 _ _ _ ?_)
 ·have d1:(B6 == 1) = false:=by simp [c1]
  simp only [if_neg c1]
  by_cases c2:B6 = 2
  ·subst c2
   simp only [if_true]
   have hown:A8 S.own 209 = false:=by kernel_rfl
   refine p7 hp (by simp [s7,c5,l0]) (c6 rfl rfl (by kernel_rfl) func209 rfl (by simp [Tryz.f209]) ?_)
   simp only [Tryz.f209]
   refine c7 ?_;intro Q30 hQ30
   repeat' (first
    | (replace hQ30:=hQ30;simp [d1,h2,u6,u5,p9,s8,H8,c5,l5,hown])
    | refine hQ30 _ _ _ ?_)
  ·have d2:(B6 == 2) = false:=by simp [c2]
   simp only [if_neg c2]
   by_cases c3:B6 = 3
   ·subst c3
    simp only [if_true]
    have hown:A8 S.own 209 = false:=by kernel_rfl
    refine p7 hp (by simp [s7,c5,l0]) (c6 rfl rfl (by kernel_rfl) func209 rfl (by simp [Tryz.f209]) ?_)
    simp only [Tryz.f209]
    refine c7 ?_;intro Q31 hQ31
    repeat' (first
     | (replace hQ31:=hQ31;simp [d1,d2,h3,u6,u5,p9,s8,H8,c5,l5,hown])
     | refine hQ31 _ _ _ ?_)
   ·have d3:(B6 == 3) = false:=by simp [c3]
    simp only [if_neg c3]
    by_cases c4:B6 = 4
    ·subst c4
     simp only [if_true]
     have hsn:sl 2 j9 none = .nilslc:=rfl
     have hown:A8 S.own 209 = false:=by kernel_rfl
     refine p7 hp (by simp [s7,c5,l0]) (c6 rfl rfl (by kernel_rfl) func209 rfl (by simp [Tryz.f209]) ?_)
     simp only [Tryz.f209]
     refine c7 ?_;intro Q32 hQ32
     repeat' (first
      | (replace hQ32:=hQ32;simp [d1,d2,d3,hsn,u6,u5,p9,H8,c5,l5,hown])
      | refine hQ32 _ _ _ ?_)
    ·have d4:(B6 == 4) = false:=by simp [c4]
     simp only [if_neg c4]
     have hn:=n0P o ho P6
     generalize M4 o P6 = w at *
     obtain ⟨⟨k,b,x⟩,q⟩:=w
     simp only [V3] at hn
     have hsn:sl 2 j9 none = .nilslc:=rfl
     cases q with
     | false =>
      simp only [oqF,if_false]
      have hp1:=v0m 2 none 9223372036854775808 M2 W4 U9
      simp only [C4] at hp1
      generalize N8 ⟨2,none,9223372036854775808⟩ ⟨M2,W4,U9⟩ = w2 at *
      obtain ⟨⟨k2,b2,x2⟩,q2⟩:=w2
      simp only [V3] at hp1
      have h4:=q0X o ho P6 S7 k2 b2 x2
      simp only [D6] at h4
      by_cases hq:q2 = 0
      ·subst hq
       simp only [if_true]
       have hown:A8 S.own 209 = false:=by kernel_rfl
       refine p7 hp (by simp [s7,c5,l0]) (c6 rfl rfl (by kernel_rfl) func209 rfl (by simp [Tryz.f209]) ?_)
       simp only [Tryz.f209]
       refine c7 ?_;intro Q33 hQ33
       repeat' (first
        | (replace hQ33:=hQ33;simp [d1,d2,d3,d4,hn,u0t,hp1,h4,u6,u5,p9,s8,H8,c5,l5,hown])
        | refine hQ33 _ _ _ ?_)
      ·have hqb:(q2 != 0) = true:=by simp [hq]
       simp only [if_neg hq]
       have hown:A8 S.own 209 = false:=by kernel_rfl
       refine p7 hp (by simp [s7,c5,l0]) (c6 rfl rfl (by kernel_rfl) func209 rfl (by simp [Tryz.f209]) ?_)
       simp only [Tryz.f209]
       refine c7 ?_;intro Q34 hQ34
       repeat' (first
        | (replace hQ34:=hQ34;simp [d1,d2,d3,d4,hn,u0t,hp1,hqb,hsn,u6,u5,p9,H8,c5,l5,hown])
        | refine hQ34 _ _ _ ?_)
     | true =>
      simp only [if_true]
      have hp1:=v0m k b x M2 W4 U9
      generalize N8 ⟨k,b,x⟩ ⟨M2,W4,U9⟩ = w2 at *
      obtain ⟨⟨k2,b2,x2⟩,q2⟩:=w2
      simp only [V3] at hp1
      have h4:=q0X o ho P6 S7 k2 b2 x2
      simp only [D6] at h4
      by_cases hq:q2 = 0
      ·subst hq
       simp only [if_true]
       have hown:A8 S.own 209 = false:=by kernel_rfl
       refine p7 hp (by simp [s7,c5,l0]) (c6 rfl rfl (by kernel_rfl) func209 rfl (by simp [Tryz.f209]) ?_)
       simp only [Tryz.f209]
       refine c7 ?_;intro Q35 hQ35
       repeat' (first
        | (replace hQ35:=hQ35;simp [d1,d2,d3,d4,hn,hp1,h4,u6,u5,p9,s8,H8,c5,l5,hown])
        | refine hQ35 _ _ _ ?_)
      ·have hqb:(q2 != 0) = true:=by simp [hq]
       simp only [if_neg hq]
       have hown:A8 S.own 209 = false:=by kernel_rfl
       refine p7 hp (by simp [s7,c5,l0]) (c6 rfl rfl (by kernel_rfl) func209 rfl (by simp [Tryz.f209]) ?_)
       simp only [Tryz.f209]
       refine c7 ?_;intro Q36 hQ36
       repeat' (first
        | (replace hQ36:=hQ36;simp [d1,d2,d3,d4,hn,hp1,hqb,hsn,u6,u5,p9,H8,c5,l5,hown])
        | refine hQ36 _ _ _ ?_)
theorem b0T {o:Row} (h:P3 o = true):(ls o).length ≤ 4:=by simp only [P3,oqd,oqj] at h;exact h.2
theorem g0e (o:Row) (n:BL) (t:Int) (v:Wm.Value):rowCopy (S8 o n t v).1 = (S8 o n t v).1:=by
 unfold S8
 split
 ·rfl
 ·dsimp only
  split
  ·rfl
  ·exact Y2 _
theorem w0T (o:Row) (c:Change) (h:rowCopy o = o):rowCopy (W8 o c).1 = (W8 o c).1:=by
 unfold W8
 split
 ·exact g0e _ _ _ _
 ·split
  ·unfold a0T
   dsimp only
   split
   ·exact Y2 _
   ·split <;> exact Y2 _
  ·split
   ·unfold V0
    dsimp only
    split <;> exact Y2 _
   ·split
    ·rfl
    ·dsimp only
     generalize N8 _ _ = p
     by_cases hp:p.2 = 0
     ·rw [if_pos hp];exact g0e _ _ _ _
     ·rw [if_neg hp];rfl
theorem u0U:∀ (l:List Change) (o:Row),rowCopy o = o→rowCopy (W9 o l).1 = (W9 o l).1
 | [],o,h=>h
 | c::l,o,h=>by
  unfold W9
  dsimp only
  split
  ·exact u0U l _ (w0T o c h)
  ·rfl
theorem v0b (o:Row) (l:List Change):rowCopy (apply o l).1 = (apply o l).1:=by
 unfold apply
 split
 ·rfl
 ·cases l.find? (fun c=>F0 c != 0) with
  | some c=>rfl
  | none=>exact u0U l _ (Y2 o)
theorem x0P (o:Row) (ho:(ls o).length < 1000000) (L:Option (List Change)) (h:H):W K 168 [.agg [sl 2 j9 o],.one (sl 6 l7 L)] h = some (.ret (.tup [(true,D6 (apply o (ls L)).1),(false,[ii (apply o (ls L)).2])]) h):=by
 have hcp:=f0A o ho
 obtain ⟨res,hres⟩:∃ res,apply o (ls L) = res:=⟨_,rfl⟩
 rw [hres]
 unfold apply at hres
 simp only [D6] at hcp ⊢
 have hsn:sl 2 j9 none = .nilslc:=rfl
 by_cases h8:8 < (ls L).length
 ·have d8:decide ((8:Int) < (ls L).length) = true:=by simp;omega
  rw [if_pos h8] at hres
  subst hres
  have hown:A8 S.own 168 = false:=by kernel_rfl
  refine p7 hp (by simp [s7,l0]) (c6 rfl rfl (by kernel_rfl) func168 rfl (by simp [Tryz.f168]) ?_)
  simp only [Tryz.f168]
  refine c7 ?_;intro Q37 hQ37
  repeat' (first
   | (replace hQ37:=hQ37;simp [h8,hsn,u6,u5,p9,H8,c5,l5,hown])
   | refine hQ37 _ _ _ ?_)
 ·rw [if_neg h8] at hres
  have hRb:=Y2 o
  have hRl:(ls (rowCopy o)).length ≤ 4:=b0T (L5 o)
  have hown:A8 S.own 168 = false:=by kernel_rfl
  refine p7 hp (by simp [s7,l0]) (c6 rfl rfl (by kernel_rfl) func168 rfl (by simp [Tryz.f168]) ?_)
  simp only [Tryz.f168]
  refine c7 ?_;intro Q38 hQ38
  repeat' (first
   | (replace hQ38:=hQ38;simp [h8])
   | refine hQ38 _ _ _ ?_)
  refine D5 hp (ls L) (fun a r fr hh=>(2 ≤ hh.next∧hh.f 0 = some ⟨0,[1],true,[sl 2 j9 o]⟩∧hh.f 1 = some ⟨0,[1],true,[.nilslc]⟩∧(ls L).find? (fun c=>F0 c != 0) = r.find? (fun c=>F0 c != 0))∧∃ j:Nat→AV,fr = (j 0::(.one (sl 6 l7 L))::(.one (.ptr 0 0 0))::j 3::(.one (.ptr 1 0 0))::j 5::j 6::j 7::j 8::j 9::j 10::j 11::j 12::j 13::j 14::j 15::j 16::(.one (sl 6 l7 L))::(.one (ii (ls L).length))::(.one (ii a.length))::j 20::j 21::j 22::j 23::j 24::j 25::j 26::j 27::j 28::j 29::j 30::j 31::j 32::j 33::j 34::j 35::j 36::j 37::j 38::j 39::j 40::j 41::j 42::j 43::j 44::j 45::j 46::j 47::j 48::j 49::[])) ?_ ?_ _ _ ⟨⟨by simp,by simp,by simp,rfl⟩,s9 (by simp)⟩
  ·rintro a x r fr hh hl ⟨⟨i1,i0,i2,i3⟩,j,rfl⟩
   obtain rfl:=O9 hl
   have hi:=I4 (P:=prog) (enc:=l7) (s:=6) (l:=a++x::r) (i:=a.length) underlying33 (by simp) (by omega) (by simp)
   have hr:=F3 (enc:=l7) (s:=6) Z8 a x r (o:=0) (n:=6) (by omega)
   rw [I8 (Z8 x),Nat.add_zero] at hr
   have hlt2:a.length < (a++x::r).length:=by simp
   have hw:IntKind.i64.wrap ((a.length:Int) + 1) = ((a++[x]).length:Int):=by rw [J9];exact D3 (by simp at h8;omega)
   have hne:¬ 1 = hh.next:=by omega
   have hne0:¬ 0 = hh.next:=by omega
   obtain ⟨xk,xc,xt,⟨vk,vb,vn⟩⟩:=x
   have hcr:=f0Q xk xc xt vk vb vn
   simp only [l7] at hr
   by_cases hc:F0 ⟨xk,xc,xt,⟨vk,vb,vn⟩⟩ = 0
   ·have hi4:(ls (some (a++⟨xk,xc,xt,⟨vk,vb,vn⟩⟩::r))).find? (fun c=>F0 c != 0) = r.find? (fun c=>F0 c != 0):=by rw [i3];simp [hc]
    have hcb:(F0 ⟨xk,xc,xt,⟨vk,vb,vn⟩⟩ != 0) = false:=by simp [hc]
    rw [hc] at hcr
    generalize (a++(⟨xk,xc,xt,⟨vk,vb,vn⟩⟩:Change)::r) = l at *
    generalize (a++[(⟨xk,xc,xt,⟨vk,vb,vn⟩⟩:Change)]) = A2 at *
    first | (refine c7 ?_;intro Q39 hQ39) | have hQ39:=oqk
    repeat' (first
     | (replace hQ39:=hQ39;simp [hi,hr,hlt2,hcr,hw])
     | (refine hQ39 _ _ _ ?_;clear hQ39 Q39;first | simp only [] | skip)
     | (refine C5 (by assumption) ?_;(try clear hQ39);first | simp only [] | skip)
     | ((fail_if_success replace hQ39:=hQ39);(first | refine c7 ?_ | refine y5 ?_ | refine y3 ?_);intro Q39 hQ39))
    all_goals first | (refine ⟨⟨by simp;omega,by simp [hne0,i0],by simp [hne,i2],hi4⟩,s9 (by simp)⟩) | trace_state
   ·have hfx:f0w o (ls (some (a++⟨xk,xc,xt,⟨vk,vb,vn⟩⟩::r))) ((ls (some (a++⟨xk,xc,xt,⟨vk,vb,vn⟩⟩::r))).find? (fun c=>F0 c != 0)) = (none,F0 ⟨xk,xc,xt,⟨vk,vb,vn⟩⟩):=by
     rw [i3];simp [hc,f0w]
    rw [hfx] at hres
    subst hres
    have hcb:(F0 ⟨xk,xc,xt,⟨vk,vb,vn⟩⟩ != 0) = true:=by simp [hc]
    generalize F0 ⟨xk,xc,xt,⟨vk,vb,vn⟩⟩ = why at *
    generalize (a++(⟨xk,xc,xt,⟨vk,vb,vn⟩⟩:Change)::r) = l at *
    first | (refine c7 ?_;intro Q40 hQ40) | have hQ40:=oqk
    repeat' (first
     | (replace hQ40:=hQ40;simp [i2,hi,hr,hlt2,hne,hcr,hcb])
     | (refine hQ40 _ _ _ ?_;clear hQ40 Q40;first | simp only [] | skip)
     | (refine C5 (by assumption) ?_;(try clear hQ40);first | simp only [] | skip)
     | ((fail_if_success replace hQ40:=hQ40);(first | refine c7 ?_ | refine y5 ?_ | refine y3 ?_);intro Q40 hQ40))
    all_goals (simp [hsn,u6,u5,p9,H8,c5,l5,hown])
  ·rintro fr hh ⟨⟨i1,i0,i2,i3⟩,j,rfl⟩
   rw [i3] at hres
   simp only [List.find?_nil,f0w] at hres
   generalize hRR:rowCopy o = R0 at *
   have hne:¬ 1 = hh.next:=by omega
   first | (refine c7 ?_;intro Q41 hQ41) | have hQ41:=oqk
   repeat' (first
    | (replace hQ41:=hQ41;simp [i0,hcp])
    | (refine hQ41 _ _ _ ?_;clear hQ41 Q41;first | simp only [] | skip)
    | (refine C5 (by assumption) ?_;(try clear hQ41);first | simp only [] | skip)
    | ((fail_if_success replace hQ41:=hQ41);(first | refine c7 ?_ | refine y5 ?_ | refine y3 ?_);intro Q41 hQ41))
   refine D5 hp (ls L) (fun a r fr h2=>(hh.next < h2.next∧h2.f 1 = some ⟨0,[1],true,[.nilslc]⟩∧∃ R:Row,h2.f hh.next = some ⟨0,[1],true,[sl 2 j9 R]⟩∧rowCopy R = R∧W9 R r = res)∧∃ j:Nat→AV,fr = (j 0::j 1::j 2::j 3::(.one (.ptr 1 0 0))::j 5::j 6::j 7::j 8::(.one (.ptr hh.next 0 0))::j 10::j 11::j 12::j 13::j 14::j 15::j 16::j 17::j 18::j 19::j 20::j 21::j 22::j 23::j 24::j 25::j 26::j 27::j 28::j 29::j 30::j 31::(.one (sl 6 l7 L))::(.one (ii (ls L).length))::(.one (ii a.length))::j 35::j 36::j 37::j 38::j 39::j 40::j 41::j 42::j 43::j 44::j 45::j 46::j 47::j 48::j 49::[])) ?_ ?_ _ _ ⟨⟨by simp,by simp [hne,i2],R0,by simp,hRb,hres⟩,s9 (by simp)⟩
   ·rintro a x r fr h2 hl ⟨⟨k1,k2,R,k3,k4,k5⟩,j,rfl⟩
    obtain rfl:=O9 hl
    have hi:=I4 (P:=prog) (enc:=l7) (s:=6) (l:=a++x::r) (i:=a.length) underlying33 (by simp) (by omega) (by simp)
    have hr:=F3 (enc:=l7) (s:=6) Z8 a x r (o:=0) (n:=6) (by omega)
    rw [I8 (Z8 x),Nat.add_zero] at hr
    have hlt2:a.length < (a++x::r).length:=by simp
    have hw:IntKind.i64.wrap ((a.length:Int) + 1) = ((a++[x]).length:Int):=by rw [J9];exact D3 (by simp at h8;omega)
    have hne1:¬ 1 = h2.next:=by omega
    have hne2:¬ hh.next = h2.next:=by omega
    have hne3:¬ 1 = hh.next:=hne
    have hRl:(ls R).length < 1000000:=by rw [← k4];have:=b0T (L5 R);omega
    obtain ⟨xk,xc,xt,⟨vk,vb,vn⟩⟩:=x
    have hone:=G0q R hRl xk xc xt vk vb vn
    have hok1:=w0T R ⟨xk,xc,xt,⟨vk,vb,vn⟩⟩ k4
    unfold W9 at k5
    dsimp only at k5
    simp only [l7,D6] at hr hone
    generalize W8 R ⟨xk,xc,xt,⟨vk,vb,vn⟩⟩ = w at *
    obtain ⟨R2,q2⟩:=w
    simp only at k5 hone hok1
    by_cases hq:q2 = 0
    ·rw [if_pos hq] at k5
     subst hq
     generalize (a++(⟨xk,xc,xt,⟨vk,vb,vn⟩⟩:Change)::r) = l at *
     generalize (a++[(⟨xk,xc,xt,⟨vk,vb,vn⟩⟩:Change)]) = A2 at *
     first | (refine c7 ?_;intro Q42 hQ42) | have hQ42:=oqk
     repeat' (first
      | (replace hQ42:=hQ42;simp [k3,hi,hr,hlt2,hne2,hone,hw])
      | (refine hQ42 _ _ _ ?_;clear hQ42 Q42;first | simp only [] | skip)
      | (refine C5 (by assumption) ?_;(try clear hQ42);first | simp only [] | skip)
      | ((fail_if_success replace hQ42:=hQ42);(first | refine c7 ?_ | refine y5 ?_ | refine y3 ?_);intro Q42 hQ42))
     all_goals first | (refine ⟨⟨by simp;omega,by simp [hne1,hne3,k2],R2,by simp,hok1,k5⟩,s9 (by simp)⟩) | trace_state
    ·rw [if_neg hq] at k5
     subst k5
     have hqb:(q2 != 0) = true:=by simp [hq]
     generalize (a++(⟨xk,xc,xt,⟨vk,vb,vn⟩⟩:Change)::r) = l at *
     first | (refine c7 ?_;intro Q43 hQ43) | have hQ43:=oqk
     repeat' (first
      | (replace hQ43:=hQ43;simp [k2,k3,hi,hr,hlt2,hne1,hne2,hne3,hone,hqb])
      | (refine hQ43 _ _ _ ?_;clear hQ43 Q43;first | simp only [] | skip)
      | (refine C5 (by assumption) ?_;(try clear hQ43);first | simp only [] | skip)
      | ((fail_if_success replace hQ43:=hQ43);(first | refine c7 ?_ | refine y5 ?_ | refine y3 ?_);intro Q43 hQ43))
     all_goals (simp [hsn,u6,u5,p9,H8,c5,l5,hown])
   ·rintro fr h2 ⟨⟨k1,k2,R,k3,k4,k5⟩,j,rfl⟩
    have k5':(R,(0:Int)) = res:=k5
    subst k5'
    first | (refine c7 ?_;intro Q44 hQ44) | have hQ44:=oqk
    repeat' (first
     | (replace hQ44:=hQ44;simp [k2,k3])
     | (refine hQ44 _ _ _ ?_;clear hQ44 Q44;first | simp only [] | skip)
     | (refine C5 (by assumption) ?_;(try clear hQ44);first | simp only [] | skip)
     | ((fail_if_success replace hQ44:=hQ44);(first | refine c7 ?_ | refine y5 ?_ | refine y3 ?_);intro Q44 hQ44))
    all_goals (simp [u6,u5,p9,s8,H8,c5,l5,hown])
end Go.Proofs.YtiagcnfmgigllaaGreat
