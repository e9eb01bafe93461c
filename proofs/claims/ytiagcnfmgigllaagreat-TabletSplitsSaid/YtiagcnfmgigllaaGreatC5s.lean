/- A part of a proof over the abstract machine. No conditions. -/
import Derived.Test.YtiagcnfmgigllaaGreatC1
import Derived.Test.YtiagcnfmgigllaaGreatRw6
set_option linter.unusedSimpArgs false
set_option linter.unnecessarySimpa false
set_option linter.unusedVariables false
namespace Go.Proofs.YtiagcnfmgigllaaGreat
open Go Go.Ab Wm NumPlain
set_option maxRecDepth 10000
set_option maxHeartbeats 4000000
theorem new_c (h:H):W K 55 [] h = some (.ret (.one (.ptr h.next 0 0)) (h.new ⟨0,[1],true,[.nilslc]⟩)):=by
 refine W_does hp rfl rfl rfl Tryz.func55 rfl (by simp [Tryz.f55]) ?_
 simp only [Tryz.f55]
 refine hide ?_;intro Q1 hQ1
 repeat' (first
  | (replace hQ1:=hQ1;simp)
  | refine hQ1 _ _ _ ?_)
theorem clone_g (o:Option BL) (ho:(ls o).length ≤ 1099511627776):Fun K 102 [.one (bs o)] (fun h=>.ret (.one (bs o)) h):=by
 cases o with
 | none =>
  simp only [bs_none]
  have hown:memL S.own 102 = false:=by kernel_rfl
  refine ⟨by simp [pureV,pureS],fun hh=>apart_does rfl rfl (by kernel_rfl) Tryz.func102 rfl (by simp [Tryz.f102]) ?_⟩
  simp only [Tryz.f102]
  refine hide ?_;intro Q2 hQ2
  repeat' (first
   | (replace hQ2:=hQ2;simp [bin,ford,equalA,outV,frzV,frzS,pureS,K_own,hown])
   | refine hQ2 _ _ _ ?_)
 | some l =>
  rw [bs_some]
  by_cases h0:l = []
  ·subst h0
   have hown:memL S.own 102 = false:=by kernel_rfl
   refine ⟨by simp [pureV,pureS,pureL],fun hh=>apart_does rfl rfl (by kernel_rfl) Tryz.func102 rfl (by simp [Tryz.f102]) ?_⟩
   simp only [Tryz.f102]
   refine hide ?_;intro Q3 hQ3
   repeat' (first
    | (replace hQ3:=hQ3;simp [bin,ford,equalA,appendA,appendL,lenS,elemsOf,sub,limit,outV,frzV,frzS,K_own,hown])
    | refine hQ3 _ _ _ ?_)
  ·have h1:l.length ≠ 0:=by simpa using h0
   have h3:pureL true (l.map byteS) = true:=by
    clear h0 h1 ho
    induction l with
    | nil=>rfl
    | cons a l ih=>simp [pureL,byteS,pureS] at ih ⊢;exact ih
   have h2:¬ (17592186044416 < l.length + 600 + l.length):=by simp at ho;omega
   have ht:(l.map byteS).take l.length = l.map byteS:=List.take_of_length_le (by simp)
   have h4:pureL false (l.map byteS) = true:=by have:=pureS_bs (some l);rw [bs_some] at this;simpa [pureS] using this
   have h5:(l.map byteS).mapM (frzS true ((H.empty.new ⟨0,[0],true,[]⟩).new ⟨0,[l.length],false,l.map byteS⟩) 63) = some (l.map byteS):=mapM_pure (n:=62) (by assumption)
   have hown:memL S.own 102 = false:=by kernel_rfl
   refine ⟨by simp [pureV,h4,pureS],fun hh=>apart_does rfl rfl (by kernel_rfl) Tryz.func102 rfl (by simp [Tryz.f102]) ?_⟩
   simp only [Tryz.f102]
   refine hide ?_;intro Q4 hQ4
   repeat' (first
    | (replace hQ4:=hQ4;simp [bin,ford,equalA,appendA,appendL,lenS,elemsOf,sub,limit,h0,h2,h5,ht,outV,frzV,frzS,K_own,hown])
    | refine hQ4 _ _ _ ?_)
   all_goals trace_state
theorem viewL_pure {h:H} {n:Nat}:∀ {l:List AS},pureL false l = true→(∀ a ∈ l,(∀ f x c,a ≠ .fn f x c)∧∀ t v,a ≠ .ifc t v)→l.mapM (viewS h (n + 1)) = some l
 | [],_,_=>rfl
 | a::l,hp,hn=>by
  simp only [pureL,Bool.and_eq_true] at hp
  have h1:=hn a (by simp)
  simp only [List.mapM_cons,viewS_pure hp.1 h1.1 h1.2,viewL_pure hp.2 (fun b hb=>hn b (by simp [hb])),oqE,oqS,oqP]
theorem bytes_pure (l:BL):pureL false (l.map byteS) = true:=by have:=pureS_bs (some l);rw [bs_some] at this;simpa [pureS] using this
theorem bytes_plain (l:BL):∀ a ∈ l.map byteS,(∀ f x c,a ≠ .fn f x c)∧∀ t v,a ≠ .ifc t v:=by
 intro a ha
 obtain ⟨b,_,rfl⟩:=List.mem_map.1 ha
 exact ⟨fun _ _ _ h=>(by cases h),fun _ _ h=>(by cases h)⟩
theorem view_bytes {h:H} {s:AS} {l:BL} (hs:Sees h 1 s (l.map byteS)):∃ o:Option BL,ls o = l∧(s = bs o ∨ pureS false s = false)∧viewS h 64 s = some (bs o):=by
 cases s <;> simp only [Sees] at hs
 ·refine ⟨none, ?_,.inl rfl,rfl⟩
  simpa using hs.symm
 ·rename_i b v o n s' c
  obtain ⟨rfl,hr⟩:=hs
  have hn:n = l.length:=by have:=readC_len hr;simpa using this.symm
  subst hn
  refine ⟨some l,rfl,.inr rfl, ?_⟩
  rw [bs_some]
  simp only [viewS,hr,oqE,oqS,viewL_pure (n:=62) (bytes_pure l) (bytes_plain l)]
 ·rename_i n s' q
  obtain ⟨rfl,rfl,hl⟩:=hs
  have hn:n = l.length:=by simpa using hl.symm
  subst hn
  refine ⟨some l,rfl,.inl (bs_some l).symm, ?_⟩
  rw [bs_some]
  simp only [viewS,pureS,bytes_pure,Bool.not_false,Bool.true_or,Bool.and_self,if_true]
theorem cloneB_c {h:H} {s:AS} {l:BL} (hs:Sees h 1 s (l.map byteS)) (hl:l.length ≤ 1099511627776):∃ o:Option BL,ls o = l∧W K 102 [.one s] h = some (.ret (.one (bs o)) h):=by
 obtain ⟨o,h1,h2,h3⟩:=view_bytes hs
 refine ⟨o,h1, ?_⟩
 rcases h2 with rfl | h2
 ·exact (clone_g o (by rw [h1];exact hl)).pure hp h
 ·refine (clone_g o (by rw [h1];exact hl)).view hp ?_
  unfold viewA
  rw [if_neg (by simp [pureV,h2])]
  simp [viewV,h3]
theorem done_c {h:H} {p:Nat} {q:Option Nat} {l:BL} (w:Wr h p q l) (hl:l.length ≤ 1099511627776):∃ o,ls o = l∧W K 59 [.one (.ptr p 0 0)] h = some (.ret (.one (bs o)) h):=by
 obtain ⟨_,s,_,_,hf,ho⟩:=w
 obtain ⟨o,h1,h2⟩:=cloneB_c ho.sees hl
 refine ⟨o,h1, ?_⟩
 refine W_does hp rfl rfl rfl Tryz.func59 rfl (by simp [Tryz.f59]) ?_
 simp only [Tryz.f59]
 refine hide ?_;intro Q1 hQ1
 repeat' (first
  | (replace hQ1:=hQ1;simp [hf,h2])
  | refine hQ1 _ _ _ ?_)
theorem ls_ne {α:Type} {o:Option (List α)} {l:List α} (h:ls o = l) (hl:l ≠ []):o = some l:=by
 cases o with
 | none=>exact absurd h.symm hl
 | some x=>simp only [ls_some] at h;rw [h]
theorem done_ws {h0 h:H} {q0:Option Nat} {p:Nat} {l:BL} {kept:List (Nat × Blk)} (ws:WS h0 q0 h p l kept) (hl:l.length ≤ 1099511627776) (hne:l ≠ []):W K 59 [.one (.ptr p 0 0)] h = some (.ret (.one (bs (some l))) h):=by
 obtain ⟨q,w,_⟩:=ws
 obtain ⟨o,h1,h2⟩:=done_c w hl
 rw [h2,ls_ne h1 hne]
theorem ws_new (h:H) (kept:List (Nat × Blk)) (hk:keptP h kept) (hl:∀ e ∈ kept,e.1 < h.next):WS (h.new ⟨0,[1],true,[.nilslc]⟩) none (h.new ⟨0,[1],true,[.nilslc]⟩) h.next [] kept:=by
 refine ⟨none,⟨by simp,.nilslc,rfl,by simp,by simp,rfl⟩,Only.refl _ _ _,keptP_same (fun e he=>?_) hk,fun e he=>⟨?_, ?_,by simp⟩⟩
 ·rw [new_at,if_neg (by have:=hl e he;omega)]
 ·have:=hl e he;simp;omega
 ·have:=hl e he;omega
theorem viaK {f:Nat} (hq:K.prim f = some (viaP (W Rw.K) f)) {args:List AV} {h:H} {r r':CR} (hw:W Rw.K f args h = some r) (hr:iceR true h r = some r'):W K f args h = some r':=by
 rw [W_prim hp hq];simp only [viaP,hw,oqS,hr]
theorem viaE {f:Nat} (hq:K.prim f = some (viaP (W Rw.K) f)) {args:List AV} {h:H} {v:AV} (hw:W Rw.K f args h = some (.ret v h)) (hv:pureW v = true):W K f args h = some (.ret v h):=viaK hq hw (iceR_same (kept_refl h) hv)
theorem rcopy_c (o:Row) (ho:(ls o).length < 1000000) (h:H):W K 166 [.agg [sl 2 encColumn o]] h = some (.ret (.agg (encRow (rowCopy o))) h):=by
 obtain ⟨r,e,hr⟩:=Rw.copy_c (Rw.row_sees h o) ho
 obtain ⟨v,h',rfl,s',rs',rfl,w,hn,hf⟩:=hr.ret
 refine viaK rfl e (iceR_kept ⟨hn,hf⟩ ?_)
 have:=w.frz (h:=h) (Nat.le_refl _) 61
 simp only [frzV,List.mapM_cons,List.mapM_nil,this,oqE,oqS,oqP,encRow]
theorem rright_c (o:Row) (ho:(ls o).length < 1000000) (h:H):W K 172 [.agg [sl 2 encColumn o]] h = some (.ret (.one (.bool (rowB o))) h):=viaE rfl ((Rw.right_g o ho).pure Rw.hp h) rfl
theorem rfind_c (o:Row) (n:BL) (hr:rowB o = true) (h:H):W K 254 [.agg [sl 2 encColumn o],.one (.str n)] h = some (.ret (.tup [(false,[ii (colIx (ls o) n)]),(false,[.bool (colAt (ls o) n)])]) h):=viaE rfl ((Rw.find_g o n hr).pure Rw.hp h) rfl
theorem pure_Row (o:Row):pureL false (encRow o) = true:=by simp [encRow,pureL]
theorem rput_c (o:Row) (ho:(ls o).length < 1000000) (n:BL) (t:Int) (v_kind:Int) (v_b:Option BL) (v_n:Nat) (h:H) :
  W K 238 [.agg [sl 2 encColumn o],.one (.str n),.one (ii t),.agg [ii v_kind,bs v_b,.flt v_n]] h = some (.ret (.tup [(true,encRow (rowPut o n t ⟨v_kind,v_b,v_n⟩).1),(false,[ii (rowPut o n t ⟨v_kind,v_b,v_n⟩).2])]) h) :=
 viaE rfl (Rw.put_c o ho n t v_kind v_b v_n h) (by simp [pureW,pure_Row,pureL,pureS])
theorem rdrop_c (o:Row) (ho:(ls o).length < 1000000) (n:BL) (t:Int) (h:H):W K 239 [.agg [sl 2 encColumn o],.one (.str n),.one (ii t)] h = some (.ret (.agg (encRow (rowDrop o n t))) h) :=
 viaE rfl (Rw.drop_c o ho n t h) (by simp [pureW,pure_Row])
theorem rdropCol_c (o:Row) (ho:(ls o).length < 1000000) (n:BL) (h:H):W K 240 [.agg [sl 2 encColumn o],.one (.str n)] h = some (.ret (.agg (encRow (rowDropCol o n))) h) :=
 viaE rfl (Rw.dropCol_c o ho n h) (by simp [pureW,pure_Row])
theorem cloneK_c (o:Option BL) (ho:(ls o).length ≤ 1099511627776) (h:H):W K 102 [.one (bs o)] h = some (.ret (.one (bs o)) h):=(clone_g o ho).pure hp h
theorem valCan_c (v_kind:Int) (v_b:Option BL) (v_n:Nat) (hb:v_kind = 1→(ls v_b).length ≤ 1099511627776) (h:H):W K 206 [.agg [ii v_kind,bs v_b,.flt v_n]] h = some (.ret (.agg (encV (valCan ⟨v_kind,v_b,v_n⟩))) h):=by
 by_cases h1:v_kind = 1
 ·have hc:=cloneK_c v_b (hb h1)
  subst h1
  have hown:memL S.own 206 = false:=by kernel_rfl
  refine W_pure hp (by simp [pureV,pureS,pureL]) (apart_does rfl rfl (by kernel_rfl) Tryz.func206 rfl (by simp [Tryz.f206]) ?_)
  simp only [Tryz.f206]
  refine hide ?_;intro Q1 hQ1
  repeat' (first
   | (replace hQ1:=hQ1;simp [hc])
   | (refine hQ1 _ _ _ ?_;clear hQ1 Q1;first | simp only [] | simp [valCan,encV,outV,frzV,frzS,frzS_pure,pureS,K_own,hown]))
  all_goals first | done | (simp_all [-List.isEmpty_iff,-List.isEmpty_eq_false_iff,← List.isEmpty_iff];done) | (simp_all;done) | (simp_all;omega) | (simp;omega) | (intros;omega) | (intros;simp only [decide_eq_true_eq] at *;omega) | (intros;simp at *;omega) | skip
 ·by_cases h2:v_kind = 2
  ·subst h2
   have hown:memL S.own 206 = false:=by kernel_rfl
   refine W_pure hp (by simp [pureV,pureS,pureL]) (apart_does rfl rfl (by kernel_rfl) Tryz.func206 rfl (by simp [Tryz.f206]) ?_)
   simp only [Tryz.f206]
   refine hide ?_;intro Q2 hQ2
   repeat' (first
    | (replace hQ2:=hQ2;simp [canon_c])
    | (refine hQ2 _ _ _ ?_;clear hQ2 Q2;first | simp only [] | simp [valCan,encV,bs_none,outV,frzV,frzS,pureS,K_own,hown]))
   all_goals first | done | (simp_all [-List.isEmpty_iff,-List.isEmpty_eq_false_iff,← List.isEmpty_iff];done) | (simp_all;done) | (simp_all;omega) | (simp;omega) | (intros;omega) | (intros;simp only [decide_eq_true_eq] at *;omega) | (intros;simp at *;omega) | skip
  ·have e1:valCan ⟨v_kind,v_b,v_n⟩ = ⟨0,none,0⟩:=by simp [valCan,h1,h2]
   have b1:(v_kind == 1) = false:=by simp [h1]
   have b2:(v_kind == 2) = false:=by simp [h2]
   rw [e1]
   have hown:memL S.own 206 = false:=by kernel_rfl
   refine W_pure hp (by simp [pureV,pureS,pureL]) (apart_does rfl rfl (by kernel_rfl) Tryz.func206 rfl (by simp [Tryz.f206]) ?_)
   simp only [Tryz.f206]
   refine hide ?_;intro Q3 hQ3
   repeat' (first
    | (replace hQ3:=hQ3;simp [b1,b2])
    | (refine hQ3 _ _ _ ?_;clear hQ3 Q3;first | simp only [] | simp [encV,bs_none,outV,frzV,frzS,pureS,K_own,hown]))
   all_goals first | done | (simp_all [-List.isEmpty_iff,-List.isEmpty_eq_false_iff,← List.isEmpty_iff];done) | (simp_all;done) | (simp_all;omega) | (simp;omega) | (intros;omega) | (intros;simp only [decide_eq_true_eq] at *;omega) | (intros;simp at *;omega) | skip
theorem at_c (o:Row) (ho:(ls o).length < 1000000) (n:BL) (t:Int) (h:H):W K 236 [.agg [sl 2 encColumn o],.one (.str n),.one (ii t)] h = some (.ret (.tup [(true,encV (valAt o n t).1),(false,[.bool (valAt o n t).2])]) h):=by
 have hcp:=rcopy_c o ho
 have hrB:=rowCopy_ok o
 have hf:=rfind_c (rowCopy o) n hrB
 obtain ⟨res,hres⟩:∃ res,valAt o n t = res:=⟨_,rfl⟩
 rw [hres]
 unfold valAt at hres
 dsimp only at hres
 have hallO:(ls (rowCopy o)).all colB = true:=by simp only [rowB,Bool.and_eq_true] at hrB;exact hrB.1.1
 simp only [encRow] at hcp
 generalize rowCopy o = O at *
 cases hTb:colAt (ls O) n with
 | false =>
  rw [hTb] at hres hf
  rw [if_pos rfl] at hres
  subst hres
  have hown:memL S.own 236 = false:=by kernel_rfl
  refine W_pure hp (by simp [pureV,pureS,pureL]) (apart_does rfl rfl (by kernel_rfl) Tryz.func236 rfl (by simp [Tryz.f236]) ?_)
  simp only [Tryz.f236]
  refine hide ?_;intro Q4 hQ4
  repeat' (first
   | (replace hQ4:=hQ4;simp [hcp,hf,zV,encV,bs_none,outV,frzV,frzS,frzP,pureS,K_own,hown])
   | refine hQ4 _ _ _ ?_)
 | true =>
  rw [hTb] at hres hf
  rw [if_neg (by simp)] at hres
  obtain ⟨hI3,hn3⟩:=Rw.at_inv hTb
  generalize hI:colIx (ls O) n = I at *
  rw [List.getElem?_eq_getElem hI3] at hres
  simp only [oqS] at hres
  obtain ⟨l,rfl⟩:∃ l,O = some l:=by cases O with | none=>simp at hI3 | some l=>exact ⟨l,rfl⟩
  simp only [ls_some] at *
  have hix:=index_sl (P:=Tryz.prog) (enc:=encColumn) (s:=2) (l:=l) (i:=I) Tryz.underlying79 (by simp) (by omega) hI3
  obtain ⟨hcl2,_,_⟩:=Rw.colB_inv (List.all_eq_true.1 hallO _ (List.getElem_mem hI3))
  have hsub:sub (cat encColumn l) (I * 2 + 1) 1 = some [sl 4 encVersion l[I].l]:=by rw [sub_at len_column l hI3 (by omega)];rfl
  have hcl3:(ls l[I].l).length ≤ 2:=hcl2
  clear hcl2
  generalize l[I].l = vl at *
  have hown:memL S.own 236 = false:=by kernel_rfl
  refine W_pure hp (by simp [pureV,pureS,pureL]) (apart_does rfl rfl (by kernel_rfl) Tryz.func236 rfl (by simp [Tryz.f236]) ?_)
  simp only [Tryz.f236]
  refine hide ?_;intro Q5 hQ5
  repeat' (first
   | (replace hQ5:=hQ5;simp [hcp,hf,hix,hsub])
   | refine hQ5 _ _ _ ?_)
  refine does_each hp (ls vl) (fun a r fr hh=>(2 ≤ hh.next∧hh.f 1 = some ⟨0,[3],true,encV zV⟩∧(ls vl).find? (fun x=>decide (x.time ≤ t)) = r.find? (fun x=>decide (x.time ≤ t)))∧∃ j:Nat→AV,fr = (j 0::j 1::(.one (ii t))::j 3::j 4::j 5::(.one (.ptr 1 0 0))::j 7::j 8::j 9::j 10::j 11::j 12::j 13::j 14::j 15::j 16::j 17::j 18::j 19::j 20::j 21::j 22::j 23::j 24::j 25::j 26::j 27::j 28::(.one (sl 4 encVersion vl))::(.one (ii (ls vl).length))::(.one (ii a.length))::j 32::j 33::j 34::j 35::j 36::j 37::j 38::j 39::j 40::j 41::j 42::[])) ?_ ?_ _ _ ⟨⟨by simp,by simp [encV,zV,bs_none],rfl⟩,ex_get' (by simp)⟩
  ·rintro a x r fr hh hl ⟨⟨i1,i2,i3⟩,j,rfl⟩
   obtain rfl:=ls_cons hl
   have hi:=index_sl (P:=Tryz.prog) (enc:=encVersion) (s:=4) (l:=a++x::r) (i:=a.length) Tryz.underlying89 (by simp) (by omega) (by simp)
   have hr:=sub_flat (enc:=encVersion) (s:=4) len_version a x r (o:=0) (n:=4) (by omega)
   rw [sub_all (len_version x),Nat.add_zero] at hr
   have hlt2:a.length < (a++x::r).length:=by simp
   have hw:IntKind.i64.wrap ((a.length:Int) + 1) = ((a++[x]).length:Int):=by rw [step_len];exact step_wrap (by simp at hcl3;omega)
   have hne:¬ 1 = hh.next:=by omega
   obtain ⟨xt,⟨xk,xb,xn⟩⟩:=x
   simp only [encVersion,encV,zV,bs_none] at hr i2
   by_cases hc:xt ≤ t
   ·have hfx:pickV ((ls (some (a++⟨xt,⟨xk,xb,xn⟩⟩::r))).find? (fun x=>decide (x.time ≤ t))) = ((⟨xk,xb,xn⟩:Wm.Value),true):=by rw [i3];simp [hc,pickV]
    rw [hfx] at hres
    subst hres
    generalize (a++(⟨xt,⟨xk,xb,xn⟩⟩:Version)::r) = L at *
    first | (refine hide ?_;intro Q6 hQ6) | have hQ6:=True.intro
    repeat' (first
     | (replace hQ6:=hQ6;simp [i2,hi,hr,hlt2,hne,hc])
     | (refine hQ6 _ _ _ ?_;clear hQ6 Q6;first | simp only [] | skip)
     | (refine hadQ (by assumption) ?_;(try clear hQ6);first | simp only [] | skip)
     | ((fail_if_success replace hQ6:=hQ6);(first | refine hide ?_ | refine hideS ?_ | refine hideB ?_);intro Q6 hQ6))
    all_goals (simp [encV,outV,frzV,frzS,frzS_pure,frzP,pureS,K_own,hown])
   ·have hi4:(r).find? (fun x=>decide (x.time ≤ t)) = (ls (some (a++⟨xt,⟨xk,xb,xn⟩⟩::r))).find? (fun x=>decide (x.time ≤ t)):=by rw [i3];simp [hc]
    generalize (a++(⟨xt,⟨xk,xb,xn⟩⟩:Version)::r) = L at *
    generalize (a++[(⟨xt,⟨xk,xb,xn⟩⟩:Version)]) = A2 at *
    first | (refine hide ?_;intro Q7 hQ7) | have hQ7:=True.intro
    repeat' (first
     | (replace hQ7:=hQ7;simp [hi,hr,hlt2,hc,hw])
     | (refine hQ7 _ _ _ ?_;clear hQ7 Q7;first | simp only [] | skip)
     | (refine hadQ (by assumption) ?_;(try clear hQ7);first | simp only [] | skip)
     | ((fail_if_success replace hQ7:=hQ7);(first | refine hide ?_ | refine hideS ?_ | refine hideB ?_);intro Q7 hQ7))
    all_goals first | (refine ⟨⟨by simp;omega,by simp [hne,i2,encV,zV,bs_none],hi4.symm⟩,ex_get' (by simp)⟩) | trace_state
  ·rintro fr hh ⟨⟨i1,i2,i3⟩,j,rfl⟩
   rw [i3] at hres
   simp only [List.find?_nil,pickV] at hres
   subst hres
   simp only [encV,zV,bs_none] at i2
   first | (refine hide ?_;intro Q8 hQ8) | have hQ8:=True.intro
   repeat' (first
    | (replace hQ8:=hQ8;simp [i2])
    | (refine hQ8 _ _ _ ?_;clear hQ8 Q8;first | simp only [] | skip)
    | (refine hadQ (by assumption) ?_;(try clear hQ8);first | simp only [] | skip)
    | ((fail_if_success replace hQ8:=hQ8);(first | refine hide ?_ | refine hideS ?_ | refine hideB ?_);intro Q8 hQ8))
   all_goals (simp [encV,zV,bs_none,outV,frzV,frzS,frzP,pureS,K_own,hown])
theorem newest_c (o:Row) (ho:(ls o).length < 1000000) (n:BL) (h:H):W K 207 [.agg [sl 2 encColumn o],.one (.str n)] h = some (.ret (.tup [(true,encV (newest o n).1),(false,[.bool (newest o n).2])]) h):=by
 have hx:=at_c o ho n 1099511627776
 unfold newest
 generalize valAt o n 1099511627776 = w at *
 obtain ⟨⟨k,b,x⟩,q⟩:=w
 simp only [encV] at *
 have hown:memL S.own 207 = false:=by kernel_rfl
 refine W_pure hp (by simp [pureV,pureS,pureL]) (apart_does rfl rfl (by kernel_rfl) Tryz.func207 rfl (by simp [Tryz.f207]) ?_)
 simp only [Tryz.f207]
 refine hide ?_;intro Q1 hQ1
 repeat' (first
  | (replace hQ1:=hQ1;simp [hx,outV,frzV,frzS,frzS_pure,frzP,pureS,K_own,hown])
  | refine hQ1 _ _ _ ?_)
theorem canonN_c (h:H):W K 235 [.one .nan] h = some (.ret (.one (.flt 9221120237041090561)) h):=by
 have hn:∀ h,W K 253 [.one .nan] h = some (.ret (.one (.bool true)) h):=by
  intro h
  have hown:memL S.own 253 = false:=by kernel_rfl
  refine W_pure hp (by simp [pureV,pureS]) (apart_does rfl rfl (by kernel_rfl) Tryz.func253 rfl (by simp [Tryz.f253]) ?_)
  simp only [Tryz.f253]
  refine hide ?_;intro Q2 hQ2
  repeat' (first
   | (replace hQ2:=hQ2;simp [outV,frzV,frzS,pureS,K_own,hown])
   | refine hQ2 _ _ _ ?_)
 have hown:memL S.own 235 = false:=by kernel_rfl
 refine W_pure hp (by simp [pureV,pureS]) (apart_does rfl rfl (by kernel_rfl) Tryz.func235 rfl (by simp [Tryz.f235]) ?_)
 simp only [Tryz.f235]
 refine hide ?_;intro Q3 hQ3
 repeat' (first
  | (replace hQ3:=hQ3;simp [hn,frombits_c,outV,frzV,frzS,pureS,K_own,hown])
  | refine hQ3 _ _ _ ?_)
theorem sum_c (a b:Nat) (h:H):W K 263 [.one (.flt a),.one (.flt b)] h = some (.ret (.one (.flt (sumF a b))) h):=by
 unfold sumF
 cases hs:(FloatKind.format .f64).add a b with
 | none =>
  have hs2:Ieee.double.add a b = none:=hs
  have hown:memL S.own 263 = false:=by kernel_rfl
  refine W_pure hp (by simp [pureV,pureS]) (apart_does rfl rfl (by kernel_rfl) Tryz.func263 rfl (by simp [Tryz.f263]) ?_)
  simp only [Tryz.f263]
  refine hide ?_;intro Q4 hQ4
  repeat' (first
   | (replace hQ4:=hQ4;simp [farith,fres,hs2,canonN_c,outV,frzV,frzS,pureS,K_own,hown])
   | refine hQ4 _ _ _ ?_)
 | some r =>
  have hc:=canon_c r
  have hs2:Ieee.double.add a b = some r:=hs
  have hown:memL S.own 263 = false:=by kernel_rfl
  refine W_pure hp (by simp [pureV,pureS]) (apart_does rfl rfl (by kernel_rfl) Tryz.func263 rfl (by simp [Tryz.f263]) ?_)
  simp only [Tryz.f263]
  refine hide ?_;intro Q5 hQ5
  repeat' (first
   | (replace hQ5:=hQ5;simp [farith,fres,hs2,hc,outV,frzV,frzS,pureS,K_own,hown])
   | refine hQ5 _ _ _ ?_)
theorem plus_c (a_kind:Int) (a_b:Option BL) (a_n:Nat) (b_kind:Int) (b_b:Option BL) (b_n:Nat) (h:H):W K 241 [.agg [ii a_kind,bs a_b,.flt a_n],.agg [ii b_kind,bs b_b,.flt b_n]] h = some (.ret (.tup [(true,encV (valPlus ⟨a_kind,a_b,a_n⟩ ⟨b_kind,b_b,b_n⟩).1),(false,[ii (valPlus ⟨a_kind,a_b,a_n⟩ ⟨b_kind,b_b,b_n⟩).2])]) h):=by
 have hs:=sum_c a_n b_n
 by_cases h1:a_kind = 2
 ·by_cases h2:b_kind = 2
  ·have e:valPlus ⟨a_kind,a_b,a_n⟩ ⟨b_kind,b_b,b_n⟩ = (⟨2,none,sumF a_n b_n⟩,0):=by simp [valPlus,h1,h2]
   rw [e];subst h1 h2
   have hown:memL S.own 241 = false:=by kernel_rfl
   refine W_pure hp (by simp [pureV,pureS,pureL]) (apart_does rfl rfl (by kernel_rfl) Tryz.func241 rfl (by simp [Tryz.f241]) ?_)
   simp only [Tryz.f241]
   refine hide ?_;intro Q6 hQ6
   repeat' (first
    | (replace hQ6:=hQ6;simp [hs,encV,bs_none,outV,frzV,frzS,frzP,pureS,K_own,hown])
    | refine hQ6 _ _ _ ?_)
  ·have e:valPlus ⟨a_kind,a_b,a_n⟩ ⟨b_kind,b_b,b_n⟩ = (zV,24):=by simp [valPlus,h2]
   have b2:(b_kind == 2) = false:=by simp [h2]
   have b3:(b_kind != 2) = true:=by simp [h2]
   rw [e];subst h1
   have hown:memL S.own 241 = false:=by kernel_rfl
   refine W_pure hp (by simp [pureV,pureS,pureL]) (apart_does rfl rfl (by kernel_rfl) Tryz.func241 rfl (by simp [Tryz.f241]) ?_)
   simp only [Tryz.f241]
   refine hide ?_;intro Q7 hQ7
   repeat' (first
    | (replace hQ7:=hQ7;simp [b3,encV,zV,bs_none,outV,frzV,frzS,frzP,pureS,K_own,hown])
    | refine hQ7 _ _ _ ?_)
 ·have e:valPlus ⟨a_kind,a_b,a_n⟩ ⟨b_kind,b_b,b_n⟩ = (zV,24):=by simp [valPlus,h1]
  have b2:(a_kind == 2) = false:=by simp [h1]
  have b3:(a_kind != 2) = true:=by simp [h1]
  rw [e]
  have hown:memL S.own 241 = false:=by kernel_rfl
  refine W_pure hp (by simp [pureV,pureS,pureL]) (apart_does rfl rfl (by kernel_rfl) Tryz.func241 rfl (by simp [Tryz.f241]) ?_)
  simp only [Tryz.f241]
  refine hide ?_;intro Q8 hQ8
  repeat' (first
   | (replace hQ8:=hQ8;simp [b3,encV,zV,bs_none,outV,frzV,frzS,frzP,pureS,K_own,hown])
   | refine hQ8 _ _ _ ?_)
theorem key_c (x:Nat) (h:H):W K 269 [.one (.flt x)] h = some (.ret (.one (.int .u64 (keyI x))) h):=by
 have hb:=numbits_c x
 unfold keyI
 by_cases h1:andI .u64 (canF x) 9223372036854775808 = 0
 ·have b1:(andI .u64 (canF x) 9223372036854775808 != 0) = false:=by simp [h1]
  rw [if_pos h1]
  have hown:memL S.own 269 = false:=by kernel_rfl
  refine W_pure hp (by simp [pureV,pureS]) (apart_does rfl rfl (by kernel_rfl) Tryz.func269 rfl (by simp [Tryz.f269]) ?_)
  simp only [Tryz.f269]
  refine hide ?_;intro Q9 hQ9
  repeat' (first
   | (replace hQ9:=hQ9;simp [hb,h1,outV,frzV,frzS,pureS,K_own,hown])
   | refine hQ9 _ _ _ ?_)
 ·have b1:(andI .u64 (canF x) 9223372036854775808 != 0) = true:=by simp [h1]
  rw [if_neg h1]
  have hown:memL S.own 269 = false:=by kernel_rfl
  refine W_pure hp (by simp [pureV,pureS]) (apart_does rfl rfl (by kernel_rfl) Tryz.func269 rfl (by simp [Tryz.f269]) ?_)
  simp only [Tryz.f269]
  refine hide ?_;intro Q10 hQ10
  repeat' (first
   | (replace hQ10:=hQ10;simp [hb,b1,outV,frzV,frzS,pureS,K_own,hown])
   | refine hQ10 _ _ _ ?_)
theorem ordF_c (a b:Nat) (h:H):W K 256 [.one (.flt a),.one (.flt b)] h = some (.ret (.one (ii (ordF a b))) h):=by
 have h1:=key_c a
 have h2:=key_c b
 unfold ordF
 generalize keyI a = x at *
 generalize keyI b = y at *
 by_cases c1:x < y
 ·have d1:decide (x < y) = true:=by simp [c1]
  rw [if_pos c1]
  have hown:memL S.own 256 = false:=by kernel_rfl
  refine W_pure hp (by simp [pureV,pureS]) (apart_does rfl rfl (by kernel_rfl) Tryz.func256 rfl (by simp [Tryz.f256]) ?_)
  simp only [Tryz.f256]
  refine hide ?_;intro Q11 hQ11
  repeat' (first
   | (replace hQ11:=hQ11;simp [h1,h2,c1,outV,frzV,frzS,pureS,K_own,hown])
   | refine hQ11 _ _ _ ?_)
 ·have d1:decide (x < y) = false:=by simp [c1]
  rw [if_neg c1]
  by_cases c2:y < x
  ·have d2:decide (y < x) = true:=by simp [c2]
   rw [if_pos c2]
   have hown:memL S.own 256 = false:=by kernel_rfl
   refine W_pure hp (by simp [pureV,pureS]) (apart_does rfl rfl (by kernel_rfl) Tryz.func256 rfl (by simp [Tryz.f256]) ?_)
   simp only [Tryz.f256]
   refine hide ?_;intro Q12 hQ12
   repeat' (first
    | (replace hQ12:=hQ12;simp [h1,h2,c1,c2,outV,frzV,frzS,pureS,K_own,hown])
    | refine hQ12 _ _ _ ?_)
  ·have d2:decide (y < x) = false:=by simp [c2]
   rw [if_neg c2]
   have hown:memL S.own 256 = false:=by kernel_rfl
   refine W_pure hp (by simp [pureV,pureS]) (apart_does rfl rfl (by kernel_rfl) Tryz.func256 rfl (by simp [Tryz.f256]) ?_)
   simp only [Tryz.f256]
   refine hide ?_;intro Q13 hQ13
   repeat' (first
    | (replace hQ13:=hQ13;simp [h1,h2,c1,c2,outV,frzV,frzS,pureS,K_own,hown])
    | refine hQ13 _ _ _ ?_)
theorem cmpI_c (a b:Int) (h:H):W K 163 [.one (ii a),.one (ii b)] h = some (.ret (.one (ii (cmpI a b))) h):=by
 have hn:∀ a h,W K 203 [.one (ii a)] h = some (.ret (.one (.bool false)) h):=by
  intro a h
  have he:(a != a) = false:=by simp
  have hown:memL S.own 203 = false:=by kernel_rfl
  refine W_pure hp (by simp [pureV,pureS]) (apart_does rfl rfl (by kernel_rfl) Tryz.func203 rfl (by simp [Tryz.f203]) ?_)
  simp only [Tryz.f203]
  refine hide ?_;intro Q14 hQ14
  repeat' (first
   | (replace hQ14:=hQ14;simp [he])
   | (refine hQ14 _ _ _ ?_;clear hQ14 Q14;first | simp only [] | simp [outV,frzV,frzS,pureS,K_own,hown]))
  all_goals first | done | (simp_all [-List.isEmpty_iff,-List.isEmpty_eq_false_iff,← List.isEmpty_iff];done) | (simp_all;done) | (simp_all;omega) | (simp;omega) | (intros;omega) | (intros;simp only [decide_eq_true_eq] at *;omega) | (intros;simp at *;omega) | skip
 unfold cmpI
 by_cases c1:a < b
 ·have d1:decide (a < b) = true:=by simp [c1]
  rw [if_pos c1]
  have hown:memL S.own 163 = false:=by kernel_rfl
  refine W_pure hp (by simp [pureV,pureS]) (apart_does rfl rfl (by kernel_rfl) Tryz.func163 rfl (by simp [Tryz.f163]) ?_)
  simp only [Tryz.f163]
  refine hide ?_;intro Q15 hQ15
  repeat' (first
   | (replace hQ15:=hQ15;simp [hn,c1,outV,frzV,frzS,pureS,K_own,hown])
   | refine hQ15 _ _ _ ?_)
 ·have d1:decide (a < b) = false:=by simp [c1]
  rw [if_neg c1]
  by_cases c2:b < a
  ·have d2:decide (b < a) = true:=by simp [c2]
   rw [if_pos c2]
   have hown:memL S.own 163 = false:=by kernel_rfl
   refine W_pure hp (by simp [pureV,pureS]) (apart_does rfl rfl (by kernel_rfl) Tryz.func163 rfl (by simp [Tryz.f163]) ?_)
   simp only [Tryz.f163]
   refine hide ?_;intro Q16 hQ16
   repeat' (first
    | (replace hQ16:=hQ16;simp [hn,c1,c2,outV,frzV,frzS,pureS,K_own,hown])
    | refine hQ16 _ _ _ ?_)
  ·have d2:decide (b < a) = false:=by simp [c2]
   rw [if_neg c2]
   have hown:memL S.own 163 = false:=by kernel_rfl
   refine W_pure hp (by simp [pureV,pureS]) (apart_does rfl rfl (by kernel_rfl) Tryz.func163 rfl (by simp [Tryz.f163]) ?_)
   simp only [Tryz.f163]
   refine hide ?_;intro Q17 hQ17
   repeat' (first
    | (replace hQ17:=hQ17;simp [hn,c1,c2,outV,frzV,frzS,pureS,K_own,hown])
    | refine hQ17 _ _ _ ?_)
theorem bytesOf_map (l:BL):bytesOf (l.map byteS) = some l:=by
 induction l with
 | nil=>rfl
 | cons a l ih =>
  have h1:(0:Int) ≤ (a.toNat:Int)∧(a.toNat:Int) < 256:=⟨by omega,by have:=a.toNat_lt;omega⟩
  simp only [List.map_cons,byteS,bytesOf] at ih ⊢
  rw [if_pos h1]
  simp only [ih,oqE,oqS,Int.toNat_natCast,UInt8.ofNat_toNat]
theorem bcmp_c (x y:Option BL) (h:H):W K 255 [.one (bs x),.one (bs y)] h = some (.ret (.one (ii (cmpL (ls x) (ls y)))) h):=by
 have e:∀ h,W K 268 [.one (bs x),.one (bs y)] h = some (.ret (.one (ii (cmpL (ls x) (ls y)))) h):=by
  intro h
  rw [W_ext hp rfl rfl]
  have hl:∀ o:Option BL,lenS (bs o) = some (ls o).length:=fun o=>lenS_sl 1 _ o
  simp only [extA,hl,elems_bs,bytesOf_map,oqE,oqS]
 have hown:memL S.own 255 = false:=by kernel_rfl
 refine W_pure hp (by simp [pureV]) (apart_does rfl rfl (by kernel_rfl) Tryz.func255 rfl (by simp [Tryz.f255]) ?_)
 simp only [Tryz.f255]
 refine hide ?_;intro Q18 hQ18
 repeat' (first
  | (replace hQ18:=hQ18;simp [e,outV,frzV,frzS,pureS,K_own,hown])
  | refine hQ18 _ _ _ ?_)
theorem ordV_c (a_kind:Int) (a_b:Option BL) (a_n:Nat) (b_kind:Int) (b_b:Option BL) (b_n:Nat) (ha:a_kind = 1→(ls a_b).length ≤ 1099511627776) (hb:b_kind = 1→(ls b_b).length ≤ 1099511627776) (h:H):W K 237 [.agg [ii a_kind,bs a_b,.flt a_n],.agg [ii b_kind,bs b_b,.flt b_n]] h = some (.ret (.one (ii (ordV ⟨a_kind,a_b,a_n⟩ ⟨b_kind,b_b,b_n⟩))) h):=by
 have h1:=valCan_c a_kind a_b a_n ha
 have h2:=valCan_c b_kind b_b b_n hb
 unfold ordV
 dsimp only
 generalize valCan ⟨a_kind,a_b,a_n⟩ = x at *
 generalize valCan ⟨b_kind,b_b,b_n⟩ = y at *
 obtain ⟨xk,xb,xn⟩:=x
 obtain ⟨yk,yb,yn⟩:=y
 simp only [encV] at h1 h2
 have hbc:=bcmp_c xb yb
 have hfc:=ordF_c xn yn
 have hic:=cmpI_c xk yk
 by_cases c1:xk = yk
 ·subst c1
  rw [if_neg (by simp)]
  have d1:(xk != xk) = false:=by simp
  by_cases c2:xk = 1
  ·subst c2
   rw [if_pos rfl]
   have hown:memL S.own 237 = false:=by kernel_rfl
   refine W_pure hp (by simp [pureV,pureS,pureL]) (apart_does rfl rfl (by kernel_rfl) Tryz.func237 rfl (by simp [Tryz.f237]) ?_)
   simp only [Tryz.f237]
   refine hide ?_;intro Q19 hQ19
   repeat' (first
    | (replace hQ19:=hQ19;simp [h1,h2,hbc,outV,frzV,frzS,pureS,K_own,hown])
    | refine hQ19 _ _ _ ?_
    | refine dF (id:=1) [0,1,2,3,4,5] [(1,2)] ?_)
  ·have d2:(xk == 1) = false:=by simp [c2]
   rw [if_neg c2]
   by_cases c3:xk = 2
   ·subst c3
    rw [if_pos rfl]
    have hown:memL S.own 237 = false:=by kernel_rfl
    refine W_pure hp (by simp [pureV,pureS,pureL]) (apart_does rfl rfl (by kernel_rfl) Tryz.func237 rfl (by simp [Tryz.f237]) ?_)
    simp only [Tryz.f237]
    refine hide ?_;intro Q20 hQ20
    repeat' (first
     | (replace hQ20:=hQ20;simp [h1,h2,d2,hfc,outV,frzV,frzS,pureS,K_own,hown])
     | refine hQ20 _ _ _ ?_
     | refine dF (id:=1) [0,1,2,3,4,5] [(1,2)] ?_)
   ·have d3:(xk == 2) = false:=by simp [c3]
    rw [if_neg c3]
    have hown:memL S.own 237 = false:=by kernel_rfl
    refine W_pure hp (by simp [pureV,pureS,pureL]) (apart_does rfl rfl (by kernel_rfl) Tryz.func237 rfl (by simp [Tryz.f237]) ?_)
    simp only [Tryz.f237]
    refine hide ?_;intro Q21 hQ21
    repeat' (first
     | (replace hQ21:=hQ21;simp [h1,h2,d2,d3,outV,frzV,frzS,pureS,K_own,hown])
     | refine hQ21 _ _ _ ?_
     | refine dF (id:=1) [0,1,2,3,4,5] [(1,2)] ?_)
 ·have d1:(xk != yk) = true:=by simp [c1]
  rw [if_pos c1]
  have hown:memL S.own 237 = false:=by kernel_rfl
  refine W_pure hp (by simp [pureV,pureS,pureL]) (apart_does rfl rfl (by kernel_rfl) Tryz.func237 rfl (by simp [Tryz.f237]) ?_)
  simp only [Tryz.f237]
  refine hide ?_;intro Q22 hQ22
  repeat' (first
   | (replace hQ22:=hQ22;simp [h1,h2,d1,hic,outV,frzV,frzS,pureS,K_own,hown])
   | refine hQ22 _ _ _ ?_
   | refine dF (id:=1) [0,1,2,3,4,5] [(1,2)] ?_)
theorem same_c (a_kind:Int) (a_b:Option BL) (a_n:Nat) (b_kind:Int) (b_b:Option BL) (b_n:Nat) (ha:a_kind = 1→(ls a_b).length ≤ 1099511627776) (hb:b_kind = 1→(ls b_b).length ≤ 1099511627776) (h:H):W K 208 [.agg [ii a_kind,bs a_b,.flt a_n],.agg [ii b_kind,bs b_b,.flt b_n]] h = some (.ret (.one (.bool (ordV ⟨a_kind,a_b,a_n⟩ ⟨b_kind,b_b,b_n⟩ == 0))) h):=by
 have h1:=ordV_c a_kind a_b a_n b_kind b_b b_n ha hb
 have hown:memL S.own 208 = false:=by kernel_rfl
 refine W_pure hp (by simp [pureV,pureS,pureL]) (apart_does rfl rfl (by kernel_rfl) Tryz.func208 rfl (by simp [Tryz.f208]) ?_)
 simp only [Tryz.f208]
 refine hide ?_;intro Q23 hQ23
 repeat' (first
  | (replace hQ23:=hQ23;simp [h1,outV,frzV,frzS,pureS,K_own,hown])
  | refine hQ23 _ _ _ ?_)
theorem holds_c (o:Row) (ho:(ls o).length < 1000000) (c_has:Bool) (c_want:Bool) (c_col:BL) (c_v_kind:Int) (c_v_b:Option BL) (c_v_n:Nat) (hb:c_v_kind = 1→(ls c_v_b).length ≤ 1099511627776) (hok:(newest o c_col).1.kind = 1→(ls (newest o c_col).1.b).length ≤ 1099511627776) (h:H):W K 167 [.agg [sl 2 encColumn o],.agg [.bool c_has,.bool c_want,.str c_col,ii c_v_kind,bs c_v_b,.flt c_v_n]] h = some (.ret (.one (.bool (holds o ⟨c_has,c_want,c_col,⟨c_v_kind,c_v_b,c_v_n⟩⟩))) h):=by
 have hn:=newest_c o ho c_col
 unfold holds
 generalize newest o c_col = w at *
 obtain ⟨⟨k,b,x⟩,q⟩:=w
 have hs:=same_c k b x c_v_kind c_v_b c_v_n hok hb
 simp only [encV] at hn
 generalize ordV ⟨k,b,x⟩ ⟨c_v_kind,c_v_b,c_v_n⟩ = R at *
 cases c_has
 ·have hown:memL S.own 167 = false:=by kernel_rfl
  refine W_pure hp (by simp [pureV,pureS,pureL]) (apart_does rfl rfl (by kernel_rfl) Tryz.func167 rfl (by simp [Tryz.f167]) ?_)
  simp only [Tryz.f167]
  refine hide ?_;intro Q24 hQ24
  repeat' (first
   | (replace hQ24:=hQ24;simp [outV,frzV,frzS,pureS,K_own,hown])
   | refine hQ24 _ _ _ ?_)
 ·cases c_want
  ·cases q
   ·have hown:memL S.own 167 = false:=by kernel_rfl
    refine W_pure hp (by simp [pureV,pureS,pureL]) (apart_does rfl rfl (by kernel_rfl) Tryz.func167 rfl (by simp [Tryz.f167]) ?_)
    simp only [Tryz.f167]
    refine hide ?_;intro Q25 hQ25
    repeat' (first
     | (replace hQ25:=hQ25;simp [hn,outV,frzV,frzS,pureS,K_own,hown])
     | refine hQ25 _ _ _ ?_)
   ·have hown:memL S.own 167 = false:=by kernel_rfl
    refine W_pure hp (by simp [pureV,pureS,pureL]) (apart_does rfl rfl (by kernel_rfl) Tryz.func167 rfl (by simp [Tryz.f167]) ?_)
    simp only [Tryz.f167]
    refine hide ?_;intro Q26 hQ26
    repeat' (first
     | (replace hQ26:=hQ26;simp [hn,outV,frzV,frzS,pureS,K_own,hown])
     | refine hQ26 _ _ _ ?_)
  ·cases q
   ·have hown:memL S.own 167 = false:=by kernel_rfl
    refine W_pure hp (by simp [pureV,pureS,pureL]) (apart_does rfl rfl (by kernel_rfl) Tryz.func167 rfl (by simp [Tryz.f167]) ?_)
    simp only [Tryz.f167]
    refine hide ?_;intro Q27 hQ27
    repeat' (first
     | (replace hQ27:=hQ27;simp [hn,outV,frzV,frzS,pureS,K_own,hown])
     | refine hQ27 _ _ _ ?_)
   ·have hown:memL S.own 167 = false:=by kernel_rfl
    refine W_pure hp (by simp [pureV,pureS,pureL]) (apart_does rfl rfl (by kernel_rfl) Tryz.func167 rfl (by simp [Tryz.f167]) ?_)
    simp only [Tryz.f167]
    refine hide ?_;intro Q28 hQ28
    repeat' (first
     | (replace hQ28:=hQ28;simp [hn,hs,outV,frzV,frzS,pureS,K_own,hown])
     | refine hQ28 _ _ _ ?_)
theorem one_c (o:Row) (ho:(ls o).length < 1000000) (c_kind:Int) (c_col:BL) (c_time:Int) (c_v_kind:Int) (c_v_b:Option BL) (c_v_n:Nat) (h:H):W K 209 [.agg [sl 2 encColumn o],.agg [ii c_kind,.str c_col,ii c_time,ii c_v_kind,bs c_v_b,.flt c_v_n]] h = some (.ret (.tup [(true,encRow (chgOne o ⟨c_kind,c_col,c_time,⟨c_v_kind,c_v_b,c_v_n⟩⟩).1),(false,[ii (chgOne o ⟨c_kind,c_col,c_time,⟨c_v_kind,c_v_b,c_v_n⟩⟩).2])]) h):=by
 have h1:=rput_c o ho c_col c_time c_v_kind c_v_b c_v_n
 have h2:=rdrop_c o ho c_col c_time
 have h3:=rdropCol_c o ho c_col
 unfold chgOne
 simp only [encRow] at *
 by_cases c1:c_kind = 1
 ·subst c1
  simp only [if_true]
  have hown:memL S.own 209 = false:=by kernel_rfl
  refine W_pure hp (by simp [pureV,pureS,pureL]) (apart_does rfl rfl (by kernel_rfl) Tryz.func209 rfl (by simp [Tryz.f209]) ?_)
  simp only [Tryz.f209]
  refine hide ?_;intro Q29 hQ29
  repeat' (first
   | (replace hQ29:=hQ29;simp [h1,outV,frzV,frzS,frzS_pure,frzP,pureS,K_own,hown])
   | refine hQ29 _ _ _ ?_)
 ·have d1:(c_kind == 1) = false:=by simp [c1]
  simp only [if_neg c1]
  by_cases c2:c_kind = 2
  ·subst c2
   simp only [if_true]
   have hown:memL S.own 209 = false:=by kernel_rfl
   refine W_pure hp (by simp [pureV,pureS,pureL]) (apart_does rfl rfl (by kernel_rfl) Tryz.func209 rfl (by simp [Tryz.f209]) ?_)
   simp only [Tryz.f209]
   refine hide ?_;intro Q30 hQ30
   repeat' (first
    | (replace hQ30:=hQ30;simp [d1,h2,outV,frzV,frzS,frzS_pure,frzP,pureS,K_own,hown])
    | refine hQ30 _ _ _ ?_)
  ·have d2:(c_kind == 2) = false:=by simp [c2]
   simp only [if_neg c2]
   by_cases c3:c_kind = 3
   ·subst c3
    simp only [if_true]
    have hown:memL S.own 209 = false:=by kernel_rfl
    refine W_pure hp (by simp [pureV,pureS,pureL]) (apart_does rfl rfl (by kernel_rfl) Tryz.func209 rfl (by simp [Tryz.f209]) ?_)
    simp only [Tryz.f209]
    refine hide ?_;intro Q31 hQ31
    repeat' (first
     | (replace hQ31:=hQ31;simp [d1,d2,h3,outV,frzV,frzS,frzS_pure,frzP,pureS,K_own,hown])
     | refine hQ31 _ _ _ ?_)
   ·have d3:(c_kind == 3) = false:=by simp [c3]
    simp only [if_neg c3]
    by_cases c4:c_kind = 4
    ·subst c4
     simp only [if_true]
     have hsn:sl 2 encColumn none = .nilslc:=rfl
     have hown:memL S.own 209 = false:=by kernel_rfl
     refine W_pure hp (by simp [pureV,pureS,pureL]) (apart_does rfl rfl (by kernel_rfl) Tryz.func209 rfl (by simp [Tryz.f209]) ?_)
     simp only [Tryz.f209]
     refine hide ?_;intro Q32 hQ32
     repeat' (first
      | (replace hQ32:=hQ32;simp [d1,d2,d3,hsn,outV,frzV,frzS,frzP,pureS,K_own,hown])
      | refine hQ32 _ _ _ ?_)
    ·have d4:(c_kind == 4) = false:=by simp [c4]
     simp only [if_neg c4]
     have hn:=newest_c o ho c_col
     generalize newest o c_col = w at *
     obtain ⟨⟨k,b,x⟩,q⟩:=w
     simp only [encV] at hn
     have hsn:sl 2 encColumn none = .nilslc:=rfl
     cases q with
     | false =>
      simp only [oqF,if_false]
      have hp1:=plus_c 2 none 9223372036854775808 c_v_kind c_v_b c_v_n
      simp only [bs_none] at hp1
      generalize valPlus ⟨2,none,9223372036854775808⟩ ⟨c_v_kind,c_v_b,c_v_n⟩ = w2 at *
      obtain ⟨⟨k2,b2,x2⟩,q2⟩:=w2
      simp only [encV] at hp1
      have h4:=rput_c o ho c_col c_time k2 b2 x2
      simp only [encRow] at h4
      by_cases hq:q2 = 0
      ·subst hq
       simp only [if_true]
       have hown:memL S.own 209 = false:=by kernel_rfl
       refine W_pure hp (by simp [pureV,pureS,pureL]) (apart_does rfl rfl (by kernel_rfl) Tryz.func209 rfl (by simp [Tryz.f209]) ?_)
       simp only [Tryz.f209]
       refine hide ?_;intro Q33 hQ33
       repeat' (first
        | (replace hQ33:=hQ33;simp [d1,d2,d3,d4,hn,f45_c,hp1,h4,outV,frzV,frzS,frzS_pure,frzP,pureS,K_own,hown])
        | refine hQ33 _ _ _ ?_)
      ·have hqb:(q2 != 0) = true:=by simp [hq]
       simp only [if_neg hq]
       have hown:memL S.own 209 = false:=by kernel_rfl
       refine W_pure hp (by simp [pureV,pureS,pureL]) (apart_does rfl rfl (by kernel_rfl) Tryz.func209 rfl (by simp [Tryz.f209]) ?_)
       simp only [Tryz.f209]
       refine hide ?_;intro Q34 hQ34
       repeat' (first
        | (replace hQ34:=hQ34;simp [d1,d2,d3,d4,hn,f45_c,hp1,hqb,hsn,outV,frzV,frzS,frzP,pureS,K_own,hown])
        | refine hQ34 _ _ _ ?_)
     | true =>
      simp only [if_true]
      have hp1:=plus_c k b x c_v_kind c_v_b c_v_n
      generalize valPlus ⟨k,b,x⟩ ⟨c_v_kind,c_v_b,c_v_n⟩ = w2 at *
      obtain ⟨⟨k2,b2,x2⟩,q2⟩:=w2
      simp only [encV] at hp1
      have h4:=rput_c o ho c_col c_time k2 b2 x2
      simp only [encRow] at h4
      by_cases hq:q2 = 0
      ·subst hq
       simp only [if_true]
       have hown:memL S.own 209 = false:=by kernel_rfl
       refine W_pure hp (by simp [pureV,pureS,pureL]) (apart_does rfl rfl (by kernel_rfl) Tryz.func209 rfl (by simp [Tryz.f209]) ?_)
       simp only [Tryz.f209]
       refine hide ?_;intro Q35 hQ35
       repeat' (first
        | (replace hQ35:=hQ35;simp [d1,d2,d3,d4,hn,hp1,h4,outV,frzV,frzS,frzS_pure,frzP,pureS,K_own,hown])
        | refine hQ35 _ _ _ ?_)
      ·have hqb:(q2 != 0) = true:=by simp [hq]
       simp only [if_neg hq]
       have hown:memL S.own 209 = false:=by kernel_rfl
       refine W_pure hp (by simp [pureV,pureS,pureL]) (apart_does rfl rfl (by kernel_rfl) Tryz.func209 rfl (by simp [Tryz.f209]) ?_)
       simp only [Tryz.f209]
       refine hide ?_;intro Q36 hQ36
       repeat' (first
        | (replace hQ36:=hQ36;simp [d1,d2,d3,d4,hn,hp1,hqb,hsn,outV,frzV,frzS,frzP,pureS,K_own,hown])
        | refine hQ36 _ _ _ ?_)
theorem len_rowB {o:Row} (h:rowB o = true):(ls o).length ≤ 4:=by simp only [rowB,Bool.and_eq_true,decide_eq_true_eq] at h;exact h.2
theorem put_ok (o:Row) (n:BL) (t:Int) (v:Wm.Value):rowCopy (rowPut o n t v).1 = (rowPut o n t v).1:=by
 unfold rowPut
 split
 ·rfl
 ·dsimp only
  split
  ·rfl
  ·exact rowCopy_idem _
theorem one_ok (o:Row) (c:Change) (h:rowCopy o = o):rowCopy (chgOne o c).1 = (chgOne o c).1:=by
 unfold chgOne
 split
 ·exact put_ok _ _ _ _
 ·split
  ·unfold rowDrop
   dsimp only
   split
   ·exact rowCopy_idem _
   ·split <;> exact rowCopy_idem _
  ·split
   ·unfold rowDropCol
    dsimp only
    split <;> exact rowCopy_idem _
   ·split
    ·rfl
    ·dsimp only
     generalize valPlus _ _ = p
     by_cases hp:p.2 = 0
     ·rw [if_pos hp];exact put_ok _ _ _ _
     ·rw [if_neg hp];rfl
theorem all_ok:∀ (l:List Change) (o:Row),rowCopy o = o→rowCopy (chgAll o l).1 = (chgAll o l).1
 | [],o,h=>h
 | c::l,o,h=>by
  unfold chgAll
  dsimp only
  split
  ·exact all_ok l _ (one_ok o c h)
  ·rfl
theorem apply_ok (o:Row) (l:List Change):rowCopy (apply o l).1 = (apply o l).1:=by
 unfold apply
 split
 ·rfl
 ·cases l.find? (fun c=>changeWhy c != 0) with
  | some c=>rfl
  | none=>exact all_ok l _ (rowCopy_idem o)
theorem apply_c (o:Row) (ho:(ls o).length < 1000000) (L:Option (List Change)) (h:H):W K 168 [.agg [sl 2 encColumn o],.one (sl 6 encChange L)] h = some (.ret (.tup [(true,encRow (apply o (ls L)).1),(false,[ii (apply o (ls L)).2])]) h):=by
 have hcp:=rcopy_c o ho
 obtain ⟨res,hres⟩:∃ res,apply o (ls L) = res:=⟨_,rfl⟩
 rw [hres]
 unfold apply at hres
 simp only [encRow] at hcp ⊢
 have hsn:sl 2 encColumn none = .nilslc:=rfl
 by_cases h8:8 < (ls L).length
 ·have d8:decide ((8:Int) < (ls L).length) = true:=by simp;omega
  rw [if_pos h8] at hres
  subst hres
  have hown:memL S.own 168 = false:=by kernel_rfl
  refine W_pure hp (by simp [pureV,pureL]) (apart_does rfl rfl (by kernel_rfl) Tryz.func168 rfl (by simp [Tryz.f168]) ?_)
  simp only [Tryz.f168]
  refine hide ?_;intro Q37 hQ37
  repeat' (first
   | (replace hQ37:=hQ37;simp [h8,hsn,outV,frzV,frzS,frzP,pureS,K_own,hown])
   | refine hQ37 _ _ _ ?_)
 ·rw [if_neg h8] at hres
  have hRb:=rowCopy_idem o
  have hRl:(ls (rowCopy o)).length ≤ 4:=len_rowB (rowCopy_ok o)
  have hown:memL S.own 168 = false:=by kernel_rfl
  refine W_pure hp (by simp [pureV,pureL]) (apart_does rfl rfl (by kernel_rfl) Tryz.func168 rfl (by simp [Tryz.f168]) ?_)
  simp only [Tryz.f168]
  refine hide ?_;intro Q38 hQ38
  repeat' (first
   | (replace hQ38:=hQ38;simp [h8])
   | refine hQ38 _ _ _ ?_)
  refine does_each hp (ls L) (fun a r fr hh=>(2 ≤ hh.next∧hh.f 0 = some ⟨0,[1],true,[sl 2 encColumn o]⟩∧hh.f 1 = some ⟨0,[1],true,[.nilslc]⟩∧(ls L).find? (fun c=>changeWhy c != 0) = r.find? (fun c=>changeWhy c != 0))∧∃ j:Nat→AV,fr = (j 0::(.one (sl 6 encChange L))::(.one (.ptr 0 0 0))::j 3::(.one (.ptr 1 0 0))::j 5::j 6::j 7::j 8::j 9::j 10::j 11::j 12::j 13::j 14::j 15::j 16::(.one (sl 6 encChange L))::(.one (ii (ls L).length))::(.one (ii a.length))::j 20::j 21::j 22::j 23::j 24::j 25::j 26::j 27::j 28::j 29::j 30::j 31::j 32::j 33::j 34::j 35::j 36::j 37::j 38::j 39::j 40::j 41::j 42::j 43::j 44::j 45::j 46::j 47::j 48::j 49::[])) ?_ ?_ _ _ ⟨⟨by simp,by simp,by simp,rfl⟩,ex_get' (by simp)⟩
  ·rintro a x r fr hh hl ⟨⟨i1,i0,i2,i3⟩,j,rfl⟩
   obtain rfl:=ls_cons hl
   have hi:=index_sl (P:=Tryz.prog) (enc:=encChange) (s:=6) (l:=a++x::r) (i:=a.length) Tryz.underlying33 (by simp) (by omega) (by simp)
   have hr:=sub_flat (enc:=encChange) (s:=6) len_change a x r (o:=0) (n:=6) (by omega)
   rw [sub_all (len_change x),Nat.add_zero] at hr
   have hlt2:a.length < (a++x::r).length:=by simp
   have hw:IntKind.i64.wrap ((a.length:Int) + 1) = ((a++[x]).length:Int):=by rw [step_len];exact step_wrap (by simp at h8;omega)
   have hne:¬ 1 = hh.next:=by omega
   have hne0:¬ 0 = hh.next:=by omega
   obtain ⟨xk,xc,xt,⟨vk,vb,vn⟩⟩:=x
   have hcr:=changeRight_c xk xc xt vk vb vn
   simp only [encChange] at hr
   by_cases hc:changeWhy ⟨xk,xc,xt,⟨vk,vb,vn⟩⟩ = 0
   ·have hi4:(ls (some (a++⟨xk,xc,xt,⟨vk,vb,vn⟩⟩::r))).find? (fun c=>changeWhy c != 0) = r.find? (fun c=>changeWhy c != 0):=by rw [i3];simp [hc]
    have hcb:(changeWhy ⟨xk,xc,xt,⟨vk,vb,vn⟩⟩ != 0) = false:=by simp [hc]
    rw [hc] at hcr
    generalize (a++(⟨xk,xc,xt,⟨vk,vb,vn⟩⟩:Change)::r) = l at *
    generalize (a++[(⟨xk,xc,xt,⟨vk,vb,vn⟩⟩:Change)]) = A2 at *
    first | (refine hide ?_;intro Q39 hQ39) | have hQ39:=True.intro
    repeat' (first
     | (replace hQ39:=hQ39;simp [hi,hr,hlt2,hcr,hw])
     | (refine hQ39 _ _ _ ?_;clear hQ39 Q39;first | simp only [] | skip)
     | (refine hadQ (by assumption) ?_;(try clear hQ39);first | simp only [] | skip)
     | ((fail_if_success replace hQ39:=hQ39);(first | refine hide ?_ | refine hideS ?_ | refine hideB ?_);intro Q39 hQ39))
    all_goals first | (refine ⟨⟨by simp;omega,by simp [hne0,i0],by simp [hne,i2],hi4⟩,ex_get' (by simp)⟩) | trace_state
   ·have hfx:applyGo o (ls (some (a++⟨xk,xc,xt,⟨vk,vb,vn⟩⟩::r))) ((ls (some (a++⟨xk,xc,xt,⟨vk,vb,vn⟩⟩::r))).find? (fun c=>changeWhy c != 0)) = (none,changeWhy ⟨xk,xc,xt,⟨vk,vb,vn⟩⟩):=by
     rw [i3];simp [hc,applyGo]
    rw [hfx] at hres
    subst hres
    have hcb:(changeWhy ⟨xk,xc,xt,⟨vk,vb,vn⟩⟩ != 0) = true:=by simp [hc]
    generalize changeWhy ⟨xk,xc,xt,⟨vk,vb,vn⟩⟩ = why at *
    generalize (a++(⟨xk,xc,xt,⟨vk,vb,vn⟩⟩:Change)::r) = l at *
    first | (refine hide ?_;intro Q40 hQ40) | have hQ40:=True.intro
    repeat' (first
     | (replace hQ40:=hQ40;simp [i2,hi,hr,hlt2,hne,hcr,hcb])
     | (refine hQ40 _ _ _ ?_;clear hQ40 Q40;first | simp only [] | skip)
     | (refine hadQ (by assumption) ?_;(try clear hQ40);first | simp only [] | skip)
     | ((fail_if_success replace hQ40:=hQ40);(first | refine hide ?_ | refine hideS ?_ | refine hideB ?_);intro Q40 hQ40))
    all_goals (simp [hsn,outV,frzV,frzS,frzP,pureS,K_own,hown])
  ·rintro fr hh ⟨⟨i1,i0,i2,i3⟩,j,rfl⟩
   rw [i3] at hres
   simp only [List.find?_nil,applyGo] at hres
   generalize hRR:rowCopy o = R0 at *
   have hne:¬ 1 = hh.next:=by omega
   first | (refine hide ?_;intro Q41 hQ41) | have hQ41:=True.intro
   repeat' (first
    | (replace hQ41:=hQ41;simp [i0,hcp])
    | (refine hQ41 _ _ _ ?_;clear hQ41 Q41;first | simp only [] | skip)
    | (refine hadQ (by assumption) ?_;(try clear hQ41);first | simp only [] | skip)
    | ((fail_if_success replace hQ41:=hQ41);(first | refine hide ?_ | refine hideS ?_ | refine hideB ?_);intro Q41 hQ41))
   refine does_each hp (ls L) (fun a r fr h2=>(hh.next < h2.next∧h2.f 1 = some ⟨0,[1],true,[.nilslc]⟩∧∃ R:Row,h2.f hh.next = some ⟨0,[1],true,[sl 2 encColumn R]⟩∧rowCopy R = R∧chgAll R r = res)∧∃ j:Nat→AV,fr = (j 0::j 1::j 2::j 3::(.one (.ptr 1 0 0))::j 5::j 6::j 7::j 8::(.one (.ptr hh.next 0 0))::j 10::j 11::j 12::j 13::j 14::j 15::j 16::j 17::j 18::j 19::j 20::j 21::j 22::j 23::j 24::j 25::j 26::j 27::j 28::j 29::j 30::j 31::(.one (sl 6 encChange L))::(.one (ii (ls L).length))::(.one (ii a.length))::j 35::j 36::j 37::j 38::j 39::j 40::j 41::j 42::j 43::j 44::j 45::j 46::j 47::j 48::j 49::[])) ?_ ?_ _ _ ⟨⟨by simp,by simp [hne,i2],R0,by simp,hRb,hres⟩,ex_get' (by simp)⟩
   ·rintro a x r fr h2 hl ⟨⟨k1,k2,R,k3,k4,k5⟩,j,rfl⟩
    obtain rfl:=ls_cons hl
    have hi:=index_sl (P:=Tryz.prog) (enc:=encChange) (s:=6) (l:=a++x::r) (i:=a.length) Tryz.underlying33 (by simp) (by omega) (by simp)
    have hr:=sub_flat (enc:=encChange) (s:=6) len_change a x r (o:=0) (n:=6) (by omega)
    rw [sub_all (len_change x),Nat.add_zero] at hr
    have hlt2:a.length < (a++x::r).length:=by simp
    have hw:IntKind.i64.wrap ((a.length:Int) + 1) = ((a++[x]).length:Int):=by rw [step_len];exact step_wrap (by simp at h8;omega)
    have hne1:¬ 1 = h2.next:=by omega
    have hne2:¬ hh.next = h2.next:=by omega
    have hne3:¬ 1 = hh.next:=hne
    have hRl:(ls R).length < 1000000:=by rw [← k4];have:=len_rowB (rowCopy_ok R);omega
    obtain ⟨xk,xc,xt,⟨vk,vb,vn⟩⟩:=x
    have hone:=one_c R hRl xk xc xt vk vb vn
    have hok1:=one_ok R ⟨xk,xc,xt,⟨vk,vb,vn⟩⟩ k4
    unfold chgAll at k5
    dsimp only at k5
    simp only [encChange,encRow] at hr hone
    generalize chgOne R ⟨xk,xc,xt,⟨vk,vb,vn⟩⟩ = w at *
    obtain ⟨R2,q2⟩:=w
    simp only at k5 hone hok1
    by_cases hq:q2 = 0
    ·rw [if_pos hq] at k5
     subst hq
     generalize (a++(⟨xk,xc,xt,⟨vk,vb,vn⟩⟩:Change)::r) = l at *
     generalize (a++[(⟨xk,xc,xt,⟨vk,vb,vn⟩⟩:Change)]) = A2 at *
     first | (refine hide ?_;intro Q42 hQ42) | have hQ42:=True.intro
     repeat' (first
      | (replace hQ42:=hQ42;simp [k3,hi,hr,hlt2,hne2,hone,hw])
      | (refine hQ42 _ _ _ ?_;clear hQ42 Q42;first | simp only [] | skip)
      | (refine hadQ (by assumption) ?_;(try clear hQ42);first | simp only [] | skip)
      | ((fail_if_success replace hQ42:=hQ42);(first | refine hide ?_ | refine hideS ?_ | refine hideB ?_);intro Q42 hQ42))
     all_goals first | (refine ⟨⟨by simp;omega,by simp [hne1,hne3,k2],R2,by simp,hok1,k5⟩,ex_get' (by simp)⟩) | trace_state
    ·rw [if_neg hq] at k5
     subst k5
     have hqb:(q2 != 0) = true:=by simp [hq]
     generalize (a++(⟨xk,xc,xt,⟨vk,vb,vn⟩⟩:Change)::r) = l at *
     first | (refine hide ?_;intro Q43 hQ43) | have hQ43:=True.intro
     repeat' (first
      | (replace hQ43:=hQ43;simp [k2,k3,hi,hr,hlt2,hne1,hne2,hne3,hone,hqb])
      | (refine hQ43 _ _ _ ?_;clear hQ43 Q43;first | simp only [] | skip)
      | (refine hadQ (by assumption) ?_;(try clear hQ43);first | simp only [] | skip)
      | ((fail_if_success replace hQ43:=hQ43);(first | refine hide ?_ | refine hideS ?_ | refine hideB ?_);intro Q43 hQ43))
     all_goals (simp [hsn,outV,frzV,frzS,frzP,pureS,K_own,hown])
   ·rintro fr h2 ⟨⟨k1,k2,R,k3,k4,k5⟩,j,rfl⟩
    have k5':(R,(0:Int)) = res:=k5
    subst k5'
    first | (refine hide ?_;intro Q44 hQ44) | have hQ44:=True.intro
    repeat' (first
     | (replace hQ44:=hQ44;simp [k2,k3])
     | (refine hQ44 _ _ _ ?_;clear hQ44 Q44;first | simp only [] | skip)
     | (refine hadQ (by assumption) ?_;(try clear hQ44);first | simp only [] | skip)
     | ((fail_if_success replace hQ44:=hQ44);(first | refine hide ?_ | refine hideS ?_ | refine hideB ?_);intro Q44 hQ44))
    all_goals (simp [outV,frzV,frzS,frzS_pure,frzP,pureS,K_own,hown])
end Go.Proofs.YtiagcnfmgigllaaGreat
