/- A part of a proof over the abstract machine. No conditions. -/
import Derived.Test.YtofafocfemikcaaGreatC3
import Derived.Test.YtofafocfemikcaaGreatAb5
set_option linter.unusedSimpArgs false
set_option linter.unnecessarySimpa false
set_option linter.unusedVariables false
namespace Go.Proofs.YtofafocfemikcaaGreat
open Go Go.Ab Wm NumPlain
set_option maxRecDepth 10000
set_option maxHeartbeats 4000000
theorem within_c (n lo hi:Int) (h1:-1099511627776 ≤ lo) (h2:lo ≤ hi) (h3:hi ≤ 1099511627776) (hn:-9223372036854775808 ≤ n∧n < 9223372036854775808) (h:H):W K 11 [.one (ii n),.one (ii lo),.one (ii hi)] h = some (.ret (.one (ii (withinI n lo hi))) h):=by
 have hd:0 < hi - lo + 1:=by omega
 have m1:=Int.tmod_lt_of_pos n hd
 have m2:-(hi - lo + 1) < n.tmod (hi - lo + 1):=by
  rcases Int.le_total 0 n with h | h
  ·have:=Int.tmod_nonneg (hi - lo + 1) h;omega
  ·have h3:=Int.tmod_lt_of_pos (-n) hd
   rw [Int.neg_tmod] at h3;omega
 have w1:IntKind.i64.wrap (hi - lo) = hi - lo:=wrap_i64 (by omega) (by omega)
 have w2:IntKind.i64.wrap (hi - lo + 1) = hi - lo + 1:=wrap_i64 (by omega) (by omega)
 have e0:¬ hi - lo + 1 = 0:=by omega
 unfold withinI
 generalize hm:n.tmod (hi - lo + 1) = m at *
 have w3:IntKind.i64.wrap (m + hi) = m + hi:=wrap_i64 (by omega) (by omega)
 have w4:IntKind.i64.wrap (m + hi - lo) = m + hi - lo:=wrap_i64 (by omega) (by omega)
 have w5:IntKind.i64.wrap (m + hi - lo + 1) = m + hi - lo + 1:=wrap_i64 (by omega) (by omega)
 have w6:IntKind.i64.wrap (lo + m) = lo + m:=wrap_i64 (by omega) (by omega)
 have w7:IntKind.i64.wrap (lo + (m + hi - lo + 1)) = lo + (m + hi - lo + 1):=wrap_i64 (by omega) (by omega)
 have hown:memL S.own 11 = false:=by kernel_rfl
 refine W_pure hp (by simp [pureV,w1,w2,w3,w4,w5,w6,w7,e0,hm,outV,frzV,frzS,frzS_pure,frzP,pureS,pureL,K_own,hown]) (apart_does rfl rfl (by kernel_rfl) Tryz.func11 rfl (by simp [Tryz.f11]) ?_)
 simp only [Tryz.f11]
 refine hide ?_;intro Q1 hQ1
 repeat' (first
  | (replace hQ1:=hQ1;simp [w1,w2,w3,w4,w5,w6,w7,e0,hm,outV,frzV,frzS,frzS_pure,frzP,pureS,pureL,K_own,hown])
  | (refine hQ1 _ _ _ ?_;clear hQ1 Q1;first | simp only [] | simp [w1,w2,w3,w4,w5,w6,w7,e0,hm,outV,frzV,frzS,frzS_pure,frzP,pureS,pureL,K_own,hown])
  | (first | apply cF | apply wN | apply wS) <;> intro hcnd <;> (try simp only [hcnd]) <;> (try simp [-List.isEmpty_iff,-List.isEmpty_eq_false_iff] at hcnd))
 all_goals first | done | (simp_all [-List.isEmpty_iff,-List.isEmpty_eq_false_iff,← List.isEmpty_iff];done) | (simp_all;done) | (simp_all;omega) | (simp;omega) | (intros;omega) | (intros;simp only [decide_eq_true_eq] at *;omega) | (intros;simp at *;omega) | skip
def I64 (n:Int):Prop:=-9223372036854775808 ≤ n∧n < 9223372036854775808
theorem m20_c (n:Int) (hn:I64 n) (h:H):W K 11 [.one (ii n),.one (.int .i64 0),.one (.int .i64 1048576)] h = some (.ret (.one (ii (m20 n))) h):=within_c n 0 1048576 (by omega) (by omega) (by omega) hn h
theorem tmod_pos {a b:Int} (h:0 ≤ a):a.tmod b = a % b:=Int.tmod_eq_emod_of_nonneg h
def encName (s:BL):List AS:=[.str s]
theorem bs_size (o:Option BL):sliceSize Tryz.prog 31 (bs o) = some 1:=by cases o <;> simp [sliceSize,bs_none,bs_some]
theorem pick_g (l:List BL) (hl:0 < l.length∧l.length < 1000) (n:Int) (hn:I64 n):Fun K 54 [.one (sl 1 encName (some l)),.one (ii n)] (fun h=>.ret (.one (.str (pickN l n))) h):=by
 have hw:=m20_c n hn
 have hb:=m20_bounds n
 have e0:¬ (l.length:Int) = 0:=by omega
 have e1:(m20 n).tmod l.length = m20 n % l.length:=tmod_pos hb.1
 have b1:=Int.emod_nonneg (m20 n) (show (l.length:Int) ≠ 0 by omega)
 have b2:=Int.emod_lt_of_pos (m20 n) (show (0:Int) < l.length by omega)
 have hk:(m20 n % l.length).toNat < l.length:=by omega
 have hi:=index_sl (P:=Tryz.prog) (enc:=encName) (s:=1) (l:=l) (i:=(m20 n % l.length).toNat) Tryz.underlying125 (by simp) (by omega) hk
 have hr:sub (cat encName l) (m20 n % l.length).toNat 1 = some [.str (pickN l n)]:=by
  have h1:l = l.take (m20 n % l.length).toNat++l[(m20 n % l.length).toNat]::l.drop ((m20 n % l.length).toNat + 1):=by
   rw [List.getElem_cons_drop,List.take_append_drop]
  have h2:=sub_flat (enc:=encName) (s:=1) (fun _=>rfl) (l.take (m20 n % l.length).toNat) l[(m20 n % l.length).toNat] (l.drop ((m20 n % l.length).toNat + 1)) (o:=0) (n:=1) (by omega)
  rw [← h1,List.length_take,Nat.min_eq_left (by omega),Nat.mul_one,Nat.add_zero] at h2
  rw [h2]
  simp [encName,pickN,hk]
 have hp':pureS false (sl 1 encName (some l)) = true:=pureS_sl (fun _=>rfl) _
 have hne:¬ l = []:=by rintro rfl;simp at hl
 have hown:memL S.own 54 = false:=by kernel_rfl
 refine ⟨by simp [pureV,hw,e0,e1,hi,hr,b1,hp',hne,outV,frzV,frzS,frzS_pure,frzP,pureS,pureL,K_own,hown],fun hh=>apart_does rfl rfl (by kernel_rfl) Tryz.func54 rfl (by simp [Tryz.f54]) ?_⟩
 simp only [Tryz.f54]
 refine hide ?_;intro Q2 hQ2
 repeat' (first
  | (replace hQ2:=hQ2;simp [hw,e0,e1,hi,hr,b1,hp',hne,outV,frzV,frzS,frzS_pure,frzP,pureS,pureL,K_own,hown])
  | refine hQ2 _ _ _ ?_)
theorem row_c (n:Int) (hn:I64 n) (h:H):W K 41 [.one (ii n)] h = some (.ret (.one (.str (keepRow n))) h):=by
 have hv:∀ h':H,h'.f 0 = some ⟨0,[8],true,cat encName rowNames⟩→W K 54 [.one (.slc 0 0 0 8 1 none),.one (ii n)] h' = some (.ret (.one (.str (keepRow n))) h'):=by
  intro h' hf
  refine (pick_g rowNames (by decide) n hn).view hp ?_
  simp [viewA,viewV,viewS,pureV,pureS,hf,rowNames,encName,cat,sl]
 have hv2:=hv (H.empty.new ⟨0,[8],true,cat encName rowNames⟩) (by simp)
 simp only [rowNames,encName,cat,List.flatMap_cons,List.flatMap_nil,List.append_nil,List.cons_append,List.nil_append] at hv2
 have hown:memL S.own 41 = false:=by kernel_rfl
 refine W_pure hp (by simp [pureV,hv2,outV,frzV,frzS,frzS_pure,frzP,pureS,pureL,K_own,hown]) (apart_does rfl rfl (by kernel_rfl) Tryz.func41 rfl (by simp [Tryz.f41]) ?_)
 simp only [Tryz.f41]
 refine hide ?_;intro Q3 hQ3
 repeat' (first
  | (replace hQ3:=hQ3;simp [hv2,outV,frzV,frzS,frzS_pure,frzP,pureS,pureL,K_own,hown])
  | refine hQ3 _ _ _ ?_)
theorem col_c (n:Int) (hn:I64 n) (h:H):W K 43 [.one (ii n)] h = some (.ret (.one (.str (keepCol n))) h):=by
 have hv:∀ h':H,h'.f 0 = some ⟨0,[5],true,cat encName colNames⟩→W K 54 [.one (.slc 0 0 0 5 1 none),.one (ii n)] h' = some (.ret (.one (.str (keepCol n))) h'):=by
  intro h' hf
  refine (pick_g colNames (by decide) n hn).view hp ?_
  simp [viewA,viewV,viewS,pureV,pureS,hf,colNames,encName,cat,sl]
 have hv2:=hv (H.empty.new ⟨0,[5],true,cat encName colNames⟩) (by simp)
 simp only [colNames,encName,cat,List.flatMap_cons,List.flatMap_nil,List.append_nil,List.cons_append,List.nil_append] at hv2
 have hown:memL S.own 43 = false:=by kernel_rfl
 refine W_pure hp (by simp [pureV,hv2,outV,frzV,frzS,frzS_pure,frzP,pureS,pureL,K_own,hown]) (apart_does rfl rfl (by kernel_rfl) Tryz.func43 rfl (by simp [Tryz.f43]) ?_)
 simp only [Tryz.f43]
 refine hide ?_;intro Q4 hQ4
 repeat' (first
  | (replace hQ4:=hQ4;simp [hv2,outV,frzV,frzS,frzS_pure,frzP,pureS,pureL,K_own,hown])
  | refine hQ4 _ _ _ ?_)
theorem cut_c (o:Option BL) (n:Nat) (hn:n < 9223372036854775807) (h:H):W K 12 [.one (bs o),.one (ii n)] h = some (.ret (.one (bs (cutB o n))) h):=by
 have e:(decide ((n:Int) < (ls o).length)) = decide (n < (ls o).length):=by rw [decide_eq_decide];omega
 by_cases hc:n < (ls o).length
 ·have hs:bs (cutB o n) = .vs n 1 (((ls o).map byteS).take n):=by
   unfold cutB;rw [if_pos hc,bs_some,List.length_take,Nat.min_eq_left (by omega),List.map_take]
  cases o with
  | none=>simp at hc
  | some l =>
   simp only [ls_some] at hc hs e
   have hsl:∀ h':H,sliceA h' 1 (bs (some l)) none (some (.one (ii n))) none = some (bs (cutB (some l) n)):=by
    intro h'
    rw [hs,bs_some]
    have hq:(l.map byteS).length = l.length:=by simp
    simp [sliceA,bound,sub,hc,Nat.le_of_lt hc]
   have hown:memL S.own 12 = false:=by kernel_rfl
   refine W_pure hp (by simp [pureV,e,hc,hsl,bs_size,outV,frzV,frzS,frzS_pure,frzP,pureS,pureL,K_own,hown]) (apart_does rfl rfl (by kernel_rfl) Tryz.func12 rfl (by simp [Tryz.f12]) ?_)
   simp only [Tryz.f12]
   refine hide ?_;intro Q5 hQ5
   repeat' (first
    | (replace hQ5:=hQ5;simp [e,hc,hsl,bs_size,outV,frzV,frzS,frzS_pure,frzP,pureS,pureL,K_own,hown])
    | refine hQ5 _ _ _ ?_
    | (first | apply cF | apply wN | apply wS) <;> intro hcnd <;> (try simp only [hcnd]) <;> (try simp [-List.isEmpty_iff,-List.isEmpty_eq_false_iff] at hcnd))
 ·have hs:cutB o n = o:=by unfold cutB;rw [if_neg hc]
  rw [hs]
  have hown:memL S.own 12 = false:=by kernel_rfl
  refine W_pure hp (by simp [pureV,e,hc,outV,frzV,frzS,frzS_pure,frzP,pureS,pureL,K_own,hown]) (apart_does rfl rfl (by kernel_rfl) Tryz.func12 rfl (by simp [Tryz.f12]) ?_)
  simp only [Tryz.f12]
  refine hide ?_;intro Q6 hQ6
  repeat' (first
   | (replace hQ6:=hQ6;simp [e,hc,outV,frzV,frzS,frzS_pure,frzP,pureS,pureL,K_own,hown])
   | refine hQ6 _ _ _ ?_
   | (first | apply cF | apply wN | apply wS) <;> intro hcnd <;> (try simp only [hcnd]) <;> (try simp [-List.isEmpty_iff,-List.isEmpty_eq_false_iff] at hcnd))
theorem f45_c (h:H):W K 63 [.one (.flt 0),.one (.flt 13830554455654793216)] h = some (.ret (.one (.flt 9223372036854775808)) h):=by
 have e1:andNotI .u64 0 9223372036854775808 = 0:=by decide +kernel
 have e2:andI .u64 13830554455654793216 9223372036854775808 = 9223372036854775808:=by decide +kernel
 have e3:orI .u64 0 9223372036854775808 = 9223372036854775808:=by decide +kernel
 have hown:memL S.own 63 = false:=by kernel_rfl
 refine W_pure hp (by simp [pureV,fbits_c,frombits_c,e1,e2,e3,outV,frzV,frzS,frzS_pure,frzP,pureS,pureL,K_own,hown]) (apart_does rfl rfl (by kernel_rfl) Tryz.func63 rfl (by simp [Tryz.f63]) ?_)
 simp only [Tryz.f63]
 refine hide ?_;intro Q7 hQ7
 repeat' (first
  | (replace hQ7:=hQ7;simp [fbits_c,frombits_c,e1,e2,e3,outV,frzV,frzS,frzS_pure,frzP,pureS,pureL,K_own,hown])
  | refine hQ7 _ _ _ ?_)
theorem inf1_c (h:H):W K 64 [.one (.int .i64 1)] h = some (.ret (.one (.flt 9218868437227405312)) h):=by
 have hown:memL S.own 64 = false:=by kernel_rfl
 refine W_pure hp (by simp [pureV,frombits_c,outV,frzV,frzS,frzS_pure,frzP,pureS,pureL,K_own,hown]) (apart_does rfl rfl (by kernel_rfl) Tryz.func64 rfl (by simp [Tryz.f64]) ?_)
 simp only [Tryz.f64]
 refine hide ?_;intro Q8 hQ8
 repeat' (first
  | (replace hQ8:=hQ8;simp [frombits_c,outV,frzV,frzS,frzS_pure,frzP,pureS,pureL,K_own,hown])
  | refine hQ8 _ _ _ ?_
  | (first | apply cF | apply wN | apply wS) <;> intro hcnd <;> (try simp only [hcnd]) <;> (try simp [-List.isEmpty_iff,-List.isEmpty_eq_false_iff] at hcnd))
theorem inf2_c (h:H):W K 64 [.one (.int .i64 (-1))] h = some (.ret (.one (.flt 18442240474082181120)) h):=by
 have hown:memL S.own 64 = false:=by kernel_rfl
 refine W_pure hp (by simp [pureV,frombits_c,outV,frzV,frzS,frzS_pure,frzP,pureS,pureL,K_own,hown]) (apart_does rfl rfl (by kernel_rfl) Tryz.func64 rfl (by simp [Tryz.f64]) ?_)
 simp only [Tryz.f64]
 refine hide ?_;intro Q9 hQ9
 repeat' (first
  | (replace hQ9:=hQ9;simp [frombits_c,outV,frzV,frzS,frzS_pure,frzP,pureS,pureL,K_own,hown])
  | refine hQ9 _ _ _ ?_
  | (first | apply cF | apply wN | apply wS) <;> intro hcnd <;> (try simp only [hcnd]) <;> (try simp [-List.isEmpty_iff,-List.isEmpty_eq_false_iff] at hcnd))
theorem nan_c (h:H):W K 65 [] h = some (.ret (.one (.flt 9221120237041090561)) h):=by
 have hown:memL S.own 65 = false:=by kernel_rfl
 refine W_pure hp (by simp [pureV,frombits_c,outV,frzV,frzS,frzS_pure,frzP,pureS,pureL,K_own,hown]) (apart_does rfl rfl (by kernel_rfl) Tryz.func65 rfl (by simp [Tryz.f65]) ?_)
 simp only [Tryz.f65]
 refine hide ?_;intro Q10 hQ10
 repeat' (first
  | (replace hQ10:=hQ10;simp [frombits_c,outV,frzV,frzS,frzS_pure,frzP,pureS,pureL,K_own,hown])
  | refine hQ10 _ _ _ ?_)
theorem kfloat_c (n:Int) (x:Nat) (hn:I64 n) (h:H):W K 56 [.one (ii n),.one (.flt x)] h = some (.ret (.one (.flt (kFloat n x))) h):=by
 have hw:=m20_c n hn
 have hb:=m20_bounds n
 have e1:(m20 n).tmod 9 = m20 n % 9:=tmod_pos hb.1
 have e2:(m20 n).tmod 20 = m20 n % 20:=tmod_pos hb.1
 have w1:IntKind.i64.wrap (m20 n % 20 - 9) = m20 n % 20 - 9:=wrap_i64 (by omega) (by omega)
 have hown:memL S.own 56 = false:=by kernel_rfl
 refine W_pure hp (by simp [pureV,hw,e1,e2,w1,kFloat,f45_c,inf1_c,inf2_c,nan_c,frombits_c,convA,outV,frzV,frzS,frzS_pure,frzP,pureS,pureL,K_own,hown]) (apart_does rfl rfl (by kernel_rfl) Tryz.func56 rfl (by simp [Tryz.f56]) ?_)
 simp only [Tryz.f56]
 refine hide ?_;intro Q11 hQ11
 repeat' (first
  | (replace hQ11:=hQ11;simp [hw,e1,e2,w1,kFloat,f45_c,inf1_c,inf2_c,nan_c,frombits_c,convA,outV,frzV,frzS,frzS_pure,frzP,pureS,pureL,K_own,hown])
  | (refine hQ11 _ _ _ ?_;clear hQ11 Q11;first | simp only [] | simp [hw,e1,e2,w1,kFloat,f45_c,inf1_c,inf2_c,nan_c,frombits_c,convA,outV,frzV,frzS,frzS_pure,frzP,pureS,pureL,K_own,hown])
  | (first | apply cF | apply wN | apply wS) <;> intro hcnd <;> (try simp only [hcnd]) <;> (try simp [-List.isEmpty_iff,-List.isEmpty_eq_false_iff] at hcnd))
 all_goals first | done | (simp_all [-List.isEmpty_iff,-List.isEmpty_eq_false_iff,← List.isEmpty_iff];done) | (simp_all;done) | (simp_all;omega) | (simp;omega) | (intros;omega) | (intros;simp only [decide_eq_true_eq] at *;omega) | (intros;simp at *;omega) | skip
theorem kvalue_c (v_text:Bool) (v_n:Int) (v_x:Nat) (v_b:Option BL) (hn:I64 v_n) (h:H):W K 44 [.agg [.bool v_text,ii v_n,.flt v_x,bs v_b]] h = some (.ret (.agg (encV (kValue ⟨v_text,v_n,v_x,v_b⟩))) h):=by
 have hf:=kfloat_c v_n v_x hn
 have hc:∀ h,W K 12 [.one (bs v_b),.one (.int .i64 16)] h = some (.ret (.one (bs (cutB v_b 16))) h):=fun h=>cut_c v_b 16 (by omega) h
 have hown:memL S.own 44 = false:=by kernel_rfl
 refine W_pure hp (by simp [pureV,hf,hc,kValue,encV,bs_none,outV,frzV,frzS,frzS_pure,frzP,pureS,pureL,K_own,hown]) (apart_does rfl rfl (by kernel_rfl) Tryz.func44 rfl (by simp [Tryz.f44]) ?_)
 simp only [Tryz.f44]
 refine hide ?_;intro Q12 hQ12
 repeat' (first
  | (replace hQ12:=hQ12;simp [hf,hc,kValue,encV,bs_none,outV,frzV,frzS,frzS_pure,frzP,pureS,pureL,K_own,hown])
  | refine hQ12 _ _ _ ?_
  | (first | apply cF | apply wN | apply wS) <;> intro hcnd <;> (try simp only [hcnd]) <;> (try simp [-List.isEmpty_iff,-List.isEmpty_eq_false_iff] at hcnd))
 all_goals simp_all [bs_none]
theorem kchange_c (c_kind:Int) (c_col:Int) (c_time:Int) (c_v_text:Bool) (c_v_n:Int) (c_v_x:Nat) (c_v_b:Option BL) (h1:I64 c_kind) (h2:I64 c_col) (h3:I64 c_time) (h4:I64 c_v_n) (h:H):W K 55 [.agg [ii c_kind,ii c_col,ii c_time,.bool c_v_text,ii c_v_n,.flt c_v_x,bs c_v_b]] h = some (.ret (.agg (encChange (kChange ⟨c_kind,c_col,c_time,⟨c_v_text,c_v_n,c_v_x,c_v_b⟩⟩))) h):=by
 have hk:=m20_c c_kind h1
 have hb:=m20_bounds c_kind
 have e1:(m20 c_kind).tmod 5 = m20 c_kind % 5:=tmod_pos hb.1
 have w1:IntKind.i64.wrap (1 + m20 c_kind % 5) = 1 + m20 c_kind % 5:=wrap_i64 (by omega) (by omega)
 have hc:=col_c c_col h2
 have ht:∀ h:H,W K 11 [.one (ii c_time),.one (.int .i64 0),.one (.int .i64 30)] h = some (.ret (.one (ii (withinI c_time 0 30))) h):=fun h=>within_c c_time 0 30 (by omega) (by omega) (by omega) h3 h
 have hv:=kvalue_c c_v_text c_v_n c_v_x c_v_b h4
 have hf:=kfloat_c c_v_n c_v_x h4
 have hx:∀ k,1 + m20 c_kind % 5 = k→kChange ⟨c_kind,c_col,c_time,⟨c_v_text,c_v_n,c_v_x,c_v_b⟩⟩ = if k = 5 then ⟨5,keepCol c_col,withinI c_time 0 30,⟨2,none,kFloat c_v_n c_v_x⟩⟩
  else if k = 2 then ⟨2,keepCol c_col,withinI c_time 0 30,⟨0,none,0⟩⟩ else if k = 3 then ⟨3,keepCol c_col,0,⟨0,none,0⟩⟩ else if k = 4 then ⟨4,[],0,⟨0,none,0⟩⟩
  else ⟨k,keepCol c_col,withinI c_time 0 30,kValue ⟨c_v_text,c_v_n,c_v_x,c_v_b⟩⟩:=by rintro k rfl;rfl
 obtain ⟨k,hk5⟩:∃ k,1 + m20 c_kind % 5 = k:=⟨_,rfl⟩
 have w2:IntKind.i64.wrap (1 + m20 c_kind % 5) = k:=by rw [w1,hk5]
 rw [hx k hk5]
 clear hx hk5 hb w1
 have hown:memL S.own 55 = false:=by kernel_rfl
 refine W_pure hp (by simp [pureV,hk,e1,w2,hc,ht,hv,hf,encChange,encV,bs_none,outV,frzV,frzS,frzS_pure,frzP,pureS,pureL,K_own,hown]) (apart_does rfl rfl (by kernel_rfl) Tryz.func55 rfl (by simp [Tryz.f55]) ?_)
 simp only [Tryz.f55]
 refine hide ?_;intro Q13 hQ13
 repeat' (first
  | (replace hQ13:=hQ13;simp [hk,e1,w2,hc,ht,hv,hf,encChange,encV,bs_none,outV,frzV,frzS,frzS_pure,frzP,pureS,pureL,K_own,hown])
  | refine hQ13 _ _ _ ?_
  | refine dF (id:=1) [0,1,2,3,4,5,6,7,8,9,10,11,12,13,14,15,16] [(2,6),(2,9),(2,12),(7,9),(7,12),(10,12)] ?_
  | (first | apply cF | apply wN | apply wS) <;> intro hcnd <;> (try simp only [hcnd]) <;> (try simp [-List.isEmpty_iff,-List.isEmpty_eq_false_iff] at hcnd))
 all_goals first | (subst_vars;simp [bs_none];done) | (simp [bs_none, *];done) | (simp_all [bs_none];done) | skip
def KCok (c:KC):Prop:=I64 c.kind∧I64 c.col∧I64 c.time∧I64 c.v.n
def KOok (o:KO):Prop:=I64 o.kind∧I64 o.row∧I64 o.hi∧I64 o.most∧I64 o.col∧I64 o.v.n∧∀ c ∈ ls o.l,KCok c
theorem kchangeX_c (c:KC) (hc:KCok c) (h:H):W K 55 [.agg (encKC c)] h = some (.ret (.agg (encChange (kChange c))) h):=by
 obtain ⟨c_kind,c_col,c_time,⟨c_v_text,c_v_n,c_v_x,c_v_b⟩⟩:=c
 exact kchange_c c_kind c_col c_time c_v_text c_v_n c_v_x c_v_b hc.1 hc.2.1 hc.2.2.1 hc.2.2.2 h
theorem kchanges_c (o:Option (List KC)) (ho:∀ c ∈ ls o,KCok c) (h:H):W K 42 [.one (sl 7 encKC o),.one (.int .i64 4)] h = some (.ret (.one (sl 6 encChange (kChanges o))) h):=by
 have hown:memL S.own 42 = false:=by kernel_rfl
 refine W_pure hp (by simp [pureV,outV,frzV,frzS,frzS_pure,frzP,pureS,pureL,K_own,hown]) (apart_does rfl rfl (by kernel_rfl) Tryz.func42 rfl (by simp [Tryz.f42]) ?_)
 simp only [Tryz.f42]
 refine hide ?_;intro Q14 hQ14
 repeat' (first
  | (replace hQ14:=hQ14;simp [outV,frzV,frzS,frzS_pure,frzP,pureS,pureL,K_own,hown])
  | refine hQ14 _ _ _ ?_
  | (first | apply cF | apply wN | apply wS) <;> intro hcnd <;> (try simp only [hcnd]) <;> (try simp [-List.isEmpty_iff,-List.isEmpty_eq_false_iff] at hcnd))
 refine does_count hp (min 4 (ls o).length) (fun i fr hh=>∃ s,Grown hh 6 encChange s (((ls o).take i).map kChange)∧∃ j,fr = ((.one (sl 7 encKC o))::(.one (.int .i64 4))::j 2::j 3::j 4::(.one s)::(.one (ii i))::j 7::j 8::j 9::j 10::j 11::j 12::j 13::j 14::j 15::j 16::j 17::j 18::j 19::j 20::j 21::j 22::j 23::j 24::j 25::j 26::[])) ?_ ?_ _ _ ⟨.nilslc,by simpa using grown_nil _ _ _,ex_get' (by simp)⟩
 ·rintro i fr hh hi ⟨s,g,j,rfl⟩
  have h4:i < 4:=by omega
  have hll:i < (ls o).length:=by omega
  obtain ⟨a,x,r,hax,hai⟩:∃ a x r,ls o = a++x::r∧a.length = i:=by
   refine ⟨(ls o).take i,(ls o)[i],(ls o).drop (i + 1), ?_,by rw [List.length_take];omega⟩
   rw [List.getElem_cons_drop,List.take_append_drop]
  obtain rfl:=ls_cons hax
  subst hai
  have hx:=kchangeX_c x (ho x (by simp))
  have ht1:(ls (some (a++x::r))).take a.length = a:=by simp
  have ht2:(ls (some (a++x::r))).take (a.length + 1) = a++[x]:=by rw [ls_some,show a++x::r = (a++[x])++r by simp];exact List.take_left' (by simp)
  rw [ht1] at g
  have hi:=index_sl (P:=Tryz.prog) (enc:=encKC) (s:=7) (l:=a++x::r) (i:=a.length) Tryz.underlying53 (by simp) (by omega) (by simp)
  have hr:=sub_flat (enc:=encKC) (s:=7) len_kc a x r (o:=0) (n:=7) (by omega)
  simp only [Nat.add_zero,sub_all (len_kc _)] at hr
  obtain ⟨s',h2,e1,g2,n1,k1,k2⟩:=grow_one (P:=Tryz.prog) (t:=68) Tryz.underlying68 (by simp) (by simp) Tryz.bytes103 (by omega) len_change g (kChange x) (by simp only [List.length_map,limit];omega) (cells:=encChange (kChange x)) rfl
  have hw:IntKind.i64.wrap ((a.length:Int) + 1) = ((a.length:Int) + 1):=step_wrap (by omega)
  have hl1:decide ((a.length:Int) < 4) = true:=by simp;omega
  have hl2:decide ((a.length:Int) < (ls (some (a++x::r))).length) = true:=by simp;omega
  simp only [encChange] at e1 hx
  first | (refine hide ?_;intro Q15 hQ15) | have hQ15:=True.intro
  repeat' (first
   | (replace hQ15:=hQ15;simp [hi,hr,hx,e1,hw,hl1,hl2,encChange,outV,frzV,frzS,frzS_pure,frzP,pureS,pureL,K_own,hown])
   | (refine hQ15 _ _ _ ?_;clear hQ15 Q15;first | simp only [] | simp [hi,hr,hx,e1,hw,hl1,hl2,encChange,outV,frzV,frzS,frzS_pure,frzP,pureS,pureL,K_own,hown] | skip)
   | (refine hadQ (by assumption) ?_;(try clear hQ15);first | simp only [] | simp [hi,hr,hx,e1,hw,hl1,hl2,encChange,outV,frzV,frzS,frzS_pure,frzP,pureS,pureL,K_own,hown] | skip)
   | ((fail_if_success replace hQ15:=hQ15);(first | refine hide ?_ | refine hideS ?_ | refine hideB ?_);intro Q15 hQ15)
   | (first | apply cF | apply wN | apply wS) <;> intro hcnd <;> (try simp only [hcnd]) <;> (try simp [-List.isEmpty_iff,-List.isEmpty_eq_false_iff] at hcnd))
  all_goals first | omega | (refine ⟨s', ?_,ex_get' (by simp)⟩;rw [ht2];simpa using g2)
 ·rintro fr hh ⟨s,g,j,rfl⟩
  have e4:(ls o).take (min 4 (ls o).length) = (ls o).take 4:=by
   by_cases h4:(ls o).length ≤ 4
   ·rw [Nat.min_eq_right h4,List.take_of_length_le (Nat.le_refl _),List.take_of_length_le h4]
   ·rw [Nat.min_eq_left (by omega)]
  rw [e4] at g
  have hf:=grown_frz (st:=false) len_change (by omega) g (cat_pure _ pure_change)
  have hl2:(decide (((min 4 (ls o).length:Nat):Int) < (ls o).length) && decide (((min 4 (ls o).length:Nat):Int) < 4)) = false:=by
   by_cases h4:(ls o).length ≤ 4
   ·rw [Nat.min_eq_right h4];simp
   ·rw [Nat.min_eq_left (by omega)];simp
  first | (refine hide ?_;intro Q16 hQ16) | have hQ16:=True.intro
  repeat' (first
   | (replace hQ16:=hQ16;simp [hf,outV,frzV,frzS,frzS_pure,frzP,pureS,pureL,K_own,hown])
   | (refine hQ16 _ _ _ ?_;clear hQ16 Q16;first | simp only [] | simp [hf,outV,frzV,frzS,frzS_pure,frzP,pureS,pureL,K_own,hown] | skip)
   | (refine hadQ (by assumption) ?_;(try clear hQ16);first | simp only [] | simp [hf,outV,frzV,frzS,frzS_pure,frzP,pureS,pureL,K_own,hown] | skip)
   | ((fail_if_success replace hQ16:=hQ16);(first | refine hide ?_ | refine hideS ?_ | refine hideB ?_);intro Q16 hQ16)
   | (first | apply cF | apply wN | apply wS) <;> intro hcnd <;> (try simp only [hcnd]) <;> (try simp [-List.isEmpty_iff,-List.isEmpty_eq_false_iff] at hcnd))
  all_goals first | omega | rfl | (simp [kChanges];done)
theorem kop_c (o_kind:Int) (o_row:Int) (o_hi:Int) (o_most:Int) (o_col:Int) (o_has:Bool) (o_want:Bool) (o_v_text:Bool) (o_v_n:Int) (o_v_x:Nat) (o_v_b:Option BL) (o_l:Option (List KC)) (hok:KOok ⟨o_kind,o_row,o_hi,o_most,o_col,o_has,o_want,⟨o_v_text,o_v_n,o_v_x,o_v_b⟩,o_l⟩) (h:H):W K 20 [.agg [ii o_kind,ii o_row,ii o_hi,ii o_most,ii o_col,.bool o_has,.bool o_want,.bool o_v_text,ii o_v_n,.flt o_v_x,bs o_v_b,sl 7 encKC o_l]] h = some (.ret (.agg (encOp (kOp ⟨o_kind,o_row,o_hi,o_most,o_col,o_has,o_want,⟨o_v_text,o_v_n,o_v_x,o_v_b⟩,o_l⟩))) h):=by
 obtain ⟨h1,h2,h3,h4,h5,h6,h7⟩:=hok
 simp only at h1 h2 h3 h4 h5 h6 h7
 have hk:=m20_c o_kind h1
 have hb:=m20_bounds o_kind
 have hb2:=m20_bounds o_most
 have e1:(m20 o_kind).tmod 6 = m20 o_kind % 6:=tmod_pos hb.1
 have e2:(m20 o_most).tmod 16 = m20 o_most % 16:=tmod_pos hb2.1
 have w1:IntKind.i64.wrap (1 + m20 o_most % 16) = 1 + m20 o_most % 16:=wrap_i64 (by omega) (by omega)
 have hm:=m20_c o_most h4
 have hr:=row_c o_row h2
 have hh:=row_c o_hi h3
 have hc:=col_c o_col h5
 have hv:=kvalue_c o_v_text o_v_n o_v_x o_v_b h6
 have hL:=kchanges_c o_l h7
 have hLn:∀ h,lenA (sl 6 encChange (kChanges o_l)) (some (.slice 103)) h = some (one (ii (ls (kChanges o_l)).length) h):=fun h=>lenA_sl _ _ _ _ _
 unfold kOp
 by_cases k0:m20 o_kind % 6 = 0
 ·have hown:memL S.own 20 = false:=by kernel_rfl
  refine W_pure hp (by simp [pureV,hk,e1,k0,hr,encOp,noCond,bs_none,outV,frzV,frzS,frzS_pure,frzP,pureS,pureL,K_own,hown]) (apart_does rfl rfl (by kernel_rfl) Tryz.func20 rfl (by simp [Tryz.f20]) ?_)
  simp only [Tryz.f20]
  refine hide ?_;intro Q17 hQ17
  repeat' (first
   | (replace hQ17:=hQ17;simp [hk,e1,k0,hr,encOp,noCond,bs_none,outV,frzV,frzS,frzS_pure,frzP,pureS,pureL,K_own,hown])
   | refine hQ17 _ _ _ ?_
   | (first | refine dF (id:=5) [0,1,2,3,4,5,6,7,8,9,10,11,12,13] [(2,4),(2,7),(5,7)] ?_ | refine dF (id:=11) [0,1,2,3,4,5,6,7,8] [(2,4)] ?_ | refine dF (id:=15) [0,1,2,3,4,5,6,7] [(1,4)] ?_)
   | (first | apply cF | apply wN | apply wS) <;> intro hcnd <;> (try simp only [hcnd]) <;> (try simp [-List.isEmpty_iff,-List.isEmpty_eq_false_iff] at hcnd))
  all_goals first | rfl | (simp [sl];done) | skip
 by_cases k1:m20 o_kind % 6 = 1
 ·have hown:memL S.own 20 = false:=by kernel_rfl
  refine W_pure hp (by simp [pureV,hk,e1,e2,k1,hr,hh,hm,w1,strOp,encOp,noCond,bs_none,outV,frzV,frzS,frzS_pure,frzP,pureS,pureL,K_own,hown]) (apart_does rfl rfl (by kernel_rfl) Tryz.func20 rfl (by simp [Tryz.f20]) ?_)
  simp only [Tryz.f20]
  refine hide ?_;intro Q18 hQ18
  repeat' (first
   | (replace hQ18:=hQ18;simp [hk,e1,e2,k1,hr,hh,hm,w1,strOp,encOp,noCond,bs_none,outV,frzV,frzS,frzS_pure,frzP,pureS,pureL,K_own,hown])
   | refine hQ18 _ _ _ ?_
   | (first | refine dF (id:=5) [0,1,2,3,4,5,6,7,8,9,10,11,12,13] [(2,4),(2,7),(5,7)] ?_ | refine dF (id:=11) [0,1,2,3,4,5,6,7,8] [(2,4)] ?_ | refine dF (id:=15) [0,1,2,3,4,5,6,7] [(1,4)] ?_)
   | (first | apply cF | apply wN | apply wS) <;> intro hcnd <;> (try simp only [hcnd]) <;> (try simp [-List.isEmpty_iff,-List.isEmpty_eq_false_iff] at hcnd))
  all_goals first | omega | rfl | (simp [sl,cat,encChange,bs_none, *];done) | (simp_all [sl,cat,encChange,bs_none];done) | skip
 ·have hown:memL S.own 20 = false:=by kernel_rfl
  refine W_pure hp (by simp [pureV,hk,e1,k0,k1,hr,hL,hLn,hc,hv,encOp,encV,noCond,bs_none,outV,frzV,frzS,frzS_pure,frzP,pureS,pureL,K_own,hown]) (apart_does rfl rfl (by kernel_rfl) Tryz.func20 rfl (by simp [Tryz.f20]) ?_)
  simp only [Tryz.f20]
  refine hide ?_;intro Q19 hQ19
  repeat' (first
   | (replace hQ19:=hQ19;simp [hk,e1,k0,k1,hr,hL,hLn,hc,hv,encOp,encV,noCond,bs_none,outV,frzV,frzS,frzS_pure,frzP,pureS,pureL,K_own,hown])
   | refine hQ19 _ _ _ ?_
   | (first | refine dF (id:=5) [0,1,2,3,4,5,6,7,8,9,10,11,12,13] [(2,4),(2,7),(5,7)] ?_ | refine dF (id:=11) [0,1,2,3,4,5,6,7,8] [(2,4)] ?_ | refine dF (id:=15) [0,1,2,3,4,5,6,7] [(1,4)] ?_)
   | (first | apply cF | apply wN | apply wS) <;> intro hcnd <;> (try simp only [hcnd]) <;> (try simp [-List.isEmpty_iff,-List.isEmpty_eq_false_iff] at hcnd))
  all_goals first | omega | rfl | (simp [sl,cat,encChange,bs_none, *];done) | (simp_all [sl,cat,encChange,bs_none];done) | skip
end Go.Proofs.YtofafocfemikcaaGreat
