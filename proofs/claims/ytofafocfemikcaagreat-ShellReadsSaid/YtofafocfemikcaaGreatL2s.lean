/- A part of a proof over the abstract machine. No conditions. -/
import Derived.Test.YtofafocfemikcaaGreatR2b
import Derived.Test.YtofafocfemikcaaGreatR2c
import Derived.Test.YtofafocfemikcaaGreatC7
import Derived.Test.YtofafocfemikcaaGreatAb5
import Derived.Test.YtofafocfemikcaaGreatAb3
set_option linter.unusedSimpArgs false
set_option linter.unnecessarySimpa false
set_option linter.unusedVariables false
namespace Go.Proofs.YtofafocfemikcaaGreat
open Go Go.Ab Wm NumPlain
set_option maxRecDepth 10000
set_option maxHeartbeats 4000000
structure OpNum (o:Wm.Op):Prop where
 l:∀ c ∈ ls o.l,(1 ≤ c.kind∧c.kind ≤ 5)∧(0 ≤ c.time∧c.time < 9223372036854775808)∧c.v.n < 2 ^ 64
 c:o.cond.v.n < 2 ^ 64
theorem refOp_c (o_kind:Int) (o_row:BL) (o_hi:BL) (o_cond_has:Bool) (o_cond_want:Bool) (o_cond_col:BL) (o_cond_v_kind:Int) (o_cond_v_b:Option BL) (o_cond_v_n:Nat) (o_l:Option (List Change)) (o_most:Int) (ho:OpIs ⟨o_kind,o_row,o_hi,⟨o_cond_has,o_cond_want,o_cond_col,⟨o_cond_v_kind,o_cond_v_b,o_cond_v_n⟩⟩,o_l,o_most⟩) (hnum:OpNum ⟨o_kind,o_row,o_hi,⟨o_cond_has,o_cond_want,o_cond_col,⟨o_cond_v_kind,o_cond_v_b,o_cond_v_n⟩⟩,o_l,o_most⟩) (h:H):W K 19 [.agg [ii 1,ii o_kind,.str o_row,.str o_hi,.bool o_cond_has,.bool o_cond_want,.str o_cond_col,ii o_cond_v_kind,bs o_cond_v_b,.flt o_cond_v_n,sl 6 encChange o_l,ii o_most,.str [],.str [],ii 0,.str [],ii 0,ii 0,.nilslc]] h = some (.ret (.one (bs (some (u8 1::encOpB ⟨o_kind,o_row,o_hi,⟨o_cond_has,o_cond_want,o_cond_col,⟨o_cond_v_kind,o_cond_v_b,o_cond_v_n⟩⟩,o_l,o_most⟩)))) h):=by
 have hl0:=encOp_len ho
 obtain ⟨g1,g2,g3,g4,g5,g6,g7⟩:=ho
 obtain ⟨m1,m2⟩:=hnum
 simp only at g2 g3 g4 g5 g6 g7 m1 m2
 have hw1:=one_a o_kind
 have hw2:=texts_a o_row (by omega)
 have hw3:=cond_a o_cond_has o_cond_want o_cond_col o_cond_v_kind o_cond_v_b o_cond_v_n (by omega) (by omega) m2
 have hw4:=one_a ((ls o_l).length:Int)
 have hw5:=texts_a o_hi (by omega)
 have hw6:=one_a o_most
 obtain ⟨CM,hCM⟩:∃ CM:Blk,(⟨0,[19],true,[ii 1,ii o_kind,.str o_row,.str o_hi,.bool o_cond_has,.bool o_cond_want,.str o_cond_col,ii o_cond_v_kind,bs o_cond_v_b,.flt o_cond_v_n,sl 6 encChange o_l,ii o_most,.str [],.str [],ii 0,.str [],ii 0,ii 0,.nilslc]⟩:Blk) = CM:=⟨_,rfl⟩
 have os0:=OS.made (H.empty.new CM) [u8 1] true [(0,CM)] ⟨by simp,trivial⟩ (by simp)
 have e7:byteS (u8 1) = AS.int .u8 1:=rfl
 simp only [blkOf,List.map_cons,List.map_nil,List.length_cons,List.length_nil,e7,new_next,empty_next,Nat.zero_add] at os0
 have hs:=new_set ((H.empty.new CM).new ⟨0,[1],true,[.int .u8 1]⟩) ⟨0,[11],true,[ii 0,.str [],.str [],.bool false,.bool false,.str [],ii 0,.nilslc,.flt 0,.nilslc,ii 0]⟩ ⟨0,[11],true,[ii o_kind,.str o_row,.str o_hi,.bool o_cond_has,.bool o_cond_want,.str o_cond_col,ii o_cond_v_kind,bs o_cond_v_b,.flt o_cond_v_n,sl 6 encChange o_l,ii o_most]⟩
 simp only [new_next,empty_next,Nat.zero_add,Nat.reduceAdd] at hs
 have os:=os0.new ⟨0,[11],true,[ii o_kind,.str o_row,.str o_hi,.bool o_cond_has,.bool o_cond_want,.str o_cond_col,ii o_cond_v_kind,bs o_cond_v_b,.flt o_cond_v_n,sl 6 encChange o_l,ii o_most]⟩
 simp only [new_next,empty_next,Nat.zero_add,Nat.reduceAdd] at os
 clear os0
 subst hCM
 have q7:IntKind.u8.wrap 1 = 1:=rfl
 have hk:=True.intro
 have hown:memL S.own 19 = false:=by kernel_rfl
 by_cases k2:o_kind = 2
 ·subst k2
  simp only [encOpB,if_true] at hl0 ⊢
  simp only [List.length_append,List.length_cons] at hl0
  refine W_pure hp (by simp [pureV,pureS,pureL]) (apart_does rfl rfl (by kernel_rfl) Tryz.func19 rfl (by simp [Tryz.f19]) ?_)
  simp only [Tryz.f19,List.length_cons,List.length_nil,List.replicate,List.cons_append,List.nil_append,Nat.reduceAdd,Nat.reduceSub]
  first | (refine hide ?_;intro Q1 hQ1) | have hQ1:=True.intro
  repeat' (first
   | (replace hQ1:=hQ1;simp [convA,q7,hs,outV,frzV,K_own,hown,hk])
   | (refine hQ1 _ _ _ ?_;clear hQ1 Q1;first | simp only [] | simp [convA,q7,hs,outV,frzV,K_own,hown,hk] | skip)
   | (refine hadQ (by assumption) ?_;(try clear hQ1);first | simp only [] | simp [convA,q7,hs,outV,frzV,K_own,hown,hk] | skip)
   | ((fail_if_success replace hQ1:=hQ1);(first | refine hide ?_ | refine hideS ?_ | refine hideB ?_);intro Q1 hQ1)
   | ((with_reducible refine call_id ?_);first
    | ((first | refine aP (hw1) ?_ | refine aO (hw1) ?_ | refine aN (hw1) ?_);intro s' h' hn' os hk';(try simp only [keptP,and_true] at hk');have hk:=And.intro hk' hk;clear hk';(try simp [convA,q7,hs,outV,frzV,K_own,hown,hk]))
    | ((first | refine aP (hw2) ?_ | refine aO (hw2) ?_ | refine aN (hw2) ?_);intro s' h' hn' os hk';(try simp only [keptP,and_true] at hk');have hk:=And.intro hk' hk;clear hk';(try simp [convA,q7,hs,outV,frzV,K_own,hown,hk]))
    | ((first | refine aP (hw3) ?_ | refine aO (hw3) ?_ | refine aN (hw3) ?_);intro s' h' hn' os hk';(try simp only [keptP,and_true] at hk');have hk:=And.intro hk' hk;clear hk';(try simp [convA,q7,hs,outV,frzV,K_own,hown,hk]))
    | ((first | refine aP (hw4) ?_ | refine aO (hw4) ?_ | refine aN (hw4) ?_);intro s' h' hn' os hk';(try simp only [keptP,and_true] at hk');have hk:=And.intro hk' hk;clear hk';(try simp [convA,q7,hs,outV,frzV,K_own,hown,hk])))
   | (first | refine dF (id:=5) [0,1,2,3,4,5,6,7] [(3,5)] ?_ | refine dF (id:=8) [0,1,2,3,4,5,6,7,8] [(3,5)] ?_ | refine dF (id:=14) [0,1,2,3,4,5,6,7] [(3,5)] ?_ | refine dF (id:=17) [0,1,2,3,4,5,6,7,8] [(3,5)] ?_ | refine dF (id:=19) [0,1,2,3,4,5,6,7,8,9,10,11] [(3,5),(3,9),(7,9)] ?_ | refine dF (id:=22) [0,1,2,3,4,5,6,7,8,9,10,11] [(3,5),(3,9),(7,9)] ?_ | refine dF (id:=28) [0,1,2,3,4,5,6,7] [(3,5)] ?_ | refine dF (id:=30) [0,1,2,3,4,5,6,7,8,9] [(4,6)] ?_)
   | (first | apply cF | apply wN | apply wS) <;> intro hcnd <;> (try simp only [hcnd]) <;> (try simp [-List.isEmpty_iff,-List.isEmpty_eq_false_iff] at hcnd))
  obtain ⟨pre,hpre⟩:∃ pre:BL,[u8 1]++[u8 2]++textB o_row++encCnd ⟨o_cond_has,o_cond_want,o_cond_col,⟨o_cond_v_kind,o_cond_v_b,o_cond_v_n⟩⟩++[u8 ((ls o_l).length:Int)] = pre:=⟨_,rfl⟩
  have hprel:pre.length + ((ls o_l).flatMap encChg).length ≤ 2000:=by rw [← hpre];simp only [List.length_append,List.length_cons,List.length_nil];omega
  rw [hpre] at os
  obtain ⟨I,hI⟩:∃ I:List Change→List Change→Fr→H→Prop,I = fun a r fr hh=>∃ s,OS hh s (pre++a.flatMap encChg) [(2,⟨0,[11],true,[ii 2,.str o_row,.str o_hi,.bool o_cond_has,.bool o_cond_want,.str o_cond_col,ii o_cond_v_kind,bs o_cond_v_b,.flt o_cond_v_n,sl 6 encChange o_l,ii o_most]⟩),(0,⟨0,[19],true,[ii 1,ii 2,.str o_row,.str o_hi,.bool o_cond_has,.bool o_cond_want,.str o_cond_col,ii o_cond_v_kind,bs o_cond_v_b,.flt o_cond_v_n,sl 6 encChange o_l,ii o_most,.str [],.str [],ii 0,.str [],ii 0,ii 0,.nilslc]⟩)]∧∃ j:Nat→AV,fr = (j 0::(.one (.ptr 0 0 0))::j 2::(.one s)::(.one (.ptr 2 0 0))::(.one (ii a.length))::j 6::j 7::j 8::j 9::j 10::j 11::j 12::j 13::j 14::j 15::j 16::j 17::j 18::j 19::j 20::j 21::j 22::j 23::j 24::j 25::j 26::j 27::j 28::j 29::j 30::j 31::j 32::j 33::j 34::j 35::j 36::j 37::j 38::j 39::j 40::j 41::j 42::j 43::j 44::j 45::j 46::j 47::j 48::j 49::j 50::j 51::j 52::j 53::j 54::j 55::j 56::j 57::j 58::j 59::j 60::j 61::j 62::j 63::j 64::j 65::j 66::j 67::j 68::j 69::j 70::j 71::j 72::j 73::j 74::j 75::j 76::j 77::j 78::j 79::j 80::j 81::j 82::j 83::j 84::j 85::j 86::j 87::j 88::j 89::j 90::j 91::j 92::j 93::j 94::j 95::j 96::j 97::j 98::j 99::j 100::j 101::j 102::j 103::j 104::j 105::j 106::j 107::j 108::j 109::j 110::j 111::j 112::j 113::j 114::j 115::j 116::j 117::j 118::j 119::j 120::j 121::j 122::j 123::j 124::j 125::j 126::j 127::j 128::j 129::[]):=⟨_,rfl⟩
  refine does_each hp (ls o_l) I ?_ ?_ _ _ (by rw [hI];exact ⟨_,by simpa using os,ex_get' (by simp)⟩)
  ·intro a x r fr hh hll hx
   rw [hI] at hx
   clear os hk hw1 hw2 hw3 hw4
   obtain ⟨s,os,j,rfl⟩:=hx
   obtain rfl:=ls_cons hll
   have hx5:=g6 x (by simp)
   have hx6:=m1 x (by simp)
   simp only [ls_some,List.flatMap_append,List.flatMap_cons,List.length_append] at hprel
   obtain ⟨x_kind,x_col,x_time,⟨x_v_kind,x_v_b,x_v_n⟩⟩:=x
   have hw:=chg_a x_kind x_col x_time x_v_kind x_v_b x_v_n hx6.1 (by have:=hx5.1;simp only at this;omega) hx6.2.1 (by have:=hx5.2;simp only at this;omega) hx6.2.2
   have hi:=index_sl (P:=Tryz.prog) (enc:=encChange) (s:=6) (l:=a++⟨x_kind,x_col,x_time,⟨x_v_kind,x_v_b,x_v_n⟩⟩::r) (i:=a.length) Tryz.underlying68 (by simp) (by omega) (by simp)
   have hr:=sub_flat (enc:=encChange) (s:=6) len_change a ⟨x_kind,x_col,x_time,⟨x_v_kind,x_v_b,x_v_n⟩⟩ r (o:=0) (n:=6) (by omega)
   simp only [Nat.add_zero,sub_all (len_change _)] at hr
   simp only [encChange] at hr
   have hwi:IntKind.i64.wrap ((a.length:Int) + 1) = ((a.length:Int) + 1):=step_wrap (by simp at g7;omega)
   have hk:=os.kp
   simp only [keptP,and_true] at hk
   have hlx:(pre++a.flatMap encChg).length + (encChg ⟨x_kind,x_col,x_time,⟨x_v_kind,x_v_b,x_v_n⟩⟩).length ≤ 1099511627776:=by simp only [List.length_append];omega
   first | (refine hide ?_;intro Q2 hQ2) | have hQ2:=True.intro
   repeat' (first
    | (replace hQ2:=hQ2;simp [hi,hr,hwi,hk])
    | (refine hQ2 _ _ _ ?_;clear hQ2 Q2;first | simp only [] | simp [hi,hr,hwi,hk] | skip)
    | (refine hadQ (by assumption) ?_;(try clear hQ2);first | simp only [] | simp [hi,hr,hwi,hk] | skip)
    | ((fail_if_success replace hQ2:=hQ2);(first | refine hide ?_ | refine hideS ?_ | refine hideB ?_);intro Q2 hQ2)
    | ((with_reducible refine call_id ?_);first
     | (refine call_addsP hw (by assumption) (by first | rfl | (simp [viewV,viewS,pureS,pureL];done)) (by first | assumption | omega | (simp only [List.length_append,List.length_cons,List.length_nil,be_length,textB,encSpn,num4,num8];omega) | (simp only [List.length_append,List.length_cons,List.length_nil,be_length,textB] at *;omega) | (simp at *;omega)) (fun s' h' hn' os hk'=>?_);(try simp only [keptP,and_true] at hk');have hk:=And.intro hk' hk;clear hk';(try simp [hi,hr,hwi,hk])))
    | (first | refine dF (id:=5) [0,1,2,3,4,5,6,7] [(3,5)] ?_ | refine dF (id:=8) [0,1,2,3,4,5,6,7,8] [(3,5)] ?_ | refine dF (id:=14) [0,1,2,3,4,5,6,7] [(3,5)] ?_ | refine dF (id:=17) [0,1,2,3,4,5,6,7,8] [(3,5)] ?_ | refine dF (id:=19) [0,1,2,3,4,5,6,7,8,9,10,11] [(3,5),(3,9),(7,9)] ?_ | refine dF (id:=22) [0,1,2,3,4,5,6,7,8,9,10,11] [(3,5),(3,9),(7,9)] ?_ | refine dF (id:=28) [0,1,2,3,4,5,6,7] [(3,5)] ?_ | refine dF (id:=30) [0,1,2,3,4,5,6,7,8,9] [(4,6)] ?_)
    | (first | apply cF | apply wN | apply wS) <;> intro hcnd <;> (try simp only [hcnd]) <;> (try simp [-List.isEmpty_iff,-List.isEmpty_eq_false_iff] at hcnd))
   all_goals first | omega | (rw [hI];refine ⟨_,by simpa [List.append_assoc] using os, ?_⟩;rw [List.length_append];exact ex_get' (by simp)) | trace_state
  ·intro fr hh hx
   rw [hI] at hx
   clear os hk
   obtain ⟨s,os,j,rfl⟩:=hx
   have hk:=os.kp
   simp only [keptP,and_true] at hk
   first | (refine hide ?_;intro Q3 hQ3) | have hQ3:=True.intro
   repeat' (first
    | (replace hQ3:=hQ3;simp [outV,frzV,K_own,hown,hk])
    | (refine hQ3 _ _ _ ?_;clear hQ3 Q3;first | simp only [] | simp [outV,frzV,K_own,hown,hk] | skip)
    | (refine hadQ (by assumption) ?_;(try clear hQ3);first | simp only [] | simp [outV,frzV,K_own,hown,hk] | skip)
    | ((fail_if_success replace hQ3:=hQ3);(first | refine hide ?_ | refine hideS ?_ | refine hideB ?_);intro Q3 hQ3)
    | ((with_reducible refine call_id ?_);first
     | ((first | refine aP (hw6) ?_ | refine aO (hw6) ?_ | refine aN (hw6) ?_);intro s' h' hn' os hk';(try simp only [keptP,and_true] at hk');have hk:=And.intro hk' hk;clear hk';(try simp [outV,frzV,K_own,hown,hk])))
    | (first | refine dF (id:=5) [0,1,2,3,4,5,6,7] [(3,5)] ?_ | refine dF (id:=8) [0,1,2,3,4,5,6,7,8] [(3,5)] ?_ | refine dF (id:=14) [0,1,2,3,4,5,6,7] [(3,5)] ?_ | refine dF (id:=17) [0,1,2,3,4,5,6,7,8] [(3,5)] ?_ | refine dF (id:=19) [0,1,2,3,4,5,6,7,8,9,10,11] [(3,5),(3,9),(7,9)] ?_ | refine dF (id:=22) [0,1,2,3,4,5,6,7,8,9,10,11] [(3,5),(3,9),(7,9)] ?_ | refine dF (id:=28) [0,1,2,3,4,5,6,7] [(3,5)] ?_ | refine dF (id:=30) [0,1,2,3,4,5,6,7,8,9] [(4,6)] ?_)
    | (first | apply cF | apply wN | apply wS) <;> intro hcnd <;> (try simp only [hcnd]) <;> (try simp [-List.isEmpty_iff,-List.isEmpty_eq_false_iff] at hcnd))
   all_goals (rw [byt_frz (n:=62) os.byt];subst hpre;simp [List.append_assoc])
 ·by_cases k3:o_kind = 3
  ·subst k3
   simp only [encOpB,Int.reduceEq,if_true,if_false] at hl0 ⊢
   refine W_pure hp (by simp [pureV,pureS,pureL]) (apart_does rfl rfl (by kernel_rfl) Tryz.func19 rfl (by simp [Tryz.f19]) ?_)
   simp only [Tryz.f19,List.length_cons,List.length_nil,List.replicate,List.cons_append,List.nil_append,Nat.reduceAdd,Nat.reduceSub]
   first | (refine hide ?_;intro Q4 hQ4) | have hQ4:=True.intro
   repeat' (first
    | (replace hQ4:=hQ4;simp [convA,q7,hs,outV,frzV,K_own,hown,hk])
    | (refine hQ4 _ _ _ ?_;clear hQ4 Q4;first | simp only [] | simp [convA,q7,hs,outV,frzV,K_own,hown,hk] | skip)
    | (refine hadQ (by assumption) ?_;(try clear hQ4);first | simp only [] | simp [convA,q7,hs,outV,frzV,K_own,hown,hk] | skip)
    | ((fail_if_success replace hQ4:=hQ4);(first | refine hide ?_ | refine hideS ?_ | refine hideB ?_);intro Q4 hQ4)
    | ((with_reducible refine call_id ?_);first
     | ((first | refine aP (hw1) ?_ | refine aO (hw1) ?_ | refine aN (hw1) ?_);intro s' h' hn' os hk';(try simp only [keptP,and_true] at hk');have hk:=And.intro hk' hk;clear hk';(try simp [convA,q7,hs,outV,frzV,K_own,hown,hk]))
     | ((first | refine aP (hw2) ?_ | refine aO (hw2) ?_ | refine aN (hw2) ?_);intro s' h' hn' os hk';(try simp only [keptP,and_true] at hk');have hk:=And.intro hk' hk;clear hk';(try simp [convA,q7,hs,outV,frzV,K_own,hown,hk]))
     | ((first | refine aP (hw5) ?_ | refine aO (hw5) ?_ | refine aN (hw5) ?_);intro s' h' hn' os hk';(try simp only [keptP,and_true] at hk');have hk:=And.intro hk' hk;clear hk';(try simp [convA,q7,hs,outV,frzV,K_own,hown,hk]))
     | ((first | refine aP (hw6) ?_ | refine aO (hw6) ?_ | refine aN (hw6) ?_);intro s' h' hn' os hk';(try simp only [keptP,and_true] at hk');have hk:=And.intro hk' hk;clear hk';(try simp [convA,q7,hs,outV,frzV,K_own,hown,hk])))
    | (first | refine dF (id:=5) [0,1,2,3,4,5,6,7] [(3,5)] ?_ | refine dF (id:=8) [0,1,2,3,4,5,6,7,8] [(3,5)] ?_ | refine dF (id:=14) [0,1,2,3,4,5,6,7] [(3,5)] ?_ | refine dF (id:=17) [0,1,2,3,4,5,6,7,8] [(3,5)] ?_ | refine dF (id:=19) [0,1,2,3,4,5,6,7,8,9,10,11] [(3,5),(3,9),(7,9)] ?_ | refine dF (id:=22) [0,1,2,3,4,5,6,7,8,9,10,11] [(3,5),(3,9),(7,9)] ?_ | refine dF (id:=28) [0,1,2,3,4,5,6,7] [(3,5)] ?_ | refine dF (id:=30) [0,1,2,3,4,5,6,7,8,9] [(4,6)] ?_)
    | (first | apply cF | apply wN | apply wS) <;> intro hcnd <;> (try simp only [hcnd]) <;> (try simp [-List.isEmpty_iff,-List.isEmpty_eq_false_iff] at hcnd))
   all_goals (rw [byt_frz (n:=62) os.byt];simp [List.append_assoc])
  ·simp only [encOpB,k2,k3,if_false] at hl0 ⊢
   have b2:(o_kind == 2) = false:=by simp [k2]
   have b3:(o_kind == 3) = false:=by simp [k3]
   refine W_pure hp (by simp [pureV,pureS,pureL]) (apart_does rfl rfl (by kernel_rfl) Tryz.func19 rfl (by simp [Tryz.f19]) ?_)
   simp only [Tryz.f19,List.length_cons,List.length_nil,List.replicate,List.cons_append,List.nil_append,Nat.reduceAdd,Nat.reduceSub]
   first | (refine hide ?_;intro Q5 hQ5) | have hQ5:=True.intro
   repeat' (first
    | (replace hQ5:=hQ5;simp [convA,q7,hs,k2,k3,b2,b3,outV,frzV,K_own,hown,hk])
    | (refine hQ5 _ _ _ ?_;clear hQ5 Q5;first | simp only [] | simp [convA,q7,hs,k2,k3,b2,b3,outV,frzV,K_own,hown,hk] | skip)
    | (refine hadQ (by assumption) ?_;(try clear hQ5);first | simp only [] | simp [convA,q7,hs,k2,k3,b2,b3,outV,frzV,K_own,hown,hk] | skip)
    | ((fail_if_success replace hQ5:=hQ5);(first | refine hide ?_ | refine hideS ?_ | refine hideB ?_);intro Q5 hQ5)
    | ((with_reducible refine call_id ?_);first
     | ((first | refine aP (hw1) ?_ | refine aO (hw1) ?_ | refine aN (hw1) ?_);intro s' h' hn' os hk';(try simp only [keptP,and_true] at hk');have hk:=And.intro hk' hk;clear hk';(try simp [convA,q7,hs,k2,k3,b2,b3,outV,frzV,K_own,hown,hk]))
     | ((first | refine aP (hw2) ?_ | refine aO (hw2) ?_ | refine aN (hw2) ?_);intro s' h' hn' os hk';(try simp only [keptP,and_true] at hk');have hk:=And.intro hk' hk;clear hk';(try simp [convA,q7,hs,k2,k3,b2,b3,outV,frzV,K_own,hown,hk])))
    | (first | refine dF (id:=5) [0,1,2,3,4,5,6,7] [(3,5)] ?_ | refine dF (id:=8) [0,1,2,3,4,5,6,7,8] [(3,5)] ?_ | refine dF (id:=14) [0,1,2,3,4,5,6,7] [(3,5)] ?_ | refine dF (id:=17) [0,1,2,3,4,5,6,7,8] [(3,5)] ?_ | refine dF (id:=19) [0,1,2,3,4,5,6,7,8,9,10,11] [(3,5),(3,9),(7,9)] ?_ | refine dF (id:=22) [0,1,2,3,4,5,6,7,8,9,10,11] [(3,5),(3,9),(7,9)] ?_ | refine dF (id:=28) [0,1,2,3,4,5,6,7] [(3,5)] ?_ | refine dF (id:=30) [0,1,2,3,4,5,6,7,8,9] [(4,6)] ?_)
    | (first | apply cF | apply wN | apply wS) <;> intro hcnd <;> (try simp only [hcnd]) <;> (try simp [-List.isEmpty_iff,-List.isEmpty_eq_false_iff] at hcnd))
   all_goals (rw [byt_frz (n:=62) os.byt];simp [List.append_assoc])
end Go.Proofs.YtofafocfemikcaaGreat
