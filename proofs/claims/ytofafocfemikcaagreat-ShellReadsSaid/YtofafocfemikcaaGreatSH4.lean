/- A part of a proof over the abstract machine. No conditions. -/
import Derived.Test.YtofafocfemikcaaGreatL2s
import Derived.Test.YtofafocfemikcaaGreatSH1
set_option linter.unusedSimpArgs false
set_option linter.unnecessarySimpa false
set_option linter.unusedVariables false
namespace Go.Proofs.YtofafocfemikcaaGreat
open Go Go.Ab Wm NumPlain
set_option maxRecDepth 10000
set_option maxHeartbeats 4000000
theorem refPlan_c (d:Int) (a:BL) (t:Int) (hd:¬ d = 0) (ha:a.length ≤ 1048576) (h:H):W K 19 [.agg [ii 8,ii 0,.str [],.str [],.bool false,.bool false,.str [],ii 0,.nilslc,.flt 0,.nilslc,ii 0,.str [],.str [],ii 0,.str a,ii t,ii d,.nilslc]] h = some (.ret (.one (bs (some ([u8 8]++[u8 d]++textB a++[u8 t])))) h):=by
 have hw1:=one_a d
 have hw2:=texts_a a ha
 have hw3:=one_a t
 have hl0:(textB a).length ≤ 1048580:=by simp [textB,be_length];omega
 have os0:=(OS.made (H.empty.new ⟨0,[19],true,[ii 8,ii 0,.str [],.str [],.bool false,.bool false,.str [],ii 0,.nilslc,.flt 0,.nilslc,ii 0,.str [],.str [],ii 0,.str a,ii t,ii d,.nilslc]⟩) [u8 8] true [(0,⟨0,[19],true,[ii 8,ii 0,.str [],.str [],.bool false,.bool false,.str [],ii 0,.nilslc,.flt 0,.nilslc,ii 0,.str [],.str [],ii 0,.str a,ii t,ii d,.nilslc]⟩)] ⟨by simp,trivial⟩ (by simp))
 have e7:byteS (u8 8) = AS.int .u8 8:=rfl
 simp only [blkOf,List.map_cons,List.map_nil,List.length_cons,List.length_nil,e7,new_next,empty_next,Nat.zero_add] at os0
 have q7:IntKind.u8.wrap 8 = 8:=rfl
 have hd':(d == 0) = false:=by simpa using hd
 have hk:=True.intro
 have hown:memL S.own 19 = false:=by kernel_rfl
 refine W_pure hp (by simp [pureV,pureS,pureL]) (apart_does rfl rfl (by kernel_rfl) Tryz.func19 rfl (by simp [Tryz.f19]) ?_)
 simp only [Tryz.f19,List.length_cons,List.length_nil,List.replicate,List.cons_append,List.nil_append,Nat.reduceAdd,Nat.reduceSub]
 first | (refine hide ?_;intro Q2 hQ2) | have hQ2:=True.intro
 repeat' (first
  | (replace hQ2:=hQ2;simp [convA,q7,hd,hd',outV,frzV,K_own,hown,hk])
  | (refine hQ2 _ _ _ ?_;clear hQ2 Q2;first | simp only [] | simp [convA,q7,hd,hd',outV,frzV,K_own,hown,hk] | skip)
  | (refine hadQ (by assumption) ?_;(try clear hQ2);first | simp only [] | simp [convA,q7,hd,hd',outV,frzV,K_own,hown,hk] | skip)
  | ((fail_if_success replace hQ2:=hQ2);(first | refine hide ?_ | refine hideS ?_ | refine hideB ?_);intro Q2 hQ2)
  | ((with_reducible refine call_id ?_);first
   | ((first | refine aP (hw1) ?_ | refine aO (hw1) ?_ | refine aN (hw1) ?_);intro s' h' hn' os hk';(try simp only [keptP,and_true] at hk');have hk:=And.intro hk' hk;clear hk';(try simp [convA,q7,hd,hd',outV,frzV,K_own,hown,hk]))
   | ((first | refine aP (hw2) ?_ | refine aO (hw2) ?_ | refine aN (hw2) ?_);intro s' h' hn' os hk';(try simp only [keptP,and_true] at hk');have hk:=And.intro hk' hk;clear hk';(try simp [convA,q7,hd,hd',outV,frzV,K_own,hown,hk]))
   | ((first | refine aP (hw3) ?_ | refine aO (hw3) ?_ | refine aN (hw3) ?_);intro s' h' hn' os hk';(try simp only [keptP,and_true] at hk');have hk:=And.intro hk' hk;clear hk';(try simp [convA,q7,hd,hd',outV,frzV,K_own,hown,hk])))
  | (first | refine dF (id:=5) [0,1,2,3,4,5,6,7] [(3,5)] ?_ | refine dF (id:=8) [0,1,2,3,4,5,6,7,8] [(3,5)] ?_ | refine dF (id:=14) [0,1,2,3,4,5,6,7] [(3,5)] ?_ | refine dF (id:=17) [0,1,2,3,4,5,6,7,8] [(3,5)] ?_ | refine dF (id:=19) [0,1,2,3,4,5,6,7,8,9,10,11] [(3,5),(3,9),(7,9)] ?_ | refine dF (id:=22) [0,1,2,3,4,5,6,7,8,9,10,11] [(3,5),(3,9),(7,9)] ?_ | refine dF (id:=28) [0,1,2,3,4,5,6,7] [(3,5)] ?_ | refine dF (id:=30) [0,1,2,3,4,5,6,7,8,9] [(4,6)] ?_)
  | (first | apply cF | apply wN | apply wS) <;> intro hcnd <;> (try simp only [hcnd]) <;> (try simp [-List.isEmpty_iff,-List.isEmpty_eq_false_iff] at hcnd))
 all_goals first | exact absurd ‹d = 0› hd | (rw [byt_frz (n:=62) os.byt];simp)
theorem kplan_c (a b c:Int) (h1:I64 a) (h2:I64 b) (h3:I64 c) (h:H):W K 21 [.agg [ii a,ii b,ii c]] h = some (.ret (.agg [ii 8,ii 0,.str [],.str [],.bool false,.bool false,.str [],ii 0,.nilslc,.flt 0,.nilslc,ii 0,.str [],.str [],ii 0,.str (keepRow b),ii (1 + m20 c % 3),ii (1 + m20 a % 3),.nilslc]) h):=by
 have ha:=m20_c a h1
 have hc:=m20_c c h3
 have ba:=m20_bounds a
 have bc:=m20_bounds c
 have e1:(m20 a).tmod 3 = m20 a % 3:=tmod_pos ba.1
 have e2:(m20 c).tmod 3 = m20 c % 3:=tmod_pos bc.1
 have w1:IntKind.i64.wrap (1 + m20 a % 3) = 1 + m20 a % 3:=wrap_i64 (by omega) (by omega)
 have w2:IntKind.i64.wrap (1 + m20 c % 3) = 1 + m20 c % 3:=wrap_i64 (by omega) (by omega)
 have hr:=row_c b h2
 have hown:memL S.own 21 = false:=by kernel_rfl
 refine W_pure hp (by simp [pureV,ha,hc,e1,e2,w1,w2,hr,outV,frzV,frzS,frzS_pure,frzP,pureS,pureL,K_own,hown]) (apart_does rfl rfl (by kernel_rfl) Tryz.func21 rfl (by simp [Tryz.f21]) ?_)
 simp only [Tryz.f21]
 refine hide ?_;intro Q1 hQ1
 repeat' (first
  | (replace hQ1:=hQ1;simp [ha,hc,e1,e2,w1,w2,hr,outV,frzV,frzS,frzS_pure,frzP,pureS,pureL,K_own,hown])
  | refine hQ1 _ _ _ ?_
  | refine dF (id:=1) [0,1,2,3,4,5,6,7,8,9,10,11,12,13,14] [(2,6),(2,9),(7,9)] ?_)
end Go.Proofs.YtofafocfemikcaaGreat
