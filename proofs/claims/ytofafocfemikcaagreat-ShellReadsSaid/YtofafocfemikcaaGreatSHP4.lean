/- A part of a proof over the abstract machine. No conditions. -/
import Derived.Test.YtofafocfemikcaaGreatSHP3
set_option linter.unusedSimpArgs false
set_option linter.unnecessarySimpa false
set_option linter.unusedVariables false
namespace Go.Proofs.YtofafocfemikcaaGreat
open Go Go.Ab Wm NumPlain
set_option maxRecDepth 10000
set_option maxHeartbeats 4000000
theorem b_ok (a:UInt8) (r:BL) (h':H) (hn:1 < h'.next) (hf:h'.f 1 = some ⟨0,[2],true,[bs (some (a::r)),.bool false]⟩):W K 47 [.one (.ptr 1 0 0)] h' = some (.ret (.one (byteS a)) (bOk h' 1 a r)):=dbyte_ok a r hn hf
theorem b_no (o:Option BL) (bad:Bool) (hb:bad = true ∨ ls o = []) (h':H) (hn:1 < h'.next) (hf:h'.f 1 = some ⟨0,[2],true,[bs o,.bool bad]⟩):W K 47 [.one (.ptr 1 0 0)] h' = some (.ret (.one (.int .u8 0)) (bNo h' 1)):=dbyte_no hb hn hf
theorem cv0 (h:H):convA Tryz.prog 5 3 (.int .u8 0) h = some (.val (.one (ii 0)) h):=by
 have:IntKind.i64.wrap 0 = 0:=rfl
 simp [convA,this]
theorem parse_no (o:Option BL) (ho:(ls o).length < 3) (h:H):W K 30 [.one (bs o)] h = some (.ret (.tup [(true,[ii 0,ii 0,ii 0,.nilslc]),(false,[.bool false])]) h):=by
 have c0:=cv0
 have hsh:ls o = [] ∨ (∃ a,ls o = [a]) ∨ ∃ a b,ls o = [a,b]:=by
  rcases hl:ls o with _ | ⟨a,_ | ⟨b,_ | ⟨c,r⟩⟩⟩
  ·simp
  ·simp
  ·simp
  ·rw [hl] at ho;simp only [List.length_cons] at ho;omega
 have k2:=b_no none true (.inl rfl)
 simp only [bs_none] at k2
 rcases hsh with e | ⟨a,e⟩ | ⟨a,b,e⟩
 ·have k1:=b_no o false (.inr e)
  have hown:memL S.own 30 = false:=by kernel_rfl
  refine W_pure hp (by simp [pureV,k1,k2,c0,bNo,bs_none,outV,frzV,frzS,frzS_pure,frzP,pureS,pureL,K_own,hown]) (apart_does rfl rfl (by kernel_rfl) Tryz.func30 rfl (by simp [Tryz.f30]) ?_)
  simp only [Tryz.f30]
  refine hide ?_;intro Q1 hQ1
  repeat' (first
   | (replace hQ1:=hQ1;simp [k1,k2,c0,bNo,bs_none,outV,frzV,frzS,frzS_pure,frzP,pureS,pureL,K_own,hown])
   | refine hQ1 _ _ _ ?_
   | (first | apply cF | apply wN | apply wS) <;> intro hcnd <;> (try simp only [hcnd]) <;> (try simp [-List.isEmpty_iff,-List.isEmpty_eq_false_iff] at hcnd))
  all_goals trace_state
 ·obtain rfl:=ls_cons (a:=[]) e
  have k1:=b_no (some []) false (.inr rfl)
  have m1:=b_ok a []
  have c1:=cv8 a
  simp only [List.nil_append] at *
  have hown:memL S.own 30 = false:=by kernel_rfl
  refine W_pure hp (by simp [pureV,k1,k2,m1,c0,c1,bNo,bOk,bs_none,outV,frzV,frzS,frzS_pure,frzP,pureS,pureL,K_own,hown]) (apart_does rfl rfl (by kernel_rfl) Tryz.func30 rfl (by simp [Tryz.f30]) ?_)
  simp only [Tryz.f30]
  refine hide ?_;intro Q2 hQ2
  repeat' (first
   | (replace hQ2:=hQ2;simp [k1,k2,m1,c0,c1,bNo,bOk,bs_none,outV,frzV,frzS,frzS_pure,frzP,pureS,pureL,K_own,hown])
   | refine hQ2 _ _ _ ?_
   | (first | apply cF | apply wN | apply wS) <;> intro hcnd <;> (try simp only [hcnd]) <;> (try simp [-List.isEmpty_iff,-List.isEmpty_eq_false_iff] at hcnd))
  all_goals trace_state
 ·obtain rfl:=ls_cons (a:=[]) e
  have k1:=b_no (some []) false (.inr rfl)
  have m1:=b_ok a [b]
  have m2:=b_ok b []
  have c1:=cv8 a
  have c2:=cv8 b
  simp only [List.nil_append] at *
  have hown:memL S.own 30 = false:=by kernel_rfl
  refine W_pure hp (by simp [pureV,k1,k2,m1,m2,c0,c1,c2,bNo,bOk,bs_none,outV,frzV,frzS,frzS_pure,frzP,pureS,pureL,K_own,hown]) (apart_does rfl rfl (by kernel_rfl) Tryz.func30 rfl (by simp [Tryz.f30]) ?_)
  simp only [Tryz.f30]
  refine hide ?_;intro Q3 hQ3
  repeat' (first
   | (replace hQ3:=hQ3;simp [k1,k2,m1,m2,c0,c1,c2,bNo,bOk,bs_none,outV,frzV,frzS,frzS_pure,frzP,pureS,pureL,K_own,hown])
   | refine hQ3 _ _ _ ?_
   | (first | apply cF | apply wN | apply wS) <;> intro hcnd <;> (try simp only [hcnd]) <;> (try simp [-List.isEmpty_iff,-List.isEmpty_eq_false_iff] at hcnd))
  all_goals trace_state
theorem byte_yes (a:UInt8) (r:BL) (h:H) (hn:1 < h.next) (hf:h.f 1 = some ⟨0,[2],true,[bs (some (a::r)),.bool false]⟩):∃ h',W K 47 [.one (.ptr 1 0 0)] h = some (.ret (.one (byteS a)) h')∧h'.f 1 = some ⟨0,[2],true,[bs (some r),.bool false]⟩∧Fr1 1 h h' :=
 ⟨_,b_ok a r h hn hf,bOk_p _ _ _ _,⟨by simp,fun x hx hp=>bOk_f hx hp⟩⟩
theorem byte_not (o:Option BL) (bad:Bool) (hb:bad = true ∨ ls o = []) (h:H) (hn:1 < h.next) (hf:h.f 1 = some ⟨0,[2],true,[bs o,.bool bad]⟩):∃ h',W K 47 [.one (.ptr 1 0 0)] h = some (.ret (.one (.int .u8 0)) h')∧h'.f 1 = some ⟨0,[2],true,[.nilslc,.bool true]⟩∧Fr1 1 h h' :=
 ⟨_,b_no o bad hb h hn hf,bNo_p h 1 hn,⟨by simp,fun x hx hp=>bNo_f hx hp⟩⟩
end Go.Proofs.YtofafocfemikcaaGreat
