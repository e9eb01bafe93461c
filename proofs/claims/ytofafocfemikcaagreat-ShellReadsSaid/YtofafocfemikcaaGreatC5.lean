/- A part of a proof over the abstract machine. No conditions. -/
import Derived.Test.YtofafocfemikcaaGreatC4
set_option linter.unusedSimpArgs false
set_option linter.unnecessarySimpa false
set_option linter.unusedVariables false
namespace Go.Proofs.YtofafocfemikcaaGreat
open Go Go.Ab Wm NumPlain
set_option maxRecDepth 10000
set_option maxHeartbeats 4000000
theorem clone_g (o:Option BL) (ho:(ls o).length ≤ 1099511627776):Fun K 51 [.one (bs o)] (fun h=>.ret (.one (bs o)) h):=by
 cases o with
 | none =>
  simp only [bs_none]
  have hown:memL S.own 51 = false:=by kernel_rfl
  refine ⟨by simp [pureV,bin,ford,equalA,outV,frzV,frzS,frzS_pure,frzP,pureS,pureL,K_own,hown],fun hh=>apart_does rfl rfl (by kernel_rfl) Tryz.func51 rfl (by simp [Tryz.f51]) ?_⟩
  simp only [Tryz.f51]
  refine hide ?_;intro Q2 hQ2
  repeat' (first
   | (replace hQ2:=hQ2;simp [bin,ford,equalA,outV,frzV,frzS,frzS_pure,frzP,pureS,pureL,K_own,hown])
   | refine hQ2 _ _ _ ?_
   | (first | apply cF | apply wN | apply wS) <;> intro hcnd <;> (try simp only [hcnd]) <;> (try simp [-List.isEmpty_iff,-List.isEmpty_eq_false_iff] at hcnd))
 | some l =>
  rw [bs_some]
  by_cases h0:l = []
  ·subst h0
   have hown:memL S.own 51 = false:=by kernel_rfl
   refine ⟨by simp [pureV,bin,ford,equalA,appendA,appendL,lenS,elemsOf,sub,limit,outV,frzV,frzS,frzS_pure,frzP,pureS,pureL,K_own,hown],fun hh=>apart_does rfl rfl (by kernel_rfl) Tryz.func51 rfl (by simp [Tryz.f51]) ?_⟩
   simp only [Tryz.f51]
   refine hide ?_;intro Q3 hQ3
   repeat' (first
    | (replace hQ3:=hQ3;simp [bin,ford,equalA,appendA,appendL,lenS,elemsOf,sub,limit,outV,frzV,frzS,frzS_pure,frzP,pureS,pureL,K_own,hown])
    | refine hQ3 _ _ _ ?_
    | (first | apply cF | apply wN | apply wS) <;> intro hcnd <;> (try simp only [hcnd]) <;> (try simp [-List.isEmpty_iff,-List.isEmpty_eq_false_iff] at hcnd))
  ·have h1:l.length ≠ 0:=by simpa using h0
   have h3:pureL true (l.map byteS) = true:=by
    clear h0 h1 ho
    induction l with
    | nil=>rfl
    | cons a l ih=>simp [pureL,byteS,pureS] at ih ⊢;exact ih
   have h2:¬ (17592186044416 < l.length + 600 + l.length):=by simp at ho;omega
   have ht:(l.map byteS).take l.length = l.map byteS:=List.take_of_length_le (by simp)
   have h4:pureL false (l.map byteS) = true:=by have:=pureS_bs (some l);rw [bs_some] at this;simpa [pureS] using this
   have h5:(l.map byteS).mapM (frzS true ((H.empty.new ⟨0,[0],true,[]⟩).new ⟨0,[l.length],false,l.map byteS⟩) 63) = some (l.map byteS):=mapM_pure (n:=62) (by assumption)
   have hown:memL S.own 51 = false:=by kernel_rfl
   refine ⟨by simp [pureV,bin,ford,equalA,appendA,appendL,lenS,elemsOf,sub,limit,h0,h2,h3,h4,h5,ht,outV,frzV,frzS,frzS_pure,frzP,pureS,pureL,K_own,hown],fun hh=>apart_does rfl rfl (by kernel_rfl) Tryz.func51 rfl (by simp [Tryz.f51]) ?_⟩
   simp only [Tryz.f51]
   refine hide ?_;intro Q4 hQ4
   repeat' (first
    | (replace hQ4:=hQ4;simp [bin,ford,equalA,appendA,appendL,lenS,elemsOf,sub,limit,h0,h2,h3,h4,h5,ht,outV,frzV,frzS,frzS_pure,frzP,pureS,pureL,K_own,hown])
    | refine hQ4 _ _ _ ?_
    | (first | apply cF | apply wN | apply wS) <;> intro hcnd <;> (try simp only [hcnd]) <;> (try simp [-List.isEmpty_iff,-List.isEmpty_eq_false_iff] at hcnd))
   all_goals trace_state
end Go.Proofs.YtofafocfemikcaaGreat
