/- A part of a proof over the abstract machine. No conditions. -/
import Derived.Test.YtofafocfemikcaaGreatR2
import Derived.Test.YtofafocfemikcaaGreatAb3
set_option linter.unusedSimpArgs false
set_option linter.unnecessarySimpa false
set_option linter.unusedVariables false
namespace Go.Proofs.YtofafocfemikcaaGreat
open Go Go.Ab Wm NumPlain
set_option maxRecDepth 10000
set_option maxHeartbeats 4000000
theorem cond_a (c_has:Bool) (c_want:Bool) (c_col:BL) (c_v_kind:Int) (c_v_b:Option BL) (c_v_n:Nat) (hc:c_col.length ≤ 1048576) (hb:(ls c_v_b).length ≤ 1048576) (hn:c_v_n < 2 ^ 64):Adds K 36 [.agg [.bool c_has,.bool c_want,.str c_col,ii c_v_kind,bs c_v_b,.flt c_v_n]] (encCnd ⟨c_has,c_want,c_col,⟨c_v_kind,c_v_b,c_v_n⟩⟩):=by
 have hown:memL S.own 36 = true:=by kernel_rfl
 refine adds_of hp hown fun o hl=>?_
 have hl2:(ls o).length + 1 ≤ 1099511627776:=by
  have:1 ≤ (encCnd ⟨c_has,c_want,c_col,⟨c_v_kind,c_v_b,c_v_n⟩⟩).length:=by unfold encCnd;split <;> (try split) <;> simp
  omega
 obtain ⟨s1,h1,e1,os1,n1⟩:=app8 (a:=bs o) (x:=ls o) (made_box ⟨0,[6],true,[.bool c_has,.bool c_want,.str c_col,ii c_v_kind,bs c_v_b,.flt c_v_n]⟩) (lenS_bs o) (elems_bs _ o) (by simp;omega)
 simp only [List.nil_append] at os1
 have k1:=os1.kp
 simp only [keptP,and_true] at k1
 obtain ⟨x,hx⟩:∃ x:UInt8,x = if c_has = false then 0 else if c_want = false then 1 else 2:=⟨_,rfl⟩
 obtain ⟨s2,h2,e2,os2,n2⟩:=app8 (a:=.slc h1.next 0 0 1 1 none) (x:=[x]) (os1.new ⟨0,[1],true,[byteS x]⟩) rfl (elems_slc (n:=1) (fx:=true) (by simp) (by simp)) (by simpa using hl2)
 have k2:=os2.kp
 simp only [keptP,and_true] at k2
 have hz:¬ 0 = h1.next:=by simp at n1;omega
 have hz2:¬ 0 = h2.next:=by simp at n1 n2;omega
 have qb:isByteT Tryz.prog 5 = true:=by simp [isByteT]
 have hlim:c_col.length ≤ limit:=le_lim hc
 cases c_has
 ·have hx0:x = 0:=by rw [hx];rfl
  subst hx0
  simp only [encCnd,oqF,if_false] at hl ⊢
  have b2:=os2.byt
  have ex:byteS 0 = AS.int .u8 0:=rfl
  rw [ex] at e2
  have hk:=True.intro
  refine apart_does rfl rfl (by kernel_rfl) Tryz.func36 rfl (by simp [Tryz.f36]) ?_
  simp only [Tryz.f36]
  refine hide ?_;intro Q1 hQ1
  repeat' (first
   | (replace hQ1:=hQ1;simp [e1,hz,hz2,k1,e2,k2,hk])
   | refine hQ1 _ _ _ ?_
   | (first | refine dF (id:=5) [0,1,2,3,4,5,6,7] [(2,4)] ?_ | refine dF (id:=6) [0,1,2,3,4,5,6,7,8,9,10] [(2,4),(2,8),(6,8)] ?_)
   | (first | apply cF | apply wN | apply wS) <;> intro hcnd <;> (try simp only [hcnd]) <;> (try simp [-List.isEmpty_iff,-List.isEmpty_eq_false_iff] at hcnd))
  all_goals first | exact b2 | trace_state
 ·have hw1:=text_a (some c_col) hc
  cases c_want
  ·have hx0:x = 1:=by rw [hx];rfl
   subst hx0
   simp only [encCnd,oqF,if_false,if_true] at hl ⊢
   have ex:byteS 1 = AS.int .u8 1:=rfl
   rw [ex] at e2
   have hk:=True.intro
   refine apart_does rfl rfl (by kernel_rfl) Tryz.func36 rfl (by simp [Tryz.f36]) ?_
   simp only [Tryz.f36]
   refine hide ?_;intro Q2 hQ2
   repeat' (first
    | (replace hQ2:=hQ2;simp [e1,hz,hz2,k1,e2,k2,qb,hlim,convA,hk])
    | refine hQ2 _ _ _ ?_
    | ((with_reducible refine call_id ?_);first
     | (refine call_adds hw1 (OS.new (by assumption) _) (view_conv _ _) (by first | assumption | omega | (simp only [List.length_append,List.length_cons,List.length_nil,be_length,textB,encSpn,num4,num8];omega) | (simp only [List.length_append,List.length_cons,List.length_nil,be_length,textB] at *;omega) | (simp at *;omega)) (fun s' h' hn' os hk'=>?_);(try simp only [keptP,and_true] at hk');have hk:=And.intro hk' hk;clear hk';(try simp [e1,hz,hz2,k1,e2,k2,qb,hlim,convA,hk])))
    | (first | refine dF (id:=5) [0,1,2,3,4,5,6,7] [(2,4)] ?_ | refine dF (id:=6) [0,1,2,3,4,5,6,7,8,9,10] [(2,4),(2,8),(6,8)] ?_)
    | (first | apply cF | apply wN | apply wS) <;> intro hcnd <;> (try simp only [hcnd]) <;> (try simp [-List.isEmpty_iff,-List.isEmpty_eq_false_iff] at hcnd))
   all_goals first | exact (by simpa using os.byt) | trace_state
  ·have hx0:x = 2:=by rw [hx];rfl
   subst hx0
   simp only [encCnd,if_true] at hl ⊢
   have hw2:=put_a c_v_kind c_v_b c_v_n hb hn
   have ex:byteS 2 = AS.int .u8 2:=rfl
   rw [ex] at e2
   have hk:=True.intro
   refine apart_does rfl rfl (by kernel_rfl) Tryz.func36 rfl (by simp [Tryz.f36]) ?_
   simp only [Tryz.f36]
   refine hide ?_;intro Q3 hQ3
   repeat' (first
    | (replace hQ3:=hQ3;simp [e1,hz,hz2,k1,e2,k2,qb,hlim,convA,hk])
    | refine hQ3 _ _ _ ?_
    | ((with_reducible refine call_id ?_);first
     | (refine call_adds hw1 (OS.new (by assumption) _) (view_conv _ _) (by first | assumption | omega | (simp only [List.length_append,List.length_cons,List.length_nil,be_length,textB,encSpn,num4,num8];omega) | (simp only [List.length_append,List.length_cons,List.length_nil,be_length,textB] at *;omega) | (simp at *;omega)) (fun s' h' hn' os hk'=>?_);(try simp only [keptP,and_true] at hk');have hk:=And.intro hk' hk;clear hk';(try simp [e1,hz,hz2,k1,e2,k2,qb,hlim,convA,hk]))
     | ((first | refine aP (hw2) ?_ | refine aO (hw2) ?_ | refine aN (hw2) ?_);intro s' h' hn' os hk';(try simp only [keptP,and_true] at hk');have hk:=And.intro hk' hk;clear hk';(try simp [e1,hz,hz2,k1,e2,k2,qb,hlim,convA,hk])))
    | (first | refine dF (id:=5) [0,1,2,3,4,5,6,7] [(2,4)] ?_ | refine dF (id:=6) [0,1,2,3,4,5,6,7,8,9,10] [(2,4),(2,8),(6,8)] ?_)
    | (first | apply cF | apply wN | apply wS) <;> intro hcnd <;> (try simp only [hcnd]) <;> (try simp [-List.isEmpty_iff,-List.isEmpty_eq_false_iff] at hcnd))
   all_goals first | exact (by simpa using os.byt) | trace_state
end Go.Proofs.YtofafocfemikcaaGreat
