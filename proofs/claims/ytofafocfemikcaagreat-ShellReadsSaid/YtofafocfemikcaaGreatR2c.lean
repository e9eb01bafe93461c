/- A part of a proof over the abstract machine. No conditions. -/
import Derived.Test.YtofafocfemikcaaGreatR2
import Derived.Test.YtofafocfemikcaaGreatAb3
set_option linter.unusedSimpArgs false
set_option linter.unnecessarySimpa false
set_option linter.unusedVariables false
namespace Go.Proofs.YtofafocfemikcaaGreat
open Go Go.Ab Wm NumPlain
set_option maxRecDepth 10000
set_option maxHeartbeats 4000000
theorem chg_a (c_kind:Int) (c_col:BL) (c_time:Int) (c_v_kind:Int) (c_v_b:Option BL) (c_v_n:Nat) (hk5:1 ≤ c_kind∧c_kind ≤ 5) (hc:c_col.length ≤ 1048576) (ht:0 ≤ c_time∧c_time < 9223372036854775808) (hb:(ls c_v_b).length ≤ 1048576) (hn:c_v_n < 2 ^ 64):Adds K 37 [.agg [ii c_kind,.str c_col,ii c_time,ii c_v_kind,bs c_v_b,.flt c_v_n]] (encChg ⟨c_kind,c_col,c_time,⟨c_v_kind,c_v_b,c_v_n⟩⟩):=by
 have hown:memL S.own 37 = true:=by kernel_rfl
 refine adds_of hp hown fun o hl=>?_
 have hl2:(ls o).length + 1 ≤ 1099511627776:=by
  have:1 ≤ (encChg ⟨c_kind,c_col,c_time,⟨c_v_kind,c_v_b,c_v_n⟩⟩).length:=by unfold encChg;split <;> simp
  omega
 obtain ⟨s1,h1,e1,os1,n1⟩:=app8 (a:=bs o) (x:=ls o) (made_box ⟨0,[6],true,[ii c_kind,.str c_col,ii c_time,ii c_v_kind,bs c_v_b,.flt c_v_n]⟩) (lenS_bs o) (elems_bs _ o) (by simp;omega)
 simp only [List.nil_append] at os1
 have k1:=os1.kp
 simp only [keptP,and_true] at k1
 obtain ⟨s2,h2,e2,os2,n2⟩:=app8 (a:=.slc h1.next 0 0 1 1 none) (x:=[u8 c_kind]) (os1.new ⟨0,[1],true,[byteS (u8 c_kind)]⟩) rfl (elems_slc (n:=1) (fx:=true) (by simp) (by simp)) (by simpa using hl2)
 have k2:=os2.kp
 simp only [keptP,and_true] at k2
 have hz:¬ 0 = h1.next:=by simp at n1;omega
 have qb:isByteT Tryz.prog 5 = true:=by simp [isByteT]
 have hlim:c_col.length ≤ limit:=le_lim hc
 have hw1:=text_a (some c_col) hc
 have ht8:u64 c_time < 18446744073709551616:=by unfold u64;omega
 have hw2:=long_a (u64 c_time) ht8
 have ew:IntKind.u64.wrap c_time = (u64 c_time:Nat):=by unfold u64;rw [wrap_u64m];omega
 have hw3:=put_a c_v_kind c_v_b c_v_n hb hn
 have l8:=be_length 8 (u64 c_time)
 obtain rfl | rfl | rfl | rfl | rfl:c_kind = 1 ∨ c_kind = 2 ∨ c_kind = 3 ∨ c_kind = 4 ∨ c_kind = 5:=by omega
 ·simp [encChg,asks,num8] at hl ⊢
  have hk:=True.intro
  refine apart_does rfl rfl (by kernel_rfl) Tryz.func37 rfl (by simp [Tryz.f37]) ?_
  simp only [Tryz.f37]
  refine hide ?_;intro Q1 hQ1
  repeat' (first
   | (replace hQ1:=hQ1;simp [e1,hz,k1,e2,k2,qb,hlim,wrapB,ew,convA,hk])
   | refine hQ1 _ _ _ ?_
   | ((with_reducible refine call_id ?_);first
    | (refine call_adds hw1 (OS.new (by assumption) _) (view_conv _ _) (by first | assumption | omega | (simp only [List.length_append,List.length_cons,List.length_nil,be_length,textB,encSpn,num4,num8];omega) | (simp only [List.length_append,List.length_cons,List.length_nil,be_length,textB] at *;omega) | (simp at *;omega)) (fun s' h' hn' os hk'=>?_);(try simp only [keptP,and_true] at hk');have hk:=And.intro hk' hk;clear hk';(try simp [e1,hz,k1,e2,k2,qb,hlim,wrapB,ew,convA,hk]))
    | ((first | refine aP (hw2) ?_ | refine aO (hw2) ?_ | refine aN (hw2) ?_);intro s' h' hn' os hk';(try simp only [keptP,and_true] at hk');have hk:=And.intro hk' hk;clear hk';(try simp [e1,hz,k1,e2,k2,qb,hlim,wrapB,ew,convA,hk]))
    | ((first | refine aP (hw3) ?_ | refine aO (hw3) ?_ | refine aN (hw3) ?_);intro s' h' hn' os hk';(try simp only [keptP,and_true] at hk');have hk:=And.intro hk' hk;clear hk';(try simp [e1,hz,k1,e2,k2,qb,hlim,wrapB,ew,convA,hk])))
   | refine dF (id:=1) [1,0,2,3,4,5,6,7,8] [(2,4)] ?_
   | (first | apply cF | apply wN | apply wS) <;> intro hcnd <;> (try simp only [hcnd]) <;> (try simp [-List.isEmpty_iff,-List.isEmpty_eq_false_iff] at hcnd))
  all_goals first | exact (by simpa using os.byt) | trace_state
 ·simp [encChg,asks,num8] at hl ⊢
  have hk:=True.intro
  refine apart_does rfl rfl (by kernel_rfl) Tryz.func37 rfl (by simp [Tryz.f37]) ?_
  simp only [Tryz.f37]
  refine hide ?_;intro Q2 hQ2
  repeat' (first
   | (replace hQ2:=hQ2;simp [e1,hz,k1,e2,k2,qb,hlim,wrapB,ew,convA,hk])
   | refine hQ2 _ _ _ ?_
   | ((with_reducible refine call_id ?_);first
    | (refine call_adds hw1 (OS.new (by assumption) _) (view_conv _ _) (by first | assumption | omega | (simp only [List.length_append,List.length_cons,List.length_nil,be_length,textB,encSpn,num4,num8];omega) | (simp only [List.length_append,List.length_cons,List.length_nil,be_length,textB] at *;omega) | (simp at *;omega)) (fun s' h' hn' os hk'=>?_);(try simp only [keptP,and_true] at hk');have hk:=And.intro hk' hk;clear hk';(try simp [e1,hz,k1,e2,k2,qb,hlim,wrapB,ew,convA,hk]))
    | ((first | refine aP (hw2) ?_ | refine aO (hw2) ?_ | refine aN (hw2) ?_);intro s' h' hn' os hk';(try simp only [keptP,and_true] at hk');have hk:=And.intro hk' hk;clear hk';(try simp [e1,hz,k1,e2,k2,qb,hlim,wrapB,ew,convA,hk]))
    | ((first | refine aP (hw3) ?_ | refine aO (hw3) ?_ | refine aN (hw3) ?_);intro s' h' hn' os hk';(try simp only [keptP,and_true] at hk');have hk:=And.intro hk' hk;clear hk';(try simp [e1,hz,k1,e2,k2,qb,hlim,wrapB,ew,convA,hk])))
   | refine dF (id:=1) [1,0,2,3,4,5,6,7,8] [(2,4)] ?_
   | (first | apply cF | apply wN | apply wS) <;> intro hcnd <;> (try simp only [hcnd]) <;> (try simp [-List.isEmpty_iff,-List.isEmpty_eq_false_iff] at hcnd))
  all_goals first | exact (by simpa using os.byt) | trace_state
 ·simp [encChg,asks,num8] at hl ⊢
  have hk:=True.intro
  refine apart_does rfl rfl (by kernel_rfl) Tryz.func37 rfl (by simp [Tryz.f37]) ?_
  simp only [Tryz.f37]
  refine hide ?_;intro Q3 hQ3
  repeat' (first
   | (replace hQ3:=hQ3;simp [e1,hz,k1,e2,k2,qb,hlim,wrapB,ew,convA,hk])
   | refine hQ3 _ _ _ ?_
   | ((with_reducible refine call_id ?_);first
    | (refine call_adds hw1 (OS.new (by assumption) _) (view_conv _ _) (by first | assumption | omega | (simp only [List.length_append,List.length_cons,List.length_nil,be_length,textB,encSpn,num4,num8];omega) | (simp only [List.length_append,List.length_cons,List.length_nil,be_length,textB] at *;omega) | (simp at *;omega)) (fun s' h' hn' os hk'=>?_);(try simp only [keptP,and_true] at hk');have hk:=And.intro hk' hk;clear hk';(try simp [e1,hz,k1,e2,k2,qb,hlim,wrapB,ew,convA,hk]))
    | ((first | refine aP (hw2) ?_ | refine aO (hw2) ?_ | refine aN (hw2) ?_);intro s' h' hn' os hk';(try simp only [keptP,and_true] at hk');have hk:=And.intro hk' hk;clear hk';(try simp [e1,hz,k1,e2,k2,qb,hlim,wrapB,ew,convA,hk]))
    | ((first | refine aP (hw3) ?_ | refine aO (hw3) ?_ | refine aN (hw3) ?_);intro s' h' hn' os hk';(try simp only [keptP,and_true] at hk');have hk:=And.intro hk' hk;clear hk';(try simp [e1,hz,k1,e2,k2,qb,hlim,wrapB,ew,convA,hk])))
   | refine dF (id:=1) [1,0,2,3,4,5,6,7,8] [(2,4)] ?_
   | (first | apply cF | apply wN | apply wS) <;> intro hcnd <;> (try simp only [hcnd]) <;> (try simp [-List.isEmpty_iff,-List.isEmpty_eq_false_iff] at hcnd))
  all_goals first | exact (by simpa using os.byt) | trace_state
 ·simp [encChg,asks,num8] at hl ⊢
  have hk:=True.intro
  refine apart_does rfl rfl (by kernel_rfl) Tryz.func37 rfl (by simp [Tryz.f37]) ?_
  simp only [Tryz.f37]
  refine hide ?_;intro Q4 hQ4
  repeat' (first
   | (replace hQ4:=hQ4;simp [e1,hz,k1,e2,k2,qb,hlim,wrapB,ew,convA,hk])
   | refine hQ4 _ _ _ ?_
   | ((with_reducible refine call_id ?_);first
    | (refine call_adds hw1 (OS.new (by assumption) _) (view_conv _ _) (by first | assumption | omega | (simp only [List.length_append,List.length_cons,List.length_nil,be_length,textB,encSpn,num4,num8];omega) | (simp only [List.length_append,List.length_cons,List.length_nil,be_length,textB] at *;omega) | (simp at *;omega)) (fun s' h' hn' os hk'=>?_);(try simp only [keptP,and_true] at hk');have hk:=And.intro hk' hk;clear hk';(try simp [e1,hz,k1,e2,k2,qb,hlim,wrapB,ew,convA,hk]))
    | ((first | refine aP (hw2) ?_ | refine aO (hw2) ?_ | refine aN (hw2) ?_);intro s' h' hn' os hk';(try simp only [keptP,and_true] at hk');have hk:=And.intro hk' hk;clear hk';(try simp [e1,hz,k1,e2,k2,qb,hlim,wrapB,ew,convA,hk]))
    | ((first | refine aP (hw3) ?_ | refine aO (hw3) ?_ | refine aN (hw3) ?_);intro s' h' hn' os hk';(try simp only [keptP,and_true] at hk');have hk:=And.intro hk' hk;clear hk';(try simp [e1,hz,k1,e2,k2,qb,hlim,wrapB,ew,convA,hk])))
   | refine dF (id:=1) [1,0,2,3,4,5,6,7,8] [(2,4)] ?_
   | (first | apply cF | apply wN | apply wS) <;> intro hcnd <;> (try simp only [hcnd]) <;> (try simp [-List.isEmpty_iff,-List.isEmpty_eq_false_iff] at hcnd))
  all_goals first | exact (by simpa using os2.byt) | trace_state
 ·simp [encChg,asks,num8] at hl ⊢
  have hk:=True.intro
  refine apart_does rfl rfl (by kernel_rfl) Tryz.func37 rfl (by simp [Tryz.f37]) ?_
  simp only [Tryz.f37]
  refine hide ?_;intro Q5 hQ5
  repeat' (first
   | (replace hQ5:=hQ5;simp [e1,hz,k1,e2,k2,qb,hlim,wrapB,ew,convA,hk])
   | refine hQ5 _ _ _ ?_
   | ((with_reducible refine call_id ?_);first
    | (refine call_adds hw1 (OS.new (by assumption) _) (view_conv _ _) (by first | assumption | omega | (simp only [List.length_append,List.length_cons,List.length_nil,be_length,textB,encSpn,num4,num8];omega) | (simp only [List.length_append,List.length_cons,List.length_nil,be_length,textB] at *;omega) | (simp at *;omega)) (fun s' h' hn' os hk'=>?_);(try simp only [keptP,and_true] at hk');have hk:=And.intro hk' hk;clear hk';(try simp [e1,hz,k1,e2,k2,qb,hlim,wrapB,ew,convA,hk]))
    | ((first | refine aP (hw2) ?_ | refine aO (hw2) ?_ | refine aN (hw2) ?_);intro s' h' hn' os hk';(try simp only [keptP,and_true] at hk');have hk:=And.intro hk' hk;clear hk';(try simp [e1,hz,k1,e2,k2,qb,hlim,wrapB,ew,convA,hk]))
    | ((first | refine aP (hw3) ?_ | refine aO (hw3) ?_ | refine aN (hw3) ?_);intro s' h' hn' os hk';(try simp only [keptP,and_true] at hk');have hk:=And.intro hk' hk;clear hk';(try simp [e1,hz,k1,e2,k2,qb,hlim,wrapB,ew,convA,hk])))
   | refine dF (id:=1) [1,0,2,3,4,5,6,7,8] [(2,4)] ?_
   | (first | apply cF | apply wN | apply wS) <;> intro hcnd <;> (try simp only [hcnd]) <;> (try simp [-List.isEmpty_iff,-List.isEmpty_eq_false_iff] at hcnd))
  all_goals first | exact (by simpa using os.byt) | trace_state
end Go.Proofs.YtofafocfemikcaaGreat
