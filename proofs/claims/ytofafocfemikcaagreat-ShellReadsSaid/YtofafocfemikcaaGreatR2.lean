/- A part of a proof over the abstract machine. No conditions. -/
import Derived.Test.YtofafocfemikcaaGreatC3
import Derived.Test.YtofafocfemikcaaGreatAb5
import Derived.Test.YtofafocfemikcaaGreatAb5
set_option linter.unusedSimpArgs false
set_option linter.unnecessarySimpa false
set_option linter.unusedVariables false
namespace Go.Proofs.YtofafocfemikcaaGreat
open Go Go.Ab Wm NumPlain
set_option maxRecDepth 10000
set_option maxHeartbeats 4000000
theorem shr32_be {n k:Nat} (hk:k ≤ 3):shiftI .shr .u32 (n:Int) ((8 * k:Nat):Int) = some (.int .u32 ((n / 256 ^ k:Nat):Int)):=by
 have:k = 0 ∨ k = 1 ∨ k = 2 ∨ k = 3:=by omega
 rcases this with rfl | rfl | rfl | rfl <;> simp [shiftI,IntKind.bits] <;> rw [Int.fdiv_eq_ediv_of_nonneg _ (by decide)]
theorem bs_plain' (o:Option BL):(∀ f y c,bs o ≠ .fn f y c)∧∀ t v,bs o ≠ .ifc t v:=by cases o <;> simp [bs_none,bs_some]
abbrev app8 {h:H} {s a:AS} {l x:BL} {kept:List (Nat × Blk)}:=@os_append Tryz.prog 31 5 Tryz.underlying31 (by simp) (by simp) Tryz.bytes5 h s a l x kept
theorem num_a (n:Nat) (hn:n < 4294967296):Adds K 38 [.one (.int .u32 n)] (be 4 n):=by
 have hown:memL S.own 38 = true:=by kernel_rfl
 refine adds_of hp hown fun o hl=>?_
 rw [be_length] at hl
 obtain ⟨s1,h1,e1,os1,n1⟩:=app8 (a:=bs o) (x:=ls o) (os_made0 true) (lenS_bs o) (elems_bs _ o) (by simp;omega)
 simp only [List.nil_append] at os1
 obtain ⟨s2,h2,e2,os2,n2⟩:=app8 (a:=.slc h1.next 0 0 4 1 none) (x:=be 4 n) (os1.new ⟨0,[4],true,(be 4 n).map byteS⟩) rfl (elems_slc (n:=4) (fx:=true) (by simp) (by simp [be_length])) (by simp [be_length];omega)
 have q1:shiftI .shr .u32 (n:Int) 24 = _:=shr32_be (n:=n) (k:=3) (by omega)
 have q2:shiftI .shr .u32 (n:Int) 16 = _:=shr32_be (n:=n) (k:=2) (by omega)
 have q3:shiftI .shr .u32 (n:Int) 8 = _:=shr32_be (n:=n) (k:=1) (by omega)
 have b3:=u8_of (n / 256 ^ 3)
 have b2:=u8_of (n / 256 ^ 2)
 have b1:=u8_of (n / 256 ^ 1)
 have b0:=u8_of n
 have hbe:(be 4 n).map byteS = [byteS (UInt8.ofNat (n / 256 ^ 3)),byteS (UInt8.ofNat (n / 256 ^ 2)),byteS (UInt8.ofNat (n / 256 ^ 1)),byteS (UInt8.ofNat n)]:=by simp [be]
 rw [hbe] at e2
 have os3:=os2.byt
 clear os2
 generalize ht3:n / 256 ^ 3 = m3 at *
 generalize ht2:n / 256 ^ 2 = m2 at *
 generalize ht1:n / 256 ^ 1 = m1 at *
 have hk:=True.intro
 refine apart_does rfl rfl (by kernel_rfl) Tryz.func38 rfl (by simp [Tryz.f38]) ?_
 simp only [Tryz.f38]
 refine hide ?_;intro Q4 hQ4
 repeat' (first
  | (replace hQ4:=hQ4;simp [e1,q1,q2,q3,b3,b2,b1,b0,convA,e2,hk])
  | refine hQ4 _ _ _ ?_)
 all_goals exact os3
theorem be8 (n:Nat):be 8 n = be 4 (n / 4294967296)++be 4 (n % 4294967296):=by
 simp only [be,List.cons_append,List.nil_append]
 have key:∀ a b:Nat,a % 256 = b % 256→UInt8.ofNat a = UInt8.ofNat b:=by
  intro a b h
  apply UInt8.toNat_inj.1
  simp only [UInt8.toNat_ofNat']
  exact h
 congr 1
 ·exact key _ _ (by omega)
 congr 1
 ·exact key _ _ (by omega)
 congr 1
 ·exact key _ _ (by omega)
 congr 1
 ·exact key _ _ (by omega)
 congr 1
 ·exact key _ _ (by omega)
 congr 1
 ·exact key _ _ (by omega)
 congr 1
 ·exact key _ _ (by omega)
 congr 1
 ·exact key _ _ (by omega)
theorem long_a (n:Nat) (hn:n < 18446744073709551616):Adds K 53 [.one (.int .u64 n)] (be 8 n):=by
 have hown:memL S.own 53 = true:=by kernel_rfl
 refine adds_of hp hown fun o hl=>?_
 rw [be_length] at hl
 rw [be8]
 have q1:shiftI .shr .u64 (n:Int) 32 = some (.int .u64 ((n / 4294967296:Nat):Int)):=by
  simp [shiftI,IntKind.bits]
  rw [Int.fdiv_eq_ediv_of_nonneg _ (by decide)]
 have q2:IntKind.u32.wrap ((n / 4294967296:Nat):Int) = (n / 4294967296:Nat):=wrap_u32 (by omega) (by omega)
 have q3:IntKind.u32.wrap (n:Int) = (n % 4294967296:Nat):=by rw [wrap_u32m];omega
 generalize ha:n / 4294967296 = a at *
 generalize hb:n % 4294967296 = b at *
 have hw1:=num_a a (by omega)
 have hw2:=num_a b (by omega)
 have l1:=be_length 4 a
 have l2:=be_length 4 b
 have hk:=True.intro
 refine apart_does rfl rfl (by kernel_rfl) Tryz.func53 rfl (by simp [Tryz.f53]) ?_
 simp only [Tryz.f53]
 refine hide ?_;intro Q5 hQ5
 repeat' (first
  | (replace hQ5:=hQ5;simp [q1,convA,q2,q3,hk])
  | refine hQ5 _ _ _ ?_
  | ((with_reducible refine call_id ?_);first
   | ((first | refine aP (hw1) ?_ | refine aO (hw1) ?_ | refine aN (hw1) ?_);intro s' h' hn' os hk';(try simp only [keptP,and_true] at hk');have hk:=And.intro hk' hk;clear hk';(try simp [q1,convA,q2,q3,hk]))
   | ((first | refine aP (hw2) ?_ | refine aO (hw2) ?_ | refine aN (hw2) ?_);intro s' h' hn' os hk';(try simp only [keptP,and_true] at hk');have hk:=And.intro hk' hk;clear hk';(try simp [q1,convA,q2,q3,hk]))))
 all_goals first | exact (by simpa using os.byt) | trace_state
theorem rbits_c (b:Nat) (hb:b < 2 ^ 64) (h:H):W K 76 [.one (.flt b)] h = some (.ret (.one (.int .u64 (canF b))) h):=by
 have e:=isN_iff b
 have i1:=ref_inf hb
 have i2:=ref_low hb
 unfold canF
 by_cases h1:INF ≤ rung b
 ·by_cases h2:b % 4503599627370496 = 0
  ·have hi:isN b = false:=by rw [e];simp [h2]
   simp only [h1,decide_true] at i1
   simp only [h2,ne_eq,not_true_eq_false,decide_false] at i2
   have hown:memL S.own 76 = false:=by kernel_rfl
   refine W_pure hp (by simp [pureV,fbits_c,i1,i2,hi,outV,frzV,frzS,frzS_pure,frzP,pureS,pureL,K_own,hown]) (apart_does rfl rfl (by kernel_rfl) Tryz.func76 rfl (by simp [Tryz.f76]) ?_)
   simp only [Tryz.f76]
   refine hide ?_;intro Q1 hQ1
   repeat' (first
    | (replace hQ1:=hQ1;simp [fbits_c,i1,i2,hi,outV,frzV,frzS,frzS_pure,frzP,pureS,pureL,K_own,hown])
    | refine hQ1 _ _ _ ?_
    | (first | apply cF | apply wN | apply wS) <;> intro hcnd <;> (try simp only [hcnd]) <;> (try simp [-List.isEmpty_iff,-List.isEmpty_eq_false_iff] at hcnd))
  ·have hi:isN b = true:=by rw [e];simp [h1,h2]
   simp only [h1,decide_true] at i1
   simp only [h2,ne_eq,not_false_eq_true,decide_true] at i2
   have hown:memL S.own 76 = false:=by kernel_rfl
   refine W_pure hp (by simp [pureV,fbits_c,i1,i2,hi,outV,frzV,frzS,frzS_pure,frzP,pureS,pureL,K_own,hown]) (apart_does rfl rfl (by kernel_rfl) Tryz.func76 rfl (by simp [Tryz.f76]) ?_)
   simp only [Tryz.f76]
   refine hide ?_;intro Q2 hQ2
   repeat' (first
    | (replace hQ2:=hQ2;simp [fbits_c,i1,i2,hi,outV,frzV,frzS,frzS_pure,frzP,pureS,pureL,K_own,hown])
    | refine hQ2 _ _ _ ?_
    | (first | apply cF | apply wN | apply wS) <;> intro hcnd <;> (try simp only [hcnd]) <;> (try simp [-List.isEmpty_iff,-List.isEmpty_eq_false_iff] at hcnd))
 ·have hi:isN b = false:=by rw [e];simp [h1]
  simp only [h1,decide_false] at i1
  have hown:memL S.own 76 = false:=by kernel_rfl
  refine W_pure hp (by simp [pureV,fbits_c,i1,i2,hi,outV,frzV,frzS,frzS_pure,frzP,pureS,pureL,K_own,hown]) (apart_does rfl rfl (by kernel_rfl) Tryz.func76 rfl (by simp [Tryz.f76]) ?_)
  simp only [Tryz.f76]
  refine hide ?_;intro Q3 hQ3
  repeat' (first
   | (replace hQ3:=hQ3;simp [fbits_c,i1,i2,hi,outV,frzV,frzS,frzS_pure,frzP,pureS,pureL,K_own,hown])
   | refine hQ3 _ _ _ ?_
   | (first | apply cF | apply wN | apply wS) <;> intro hcnd <;> (try simp only [hcnd]) <;> (try simp [-List.isEmpty_iff,-List.isEmpty_eq_false_iff] at hcnd))
theorem canF_lt {b:Nat} (hb:b < 2 ^ 64):canF b < 18446744073709551616:=by unfold canF;split <;> omega
theorem float_a (b:Nat) (hb:b < 2 ^ 64):Adds K 62 [.one (.flt b)] (be 8 (canF b)):=by
 have hown:memL S.own 62 = true:=by kernel_rfl
 refine adds_of hp hown fun o hl=>?_
 have hw:=long_a (canF b) (canF_lt hb)
 have hc:=rbits_c b hb
 have l1:=be_length 8 (canF b)
 have hk:=True.intro
 refine apart_does rfl rfl (by kernel_rfl) Tryz.func62 rfl (by simp [Tryz.f62]) ?_
 simp only [Tryz.f62]
 refine hide ?_;intro Q6 hQ6
 repeat' (first
  | (replace hQ6:=hQ6;simp [hc,hk])
  | refine hQ6 _ _ _ ?_
  | ((with_reducible refine call_id ?_);first
   | ((first | refine aP (hw) ?_ | refine aO (hw) ?_ | refine aN (hw) ?_);intro s' h' hn' os hk';(try simp only [keptP,and_true] at hk');have hk:=And.intro hk' hk;clear hk';(try simp [hc,hk]))))
 all_goals first | exact os.byt | trace_state
theorem text_a (x:Option BL) (hx:(ls x).length ≤ 1048576):Adds K 40 [.one (bs x)] (textB (ls x)):=by
 have hown:memL S.own 40 = true:=by kernel_rfl
 refine adds_of hp hown fun o hl=>?_
 have hlt:(ls o).length + (4 + (ls x).length) ≤ 1099511627776:=by simpa [textB,be_length] using hl
 have w1:IntKind.u32.wrap ((ls x).length:Int) = (ls x).length:=wrap_u32 (by omega) (by omega)
 obtain ⟨x0,e0⟩:=num_a (ls x).length (by omega) o (by rw [be_length];omega) H.empty _ (viewA_bs (by simp [pureV,pureS]))
 have os0:=OS.made H.empty (ls o++be 4 (ls x).length) x0 [] trivial (by simp)
 obtain ⟨s1,h1,e1,os1,n1⟩:=app8 (a:=bs x) (x:=ls x) os0 (lenS_bs x) (elems_bs _ x) (by simp [be_length];omega)
 simp only [empty_next] at e0 e1
 have b1:=os1.byt
 rw [List.append_assoc] at b1
 clear os1 os0
 generalize (ls o++be 4 (ls x).length).length = m at *
 generalize blkOf ((ls o++be 4 (ls x).length).map byteS) x0 = B at *
 have hk:=True.intro
 refine apart_does rfl rfl (by kernel_rfl) Tryz.func40 rfl (by simp [Tryz.f40]) ?_
 simp only [Tryz.f40]
 refine hide ?_;intro Q7 hQ7
 repeat' (first
  | (replace hQ7:=hQ7;simp [e0,e1,w1,convA,hk])
  | refine hQ7 _ _ _ ?_)
 all_goals first | exact b1 | trace_state
theorem texts_a (s:BL) (hs:s.length ≤ 1048576):Adds K 34 [.one (.str s)] (textB s):=by
 have hown:memL S.own 34 = true:=by kernel_rfl
 refine adds_of hp hown fun o hl=>?_
 have hw:=text_a (some s) hs
 have qb:isByteT Tryz.prog 5 = true:=by simp [isByteT]
 have hlim:s.length ≤ limit:=le_lim hs
 have hv:viewA (H.empty.new ⟨0,[s.length],false,s.map byteS⟩) [.one (bs o),.one (.slc 0 0 0 s.length 1 none)] = some [.one (bs o),.one (bs (some s))]:=by
  have hb:Byt (H.empty.new (blkOf (s.map byteS) false)) (.slc 0 0 0 s.length 1 none) s:=byt_made H.empty s false
  have h1:=view_byt hb
  have h2:viewS (H.empty.new (blkOf (s.map byteS) false)) 64 (bs o) = some (bs o):=viewS_pure (by simp) (bs_plain' o).1 (bs_plain' o).2
  simp only [blkOf,List.length_map] at h1 h2
  unfold viewA
  rw [if_neg (by simp [pureV,pureS])]
  simp only [List.mapM_cons,List.mapM_nil,viewV,h1,h2,oqE,oqS,oqP]
 obtain ⟨x0,e0⟩:=hw o hl _ _ hv
 have b0:=byt_made (H.empty.new ⟨0,[s.length],false,s.map byteS⟩) (ls o++textB (ls (some s))) x0
 simp only [new_next,empty_next,Nat.zero_add] at e0 b0
 generalize (ls o++textB (ls (some s))).length = m at *
 generalize blkOf ((ls o++textB (ls (some s))).map byteS) x0 = B at *
 have hk:=True.intro
 refine apart_does rfl rfl (by kernel_rfl) Tryz.func34 rfl (by simp [Tryz.f34]) ?_
 simp only [Tryz.f34]
 refine hide ?_;intro Q8 hQ8
 repeat' (first
  | (replace hQ8:=hQ8;simp [e0,qb,hlim,convA,hk])
  | refine hQ8 _ _ _ ?_)
 all_goals first | exact b0 | trace_state
theorem one_a (n:Int):Adds K 35 [.one (ii n)] [u8 n]:=by
 have hown:memL S.own 35 = true:=by kernel_rfl
 refine adds_of hp hown fun o hl=>?_
 obtain ⟨s1,h1,e1,os1,n1⟩:=app8 (a:=bs o) (x:=ls o) (os_made0 true) (lenS_bs o) (elems_bs _ o) (by simp at hl ⊢;omega)
 simp only [List.nil_append] at os1
 obtain ⟨s2,h2,e2,os2,n2⟩:=app8 (a:=.slc h1.next 0 0 1 1 none) (x:=[u8 n]) (os1.new ⟨0,[1],true,[byteS (u8 n)]⟩) rfl (elems_slc (n:=1) (fx:=true) (by simp) (by simp)) (by simpa using hl)
 have b2:=os2.byt
 clear os2
 have hk:=True.intro
 refine apart_does rfl rfl (by kernel_rfl) Tryz.func35 rfl (by simp [Tryz.f35]) ?_
 simp only [Tryz.f35]
 refine hide ?_;intro Q9 hQ9
 repeat' (first
  | (replace hQ9:=hQ9;simp [e1,wrapB,convA,e2,hk])
  | refine hQ9 _ _ _ ?_)
 all_goals first | exact b2 | trace_state
theorem made_box (k:Blk):OS ((H.empty.new k).new ⟨0,[0],true,[]⟩) (.slc 1 0 0 0 1 none) [] [(0,k)]:=OS.made (H.empty.new k) [] true [(0,k)] ⟨by simp,trivial⟩ (by simp)
theorem put_a (v_kind:Int) (v_b:Option BL) (v_n:Nat) (hb:(ls v_b).length ≤ 1048576) (hn:v_n < 2 ^ 64):Adds K 52 [.agg [ii v_kind,bs v_b,.flt v_n]] (encVal ⟨v_kind,v_b,v_n⟩):=by
 have hown:memL S.own 52 = true:=by kernel_rfl
 refine adds_of hp hown fun o hl=>?_
 have hl2:(ls o).length + 1 ≤ 1099511627776:=by
  have:1 ≤ (encVal ⟨v_kind,v_b,v_n⟩).length:=by unfold encVal;split <;> (try split) <;> simp
  omega
 obtain ⟨s1,h1,e1,os1,n1⟩:=app8 (a:=bs o) (x:=ls o) (made_box ⟨0,[3],true,[ii v_kind,bs v_b,.flt v_n]⟩) (lenS_bs o) (elems_bs _ o) (by simp;omega)
 simp only [List.nil_append] at os1
 have k1:=os1.kp
 simp only [keptP,and_true] at k1
 obtain ⟨x,hx⟩:∃ x:UInt8,x = if v_kind = 1 then 1 else if v_kind = 2 then 2 else 0:=⟨_,rfl⟩
 obtain ⟨s2,h2,e2,os2,n2⟩:=app8 (a:=.slc h1.next 0 0 1 1 none) (x:=[x]) (os1.new ⟨0,[1],true,[byteS x]⟩) rfl (elems_slc (n:=1) (fx:=true) (by simp) (by simp)) (by simpa using hl2)
 have k2:=os2.kp
 simp only [keptP,and_true] at k2
 have hz:¬ 0 = h1.next:=by simp at n1;omega
 by_cases c1:v_kind = 1
 ·simp only [c1,if_true] at hx
  subst hx
  subst c1
  simp only [encVal,if_true] at hl ⊢
  have hw:=text_a v_b hb
  have ex:byteS 1 = AS.int .u8 1:=rfl
  rw [ex] at e2
  have hk:=True.intro
  refine apart_does rfl rfl (by kernel_rfl) Tryz.func52 rfl (by simp [Tryz.f52]) ?_
  simp only [Tryz.f52]
  refine hide ?_;intro Q11 hQ11
  repeat' (first
   | (replace hQ11:=hQ11;simp [e1,hz,k1,e2,k2,hk])
   | refine hQ11 _ _ _ ?_
   | ((with_reducible refine call_id ?_);first
    | ((first | refine aP (hw) ?_ | refine aO (hw) ?_ | refine aN (hw) ?_);intro s' h' hn' os hk';(try simp only [keptP,and_true] at hk');have hk:=And.intro hk' hk;clear hk';(try simp [e1,hz,k1,e2,k2,hk])))
   | (first | refine dF (id:=3) [1,0,2,3,4,5,6,7,8] [(2,6),(4,6)] ?_ | refine dF (id:=5) [1,0,2,3,4,5,6,7,8] [(2,6),(4,6)] ?_)
   | (first | apply cF | apply wN | apply wS) <;> intro hcnd <;> (try simp only [hcnd]) <;> (try simp [-List.isEmpty_iff,-List.isEmpty_eq_false_iff] at hcnd))
  all_goals first | exact (by simpa using os.byt) | trace_state
 ·by_cases c2:v_kind = 2
  ·simp only [c2,if_true] at hx
   subst c2
   simp only [encVal,if_true] at hl ⊢
   have hw:=float_a v_n hn
   have hx2:x = 2:=by rw [hx];simp
   subst hx2
   have ex:byteS 2 = AS.int .u8 2:=rfl
   rw [ex] at e2
   have hk:=True.intro
   refine apart_does rfl rfl (by kernel_rfl) Tryz.func52 rfl (by simp [Tryz.f52]) ?_
   simp only [Tryz.f52]
   refine hide ?_;intro Q12 hQ12
   repeat' (first
    | (replace hQ12:=hQ12;simp [e1,hz,k1,e2,k2,hk])
    | refine hQ12 _ _ _ ?_
    | ((with_reducible refine call_id ?_);first
     | ((first | refine aP (hw) ?_ | refine aO (hw) ?_ | refine aN (hw) ?_);intro s' h' hn' os hk';(try simp only [keptP,and_true] at hk');have hk:=And.intro hk' hk;clear hk';(try simp [e1,hz,k1,e2,k2,hk])))
    | (first | refine dF (id:=3) [1,0,2,3,4,5,6,7,8] [(2,6),(4,6)] ?_ | refine dF (id:=5) [1,0,2,3,4,5,6,7,8] [(2,6),(4,6)] ?_)
    | (first | apply cF | apply wN | apply wS) <;> intro hcnd <;> (try simp only [hcnd]) <;> (try simp [-List.isEmpty_iff,-List.isEmpty_eq_false_iff] at hcnd))
   all_goals first | exact (by simpa using os.byt) | trace_state
  ·simp only [c1,c2,if_false] at hx
   subst hx
   simp only [encVal,c1,c2,if_false] at hl ⊢
   have ex:byteS 0 = AS.int .u8 0:=rfl
   rw [ex] at e2
   have b2:=os2.byt
   have hk:=True.intro
   refine apart_does rfl rfl (by kernel_rfl) Tryz.func52 rfl (by simp [Tryz.f52]) ?_
   simp only [Tryz.f52]
   refine hide ?_;intro Q13 hQ13
   repeat' (first
    | (replace hQ13:=hQ13;simp [e1,hz,k1,e2,k2,c1,c2,hk])
    | refine hQ13 _ _ _ ?_
    | (first | refine dF (id:=3) [1,0,2,3,4,5,6,7,8] [(2,6),(4,6)] ?_ | refine dF (id:=5) [1,0,2,3,4,5,6,7,8] [(2,6),(4,6)] ?_)
    | (first | apply cF | apply wN | apply wS) <;> intro hcnd <;> (try simp only [hcnd]) <;> (try simp [-List.isEmpty_iff,-List.isEmpty_eq_false_iff] at hcnd))
   all_goals first | exact b2 | contradiction
end Go.Proofs.YtofafocfemikcaaGreat
