/- A part of a proof over the abstract machine. No conditions. -/
import Derived.Test.YtiagcnfmgigllaaGreatSeatK
import Derived.Test.YtiagcnfmgigllaaGreatAb3
import Derived.Test.YtiagcnfmgigllaaGreatAb5
import Derived.Test.YtiagcnfmgigllaaGreatSeatF
set_option linter.unusedSimpArgs false
set_option linter.unnecessarySimpa false
set_option linter.unusedVariables false
namespace Go.Proofs.YtiagcnfmgigllaaGreat
open Go Go.Ab Wm
@[simp] theorem D0i (a b:Code) (fr:Fr) (h:H) (Q:Ex→Fr→H→Prop):L3 K (.seq a b) fr h Q = L3 K a fr h (k0m K b Q):=l0B hp a b fr h Q
@[simp] theorem A0L (fr:Fr) (h:H) (Q:Ex→Fr→H→Prop):L3 K .skip fr h Q = Q .normal fr h:=k0K hp fr h Q
@[simp] theorem B0l (id:Nat) (fr:Fr) (h:H) (Q:Ex→Fr→H→Prop):L3 K (.exit id) fr h Q = Q (.exit id) fr h:=l0a hp id fr h Q
@[simp] theorem F0w (fr:Fr) (h:H) (Q:Ex→Fr→H→Prop):L3 K .ret fr h Q = Q .ret fr h:=l0A hp fr h Q
@[simp] theorem v0l (id:Nat) (l:List Oper) (fr:Fr) (h:H) (Q:Ex→Fr→H→Prop):L3 K (.region id l.toArray false) fr h Q = b0p K l l fr h Q:=h0E hp id l fr h Q
@[simp] theorem x0N (id:Nat) (b:Code) (fr:Fr) (h:H) (Q:Ex→Fr→H→Prop):L3 K (.block id b) fr h Q = L3 K b fr h (c0c id Q):=i0X hp id b fr h Q
@[simp] theorem B0s (c:Operand) (a b:Code) (fr:Fr) (h:H) (Q:Ex→Fr→H→Prop):L3 K (.cond c a b) fr h Q = g0e K a b fr h Q (evS fr c):=k0M hp c a b fr h Q
theorem dF {id:Nat} {l:List Oper} {fr:Fr} {h:H} {Q:Ex→Fr→H→Prop} (c:List Nat) (U:List (Nat × Nat)) (hq:j0e K l U c fr h [] [] Q)
  (hk:(d0P K.P l && (c0L K.P l == c) && (loose K.P l (Y2 l []) (c0L K.P l) == U) && i0T c) = true:=by kernel_rfl):L3 K (.region id l.toArray true) fr h Q:=l0E hp c U hq hk
@[simp] theorem G0P (n:Nat):List.replicate (n + 1) AV.undef = AV.undef::List.replicate n AV.undef:=rfl
end Go.Proofs.YtiagcnfmgigllaaGreat
namespace Go.Proofs.YtiagcnfmgigllaaGreat.Rw
open Go Go.Ab Wm
@[simp] theorem KP:K.P = Tryz.prog:=rfl
theorem p0 (f:Nat):K.own f = A8 S.own f:=rfl
@[simp] theorem D0i (a b:Code) (fr:Fr) (h:H) (Q:Ex→Fr→H→Prop):L3 K (.seq a b) fr h Q = L3 K a fr h (k0m K b Q):=l0B hp a b fr h Q
@[simp] theorem A0L (fr:Fr) (h:H) (Q:Ex→Fr→H→Prop):L3 K .skip fr h Q = Q .normal fr h:=k0K hp fr h Q
@[simp] theorem B0l (id:Nat) (fr:Fr) (h:H) (Q:Ex→Fr→H→Prop):L3 K (.exit id) fr h Q = Q (.exit id) fr h:=l0a hp id fr h Q
@[simp] theorem F0w (fr:Fr) (h:H) (Q:Ex→Fr→H→Prop):L3 K .ret fr h Q = Q .ret fr h:=l0A hp fr h Q
@[simp] theorem v0l (id:Nat) (l:List Oper) (fr:Fr) (h:H) (Q:Ex→Fr→H→Prop):L3 K (.region id l.toArray false) fr h Q = b0p K l l fr h Q:=h0E hp id l fr h Q
@[simp] theorem x0N (id:Nat) (b:Code) (fr:Fr) (h:H) (Q:Ex→Fr→H→Prop):L3 K (.block id b) fr h Q = L3 K b fr h (c0c id Q):=i0X hp id b fr h Q
@[simp] theorem B0s (c:Operand) (a b:Code) (fr:Fr) (h:H) (Q:Ex→Fr→H→Prop):L3 K (.cond c a b) fr h Q = g0e K a b fr h Q (evS fr c):=k0M hp c a b fr h Q
theorem dF {id:Nat} {l:List Oper} {fr:Fr} {h:H} {Q:Ex→Fr→H→Prop} (c:List Nat) (U:List (Nat × Nat)) (hq:j0e K l U c fr h [] [] Q)
  (hk:(d0P K.P l && (c0L K.P l == c) && (loose K.P l (Y2 l []) (c0L K.P l) == U) && i0T c) = true:=by kernel_rfl):L3 K (.region id l.toArray true) fr h Q:=l0E hp c U hq hk
open Go Go.Ab Wm NumPlain
set_option maxRecDepth 10000
set_option maxHeartbeats 4000000
theorem d0q (s:BL) (h:H):W K 111 [.one (.str s)] h = some (.ret (.one (.bool (J4 s))) h):=by
 have hown:A8 S.own 111 = false:=by kernel_rfl
 refine p5 hp (by simp [p7,c5]) (c6 rfl rfl (by kernel_rfl) Tryz.func111 rfl (by simp [Tryz.f111]) ?_)
 simp only [Tryz.f111]
 refine hide ?_;intro Q1 hQ1
 repeat' (first
  | (replace hQ1:=hQ1;simp [J4])
  | (refine hQ1 _ _ _ ?_;clear hQ1 Q1;first | simp only [] | simp [J4,t7,p9,p6,c5,p0,hown])
  | (first | apply cF | apply wN | apply wS) <;> intro hcnd <;> (try simp only [hcnd]) <;> (try simp [-List.isEmpty_iff,-List.isEmpty_eq_false_iff] at hcnd))
 all_goals first | done | (simp_all [-List.isEmpty_iff,-List.isEmpty_eq_false_iff,← List.isEmpty_iff];done) | (simp_all;done) | (simp_all;omega) | (simp;omega) | (intros;omega) | (intros;simp only [decide_eq_true_eq] at *;omega) | (intros;simp at *;omega) | skip
theorem b0x (B9:Int) (v_b:Option BL) (v_n:Nat) (h:H):W K 160 [.agg [ii B9,bs v_b,.flt v_n]] h = some (.ret (.one (.bool (S5 ⟨B9,v_b,v_n⟩))) h):=by
 have hown:A8 S.own 160 = false:=by kernel_rfl
 refine p5 hp (by simp [p7,c5,j9]) (c6 rfl rfl (by kernel_rfl) Tryz.func160 rfl (by simp [Tryz.f160]) ?_)
 simp only [Tryz.f160]
 refine hide ?_;intro Q2 hQ2
 repeat' (first
  | (replace hQ2:=hQ2;simp [S5])
  | (refine hQ2 _ _ _ ?_;clear hQ2 Q2;first | simp only [] | simp [S5,d0K,t7,p9,p6,c5,p0,hown])
  | (first | apply cF | apply wN | apply wS) <;> intro hcnd <;> (try simp only [hcnd]) <;> (try simp [-List.isEmpty_iff,-List.isEmpty_eq_false_iff] at hcnd))
 all_goals first | done | (simp_all [-List.isEmpty_iff,-List.isEmpty_eq_false_iff];done) | (simp_all;done) | (simp_all;omega) | (simp;omega) | (intros;omega) | (intros;simp only [decide_eq_true_eq] at *;omega) | (intros;simp at *;omega) | skip
theorem J2 {n:Nat} {l:List AS} (hl:l.length = n):sub l 0 n = some l:=by
 unfold sub;rw [if_pos (by omega),List.drop_zero,List.take_of_length_le (by omega)]
@[simp] theorem D0J:FloatKind.f64.format = Ieee.double:=rfl
theorem i0d (b:Nat):j0J .neq (D.order b b) = some (isN b):=by
 unfold isN
 by_cases h:INF < N8 b
 ·rw [m0p (.inl h)];simp [j0J,h]
 ·rw [k0D (by omega) (by omega)]
  simp [j0J,h]
theorem X6 (n:Int) (h:H):W K 109 [.one (.int .u64 n)] h = some (.ret (.one (.flt n.toNat)) h):=by rw [l0L hp rfl rfl];rfl
theorem n0p (n:Nat) (h:H):W K 155 [.one (.flt n)] h = some (.ret (.one (.int .u64 n)) h):=by rw [l0L hp rfl rfl];rfl
theorem n0A (b:Nat) (h:H):W K 253 [.one (.flt b)] h = some (.ret (.one (.bool (isN b))) h):=by
 have hown:A8 S.own 253 = false:=by kernel_rfl
 refine p5 hp (by simp [p7,c5]) (c6 rfl rfl (by kernel_rfl) Tryz.func253 rfl (by simp [Tryz.f253]) ?_)
 simp only [Tryz.f253]
 refine hide ?_;intro Q3 hQ3
 repeat' (first
  | (replace hQ3:=hQ3;simp [i0d,t7,p9,p6,c5,p0,hown])
  | refine hQ3 _ _ _ ?_)
theorem f0L (b:Nat) (h:H):W K 235 [.one (.flt b)] h = some (.ret (.one (.flt (b0y b))) h):=by
 have hown:A8 S.own 235 = false:=by kernel_rfl
 refine p5 hp (by simp [p7,c5]) (c6 rfl rfl (by kernel_rfl) Tryz.func235 rfl (by simp [Tryz.f235]) ?_)
 simp only [Tryz.f235]
 refine hide ?_;intro Q4 hQ4
 repeat' (first
  | (replace hQ4:=hQ4;simp [n0A,X6,t7,p9,p6,c5,p0,hown])
  | refine hQ4 _ _ _ ?_
  | (first | apply cF | apply wN | apply wS) <;> intro hcnd <;> (try simp only [hcnd]) <;> (try simp [-List.isEmpty_iff,-List.isEmpty_eq_false_iff] at hcnd))
 all_goals simp_all [b0y]
theorem f0N (o:Option BL) (ho:(ls o).length ≤ 1099511627776):Fun K 102 [.one (bs o)] (fun h=>.ret (.one (bs o)) h):=by
 cases o with
 | none =>
  simp only [B7]
  have hown:A8 S.own 102 = false:=by kernel_rfl
  refine ⟨by simp [p7,c5],fun hh=>c6 rfl rfl (by kernel_rfl) Tryz.func102 rfl (by simp [Tryz.f102]) ?_⟩
  simp only [Tryz.f102]
  refine hide ?_;intro Q5 hQ5
  repeat' (first
   | (replace hQ5:=hQ5;simp [bin,g0k,a0x,t7,p9,p6,c5,p0,hown])
   | refine hQ5 _ _ _ ?_)
 | some l =>
  rw [O9]
  by_cases h0:l = []
  ·subst h0
   have hown:A8 S.own 102 = false:=by kernel_rfl
   refine ⟨by simp [p7,c5,j9],fun hh=>c6 rfl rfl (by kernel_rfl) Tryz.func102 rfl (by simp [Tryz.f102]) ?_⟩
   simp only [Tryz.f102]
   refine hide ?_;intro Q6 hQ6
   repeat' (first
    | (replace hQ6:=hQ6;simp [bin,g0k,a0x,U7,K9,P5,C3,sub,L4,t7,p9,p6,p0,hown])
    | refine hQ6 _ _ _ ?_)
  ·have h1:l.length ≠ 0:=by simpa using h0
   have h3:j9 true (l.map D9) = true:=by
    clear h0 h1 ho
    induction l with
    | nil=>rfl
    | cons a l ih=>simp [j9,D9,c5] at ih ⊢;exact ih
   have h2:¬ (17592186044416 < l.length + 600 + l.length):=by simp at ho;omega
   have ht:(l.map D9).take l.length = l.map D9:=List.take_of_length_le (by simp)
   have h4:j9 false (l.map D9) = true:=by have:=f0k (some l);rw [O9] at this;simpa [c5] using this
   have h5:(l.map D9).mapM (p6 true ((H.empty.new ⟨0,[0],true,[]⟩).new ⟨0,[l.length],false,l.map D9⟩) 63) = some (l.map D9):=b0s (n:=62) (by assumption)
   have hown:A8 S.own 102 = false:=by kernel_rfl
   refine ⟨by simp [p7,h4,c5],fun hh=>c6 rfl rfl (by kernel_rfl) Tryz.func102 rfl (by simp [Tryz.f102]) ?_⟩
   simp only [Tryz.f102]
   refine hide ?_;intro Q7 hQ7
   repeat' (first
    | (replace hQ7:=hQ7;simp [bin,g0k,a0x,U7,K9,P5,C3,sub,L4,h0,h2,h5,ht,t7,p9,p6,p0,hown])
    | refine hQ7 _ _ _ ?_)
   all_goals trace_state
theorem z0e (o:Option BL) (ho:(ls o).length ≤ 1099511627776) (h:H):W K 102 [.one (bs o)] h = some (.ret (.one (bs o)) h):=(f0N o ho).pure hp h
theorem g0i (B9:Int) (v_b:Option BL) (v_n:Nat) (hb:B9 = 1→(ls v_b).length ≤ 1099511627776) (h:H):W K 206 [.agg [ii B9,bs v_b,.flt v_n]] h = some (.ret (.agg (W0 (N4 ⟨B9,v_b,v_n⟩))) h):=by
 by_cases h1:B9 = 1
 ·have hc:=z0e v_b (hb h1)
  subst h1
  have hown:A8 S.own 206 = false:=by kernel_rfl
  refine p5 hp (by simp [p7,c5,j9]) (c6 rfl rfl (by kernel_rfl) Tryz.func206 rfl (by simp [Tryz.f206]) ?_)
  simp only [Tryz.f206]
  refine hide ?_;intro Q8 hQ8
  repeat' (first
   | (replace hQ8:=hQ8;simp [hc])
   | (refine hQ8 _ _ _ ?_;clear hQ8 Q8;first | simp only [] | simp [N4,W0,t7,p9,p6,s7,c5,p0,hown]))
  all_goals first | done | (simp_all [-List.isEmpty_iff,-List.isEmpty_eq_false_iff,← List.isEmpty_iff];done) | (simp_all;done) | (simp_all;omega) | (simp;omega) | (intros;omega) | (intros;simp only [decide_eq_true_eq] at *;omega) | (intros;simp at *;omega) | skip
 ·by_cases h2:B9 = 2
  ·subst h2
   have hown:A8 S.own 206 = false:=by kernel_rfl
   refine p5 hp (by simp [p7,c5,j9]) (c6 rfl rfl (by kernel_rfl) Tryz.func206 rfl (by simp [Tryz.f206]) ?_)
   simp only [Tryz.f206]
   refine hide ?_;intro Q9 hQ9
   repeat' (first
    | (replace hQ9:=hQ9;simp [f0L])
    | (refine hQ9 _ _ _ ?_;clear hQ9 Q9;first | simp only [] | simp [N4,W0,B7,t7,p9,p6,c5,p0,hown]))
   all_goals first | done | (simp_all [-List.isEmpty_iff,-List.isEmpty_eq_false_iff,← List.isEmpty_iff];done) | (simp_all;done) | (simp_all;omega) | (simp;omega) | (intros;omega) | (intros;simp only [decide_eq_true_eq] at *;omega) | (intros;simp at *;omega) | skip
  ·have e1:N4 ⟨B9,v_b,v_n⟩ = ⟨0,none,0⟩:=by simp [N4,h1,h2]
   have b1:(B9 == 1) = false:=by simp [h1]
   have b2:(B9 == 2) = false:=by simp [h2]
   rw [e1]
   have hown:A8 S.own 206 = false:=by kernel_rfl
   refine p5 hp (by simp [p7,c5,j9]) (c6 rfl rfl (by kernel_rfl) Tryz.func206 rfl (by simp [Tryz.f206]) ?_)
   simp only [Tryz.f206]
   refine hide ?_;intro Q10 hQ10
   repeat' (first
    | (replace hQ10:=hQ10;simp [b1,b2])
    | (refine hQ10 _ _ _ ?_;clear hQ10 Q10;first | simp only [] | simp [W0,B7,t7,p9,p6,c5,p0,hown]))
   all_goals first | done | (simp_all [-List.isEmpty_iff,-List.isEmpty_eq_false_iff,← List.isEmpty_iff];done) | (simp_all;done) | (simp_all;omega) | (simp;omega) | (intros;omega) | (intros;simp only [decide_eq_true_eq] at *;omega) | (intros;simp at *;omega) | skip
theorem j0r {α:Type} {p:α→Bool} {a:List α} {x:α} {r:List α} (h:p x = false):(a++x::r).all p = false:=by simp [h]
theorem v0s (c:Column):Fun K 213 [.agg (d9 c)] (fun h=>.ret (.one (.bool (a0w c))) h):=by
 obtain ⟨n,o⟩:=c
 have hn:=d0q n
 simp only [d9]
 have hd:∀ (a b:Nat),decide ((a:Int) < b) = decide (a < b):=fun a b=>by rw [decide_eq_decide];omega
 by_cases h1:J4 n = true
 ·by_cases h2:1 ≤ (ls o).length
  ·by_cases h3:(ls o).length ≤ 2
   ·have b1:decide (((ls o).length:Int) < 1) = false:=by simp;omega
    have b2:decide (2 < ((ls o).length:Int)) = false:=by simp;omega
    rw [h1] at hn
    have hB:a0w ⟨n,o⟩ = ((ls o).all b0l && I1 c0M (ls o)):=by simp [a0w,h1,h2,h3]
    rw [hB]
    obtain ⟨R,hR⟩:∃ R,((ls o).all b0l && I1 c0M (ls o)) = R:=⟨_,rfl⟩
    rw [hR]
    have hown:A8 S.own 213 = false:=by kernel_rfl
    refine ⟨by simp [p7,c5,j9],fun hh=>c6 rfl rfl (by kernel_rfl) Tryz.func213 rfl (by simp [Tryz.f213]) ?_⟩
    simp only [Tryz.f213]
    refine hide ?_;intro Q1 hQ1
    repeat' (first
     | (replace hQ1:=hQ1;simp [hn,b1,b2])
     | refine hQ1 _ _ _ ?_
     | refine dF (id:=6) [0,1,2,3,4,5,6,7,8,9,10,11,12,13,14,15,16,17,18,19,20,21,22,23,24,25,26,27,28,29] [] ?_
     | (first | apply cF | apply wN | apply wS) <;> intro hcnd <;> (try simp only [hcnd]) <;> (try simp [-List.isEmpty_iff,-List.isEmpty_eq_false_iff] at hcnd))
    refine F5 hp (ls o) (fun a r fr hh=>(0 < hh.next∧hh.f 0 = some ⟨0,[2],true,[.str n,sl 4 c9 o]⟩∧a.all b0l = true∧I1 c0M a = true)∧∃ j:Nat→AV,fr = (j 0::(.one (.ptr 0 0 0))::(.one (.bool false))::j 3::j 4::j 5::j 6::j 7::j 8::j 9::j 10::j 11::j 12::j 13::j 14::j 15::j 16::j 17::j 18::j 19::j 20::j 21::(.one (sl 4 c9 o))::(.one (ii (ls o).length))::(.one (ii a.length))::j 25::j 26::j 27::j 28::j 29::j 30::j 31::j 32::j 33::j 34::j 35::j 36::j 37::j 38::j 39::j 40::j 41::j 42::j 43::j 44::j 45::j 46::j 47::j 48::j 49::j 50::j 51::j 52::j 53::j 54::j 55::j 56::j 57::j 58::j 59::[])) ?_ ?_ _ _ ⟨⟨by simp,by simp,rfl,rfl⟩,s9 rfl⟩
    ·rintro a x r fr hh hl ⟨⟨i1,i2,i3,i4⟩,j,rfl⟩
     obtain rfl:=S7 hl
     have hi:=J8 (P:=Tryz.prog) (enc:=c9) (s:=4) (l:=a++x::r) (i:=a.length) Tryz.underlying89 (by simp) (by omega) (by simp)
     have hr:=I4 (enc:=c9) (s:=4) C9 a x r (o:=0) (n:=4) (by omega)
     have hlt:decide ((a.length:Int) < ((a++x::r).length:Nat)) = true:=by simp;omega
     have hw:IntKind.i64.wrap ((a.length:Int) + 1) = ((a++[x]).length:Int):=by rw [M9];exact F0 (by simp at h3;omega)
     have hne:¬ 0 = hh.next:=by omega
     have hv:=fun h=>b0x x.v.kind x.v.b x.v.n h
     have hne2:¬ hh.next = 0:=by omega
     simp only [Nat.add_zero] at hr
     have hrx:sub (c9 x) 0 4 = some (c9 x):=J2 (C9 x)
     rw [hrx] at hr
     obtain ⟨xt,⟨xk,xb,xn⟩⟩:=x
     simp only [c9] at *
     by_cases t1:xt < 0
     ·have c1:decide (xt < 0) = true:=by simp [t1]
      have hB:((ls (some (a++⟨xt,⟨xk,xb,xn⟩⟩::r))).all b0l && I1 c0M (ls (some (a++⟨xt,⟨xk,xb,xn⟩⟩::r)))) = false:=by rw [I6,j0r (by simp [b0l,t1])];rfl
      rw [hB] at hR;subst hR
      first | (refine hide ?_;intro Q2 hQ2) | have hQ2:=True.intro
      repeat' (first
       | (replace hQ2:=hQ2;simp [hi,hr,t1])
       | (refine hQ2 _ _ _ ?_;clear hQ2 Q2;first | simp only [] | simp [i2] | skip)
       | (refine D3 (by assumption) ?_;(try clear hQ2);first | simp only [] | simp [t7,p9,p6,c5,p0,hown] | skip)
       | ((fail_if_success replace hQ2:=hQ2);(first | refine hide ?_ | refine u6 ?_ | refine u7 ?_);intro Q2 hQ2)
       | refine dF (id:=6) [0,1,2,3,4,5,6,7,8,9,10,11,12,13,14,15,16,17,18,19,20,21,22,23,24,25,26,27,28,29] [] ?_
       | (first | apply cF | apply wN | apply wS) <;> intro hcnd <;> (try simp only [hcnd]) <;> (try simp [-List.isEmpty_iff,-List.isEmpty_eq_false_iff] at hcnd))
      all_goals omega
     ·have c1:decide (xt < 0) = false:=by simp [t1]
      by_cases t2:1099511627776 < xt
      ·have c2:decide (1099511627776 < xt) = true:=by simp [t2]
       have hB:((ls (some (a++⟨xt,⟨xk,xb,xn⟩⟩::r))).all b0l && I1 c0M (ls (some (a++⟨xt,⟨xk,xb,xn⟩⟩::r)))) = false:=by rw [I6,j0r (by simp [b0l,t2])];rfl
       rw [hB] at hR;subst hR
       first | (refine hide ?_;intro Q3 hQ3) | have hQ3:=True.intro
       repeat' (first
        | (replace hQ3:=hQ3;simp [hi,hr,t1,t2])
        | (refine hQ3 _ _ _ ?_;clear hQ3 Q3;first | simp only [] | simp [i2] | skip)
        | (refine D3 (by assumption) ?_;(try clear hQ3);first | simp only [] | simp [t7,p9,p6,c5,p0,hown] | skip)
        | ((fail_if_success replace hQ3:=hQ3);(first | refine hide ?_ | refine u6 ?_ | refine u7 ?_);intro Q3 hQ3)
        | refine dF (id:=6) [0,1,2,3,4,5,6,7,8,9,10,11,12,13,14,15,16,17,18,19,20,21,22,23,24,25,26,27,28,29] [] ?_
        | (first | apply cF | apply wN | apply wS) <;> intro hcnd <;> (try simp only [hcnd]) <;> (try simp [-List.isEmpty_iff,-List.isEmpty_eq_false_iff] at hcnd))
       all_goals omega
      ·have c2:decide (1099511627776 < xt) = false:=by simp [t2]
       cases t3:S5 ⟨xk,xb,xn⟩ with
       | false =>
        have hB:((ls (some (a++⟨xt,⟨xk,xb,xn⟩⟩::r))).all b0l && I1 c0M (ls (some (a++⟨xt,⟨xk,xb,xn⟩⟩::r)))) = false:=by rw [I6,j0r (by simp [b0l,t3])];rfl
        rw [hB] at hR;subst hR
        rw [t3] at hv
        first | (refine hide ?_;intro Q4 hQ4) | have hQ4:=True.intro
        repeat' (first
         | (replace hQ4:=hQ4;simp [hi,hr,t1,t2,hv])
         | (refine hQ4 _ _ _ ?_;clear hQ4 Q4;first | simp only [] | simp [i2] | skip)
         | (refine D3 (by assumption) ?_;(try clear hQ4);first | simp only [] | simp [t7,p9,p6,c5,p0,hown] | skip)
         | ((fail_if_success replace hQ4:=hQ4);(first | refine hide ?_ | refine u6 ?_ | refine u7 ?_);intro Q4 hQ4)
         | refine dF (id:=6) [0,1,2,3,4,5,6,7,8,9,10,11,12,13,14,15,16,17,18,19,20,21,22,23,24,25,26,27,28,29] [] ?_
         | (first | apply cF | apply wN | apply wS) <;> intro hcnd <;> (try simp only [hcnd]) <;> (try simp [-List.isEmpty_iff,-List.isEmpty_eq_false_iff] at hcnd))
        all_goals omega
       | true =>
        rw [t3] at hv
        have hvx:b0l ⟨xt,⟨xk,xb,xn⟩⟩ = true:=by simp [b0l,t1,t2,t3]
        rcases g0M a with rfl | ⟨a',⟨yt,yv⟩,rfl⟩
        ·simp only [List.nil_append,List.length_nil,Nat.zero_mul] at hi hr
         have hw1:IntKind.i64.wrap 1 = 1:=rfl
         first | (refine hide ?_;intro Q5 hQ5) | have hQ5:=True.intro
         repeat' (first
          | (replace hQ5:=hQ5;simp [hi,hr,t1,t2,hv,hw1])
          | (refine hQ5 _ _ _ ?_;clear hQ5 Q5;first | simp only [] | simp [i2,hi,hr,hlt,hne,hne2,c1,t1,c2,t2,hv,hw1,t7,p9,p6,s7,J3,c5,j9,p0,hown] | skip)
          | (refine D3 (by assumption) ?_;(try clear hQ5);first | simp only [] | simp [i2,hi,hr,hlt,hne,hne2,c1,t1,c2,t2,hv,hw1,t7,p9,p6,s7,J3,c5,j9,p0,hown] | skip)
          | ((fail_if_success replace hQ5:=hQ5);(first | refine hide ?_ | refine u6 ?_ | refine u7 ?_);intro Q5 hQ5)
          | refine dF (id:=6) [0,1,2,3,4,5,6,7,8,9,10,11,12,13,14,15,16,17,18,19,20,21,22,23,24,25,26,27,28,29] [] ?_
          | (first | apply cF | apply wN | apply wS) <;> intro hcnd <;> (try simp only [hcnd]) <;> (try simp [-List.isEmpty_iff,-List.isEmpty_eq_false_iff] at hcnd))
         all_goals first | (refine ⟨⟨by simp,by simp [hne,i2],by simp [hvx],rfl⟩,s9 (by simp)⟩) | omega | rfl | trace_state
        ·have hi2:=J8 (P:=Tryz.prog) (enc:=c9) (s:=4) (l:=(a'++[⟨yt,yv⟩])++⟨xt,⟨xk,xb,xn⟩⟩::r) (i:=a'.length) Tryz.underlying89 (by simp) (by omega) (by simp)
         have hr2:=I4 (enc:=c9) (s:=4) C9 a' ⟨yt,yv⟩ (⟨xt,⟨xk,xb,xn⟩⟩::r) (o:=0) (n:=1) (by omega)
         have hs2:sub (c9 ⟨yt,yv⟩) 0 1 = some [ii yt]:=rfl
         rw [hs2] at hr2
         have hgt:decide ((0:Int) < (((a'++[(⟨yt,yv⟩:Version)]).length:Nat):Int)) = true:=by simp
         have hN:(a'++[(⟨yt,yv⟩:Version)]).length = a'.length + 1:=by simp
         have hsb:IntKind.i64.wrap ((((a'++[⟨yt,yv⟩]:List Version).length:Nat):Int) - 1) = (a'.length:Int):=by rw [wrap_i64 (by simp) (by simp;simp at h3;omega)];simp
         have ha:a'++[(⟨yt,yv⟩:Version)]++(⟨xt,⟨xk,xb,xn⟩⟩:Version)::r = a'++⟨yt,yv⟩::⟨xt,⟨xk,xb,xn⟩⟩::r:=by simp
         rw [← ha,Nat.add_zero] at hr2
         by_cases t4:yt ≤ xt
         ·have c4:decide (yt ≤ xt) = true:=by simp [t4]
          have hB:((ls (some (a'++[⟨yt,yv⟩]++⟨xt,⟨xk,xb,xn⟩⟩::r))).all b0l && I1 c0M (ls (some (a'++[⟨yt,yv⟩]++⟨xt,⟨xk,xb,xn⟩⟩::r)))) = false:=by rw [I6,ha,l0y (by simp [c0M,t4])];simp
          rw [hB] at hR;subst hR
          generalize (a'++[(⟨yt,yv⟩:Version)]++(⟨xt,⟨xk,xb,xn⟩⟩:Version)::r) = L at *
          generalize (a'++[(⟨yt,yv⟩:Version)]).length = N at *
          have hg2:0 < N:=by omega
          have hg3:N < L.length:=by simpa using hlt
          first | (refine hide ?_;intro Q6 hQ6) | have hQ6:=True.intro
          repeat' (first
           | (replace hQ6:=hQ6;simp [i2,hi,hr,hne,t1,t2,hv,hsb,hi2,hr2,t4,hg2,hg3])
           | (refine hQ6 _ _ _ ?_;clear hQ6 Q6;first | simp only [] | simp [i2] | skip)
           | (refine D3 (by assumption) ?_;(try clear hQ6);first | simp only [] | simp [t7,p9,p6,c5,p0,hown] | skip)
           | ((fail_if_success replace hQ6:=hQ6);(first | refine hide ?_ | refine u6 ?_ | refine u7 ?_);intro Q6 hQ6)
           | refine dF (id:=6) [0,1,2,3,4,5,6,7,8,9,10,11,12,13,14,15,16,17,18,19,20,21,22,23,24,25,26,27,28,29] [] ?_
           | (first | apply cF | apply wN | apply wS) <;> intro hcnd <;> (try simp only [hcnd]) <;> (try simp [-List.isEmpty_iff,-List.isEmpty_eq_false_iff] at hcnd))
          all_goals omega
         ·have c4:decide (yt ≤ xt) = false:=by simp [t4]
          have hch:I1 c0M (a'++[⟨yt,yv⟩]++[⟨xt,⟨xk,xb,xn⟩⟩]) = true:=by rw [List.append_assoc,List.singleton_append,k0A,i4];simp [c0M,t4]
          have hal:(a'++[⟨yt,yv⟩]++[⟨xt,⟨xk,xb,xn⟩⟩]:List Version).all b0l = true:=by rw [List.all_append,i3];simp [hvx]
          generalize (a'++[(⟨yt,yv⟩:Version)]++(⟨xt,⟨xk,xb,xn⟩⟩:Version)::r) = L at *
          generalize (a'++[(⟨yt,yv⟩:Version)]++[⟨xt,⟨xk,xb,xn⟩⟩]) = A2 at *
          generalize (a'++[(⟨yt,yv⟩:Version)]).length = N at *
          have hg2:0 < N:=by omega
          have hg3:N < L.length:=by simpa using hlt
          first | (refine hide ?_;intro Q7 hQ7) | have hQ7:=True.intro
          repeat' (first
           | (replace hQ7:=hQ7;simp [i2,hi,hr,hne,t1,t2,hv,hsb,hi2,hr2,t4,hw,hg2,hg3])
           | (refine hQ7 _ _ _ ?_;clear hQ7 Q7;first | simp only [] | simp [i2,hi,hr,hlt,hne,hne2,c1,t1,c2,t2,hv,hgt,hsb,hi2,hr2,c4,t4,hw,hg2,hg3,t7,p9,p6,s7,J3,c5,j9,p0,hown] | skip)
           | (refine D3 (by assumption) ?_;(try clear hQ7);first | simp only [] | simp [i2,hi,hr,hlt,hne,hne2,c1,t1,c2,t2,hv,hgt,hsb,hi2,hr2,c4,t4,hw,hg2,hg3,t7,p9,p6,s7,J3,c5,j9,p0,hown] | skip)
           | ((fail_if_success replace hQ7:=hQ7);(first | refine hide ?_ | refine u6 ?_ | refine u7 ?_);intro Q7 hQ7)
           | refine dF (id:=6) [0,1,2,3,4,5,6,7,8,9,10,11,12,13,14,15,16,17,18,19,20,21,22,23,24,25,26,27,28,29] [] ?_
           | (first | apply cF | apply wN | apply wS) <;> intro hcnd <;> (try simp only [hcnd]) <;> (try simp [-List.isEmpty_iff,-List.isEmpty_eq_false_iff] at hcnd))
          all_goals first | (refine ⟨⟨by simp,by simp [hne,i2],hal,hch⟩,s9 (by simp)⟩) | omega | trace_state
    ·rintro fr hh ⟨⟨i1,i2,i3,i4⟩,j,rfl⟩
     rw [i3,i4] at hR;subst hR
     first | (refine hide ?_;intro Q8 hQ8) | have hQ8:=True.intro
     repeat' (first
      | (replace hQ8:=hQ8;simp [t7])
      | (refine hQ8 _ _ _ ?_;clear hQ8 Q8;first | simp only [] | simp [t7,p9,p6,s7,J3,c5,j9,p0,hown] | skip)
      | (refine D3 (by assumption) ?_;(try clear hQ8);first | simp only [] | simp [t7,p9,p6,c5,p0,hown] | skip)
      | ((fail_if_success replace hQ8:=hQ8);(first | refine hide ?_ | refine u6 ?_ | refine u7 ?_);intro Q8 hQ8)
      | refine dF (id:=6) [0,1,2,3,4,5,6,7,8,9,10,11,12,13,14,15,16,17,18,19,20,21,22,23,24,25,26,27,28,29] [] ?_
      | (first | apply cF | apply wN | apply wS) <;> intro hcnd <;> (try simp only [hcnd]) <;> (try simp [-List.isEmpty_iff,-List.isEmpty_eq_false_iff] at hcnd))
     all_goals first | done | (simp_all [-List.isEmpty_iff,-List.isEmpty_eq_false_iff,← List.isEmpty_iff];done) | (simp_all;done) | (simp_all;omega) | (simp;omega) | (intros;omega) | (intros;simp only [decide_eq_true_eq] at *;omega) | (intros;simp at *;omega) | skip
   ·have b1:decide (((ls o).length:Int) < 1) = false:=by simp;omega
    have b2:decide (2 < ((ls o).length:Int)) = true:=by simp;omega
    rw [h1] at hn
    have hB:a0w ⟨n,o⟩ = false:=by simp [a0w,h1,h2,h3]
    rw [hB]
    have hown:A8 S.own 213 = false:=by kernel_rfl
    refine ⟨by simp [p7,c5,j9],fun hh=>c6 rfl rfl (by kernel_rfl) Tryz.func213 rfl (by simp [Tryz.f213]) ?_⟩
    simp only [Tryz.f213]
    refine hide ?_;intro Q9 hQ9
    repeat' (first
     | (replace hQ9:=hQ9;simp [hn,b1,b2,t7,p9,p6,c5,p0,hown])
     | refine hQ9 _ _ _ ?_
     | refine dF (id:=6) [0,1,2,3,4,5,6,7,8,9,10,11,12,13,14,15,16,17,18,19,20,21,22,23,24,25,26,27,28,29] [] ?_
     | (first | apply cF | apply wN | apply wS) <;> intro hcnd <;> (try simp only [hcnd]) <;> (try simp [-List.isEmpty_iff,-List.isEmpty_eq_false_iff] at hcnd))
  ·have b1:decide (((ls o).length:Int) < 1) = true:=by simp;omega
   rw [h1] at hn
   have hB:a0w ⟨n,o⟩ = false:=by simp [a0w,h1,h2]
   rw [hB]
   have hown:A8 S.own 213 = false:=by kernel_rfl
   refine ⟨by simp [p7,c5,j9],fun hh=>c6 rfl rfl (by kernel_rfl) Tryz.func213 rfl (by simp [Tryz.f213]) ?_⟩
   simp only [Tryz.f213]
   refine hide ?_;intro Q10 hQ10
   repeat' (first
    | (replace hQ10:=hQ10;simp [hn,b1,t7,p9,p6,c5,p0,hown])
    | refine hQ10 _ _ _ ?_
    | refine dF (id:=6) [0,1,2,3,4,5,6,7,8,9,10,11,12,13,14,15,16,17,18,19,20,21,22,23,24,25,26,27,28,29] [] ?_
    | (first | apply cF | apply wN | apply wS) <;> intro hcnd <;> (try simp only [hcnd]) <;> (try simp [-List.isEmpty_iff,-List.isEmpty_eq_false_iff] at hcnd))
 ·have h1':J4 n = false:=by simpa using h1
  rw [h1'] at hn
  have hB:a0w ⟨n,o⟩ = false:=by simp [a0w,h1']
  rw [hB]
  have hown:A8 S.own 213 = false:=by kernel_rfl
  refine ⟨by simp [p7,c5,j9],fun hh=>c6 rfl rfl (by kernel_rfl) Tryz.func213 rfl (by simp [Tryz.f213]) ?_⟩
  simp only [Tryz.f213]
  refine hide ?_;intro Q11 hQ11
  repeat' (first
   | (replace hQ11:=hQ11;simp [hn,t7,p9,p6,c5,p0,hown])
   | refine hQ11 _ _ _ ?_
   | refine dF (id:=6) [0,1,2,3,4,5,6,7,8,9,10,11,12,13,14,15,16,17,18,19,20,21,22,23,24,25,26,27,28,29] [] ?_
   | (first | apply cF | apply wN | apply wS) <;> intro hcnd <;> (try simp only [hcnd]) <;> (try simp [-List.isEmpty_iff,-List.isEmpty_eq_false_iff] at hcnd))
def SeesL (h:H):List RC→List Column→Prop
 | [],[]=>True
 | r::rs,c::cs=>(r.1 = c.name∧Sees h 4 r.2 (cat c9 (ls c.l))∧∀ b,u4 r.2 = some b→b < h.next)∧SeesL h rs cs
 | _,_=>False
structure RowSees (h:H) (s:AS) (rs:List RC) (o:Row):Prop where
 arr:Sees h 2 s (cat b0b rs)
 lt:∀ b,u4 s = some b→b < h.next
 col:SeesL h rs (ls o)
 view:∀ h',h.next ≤ h'.next→(∀ b,b < h.next→h'.f b = h.f b)→K4 h' 64 s = some (sl 2 d9 o)
theorem SeesL.len {h:H}:∀ {rs:List RC} {cs:List Column},SeesL h rs cs→rs.length = cs.length
 | [],[],_=>rfl
 | r::rs,c::cs,a=>by simp [SeesL.len a.2]
theorem SeesL.at {h:H} {rs:List RC} {cs:List Column} (a:SeesL h rs cs) (i:Nat) (hi:i < rs.length) (hi':i < cs.length):rs[i].1 = cs[i].name∧Sees h 4 rs[i].2 (cat c9 (ls cs[i].l))∧∀ b,u4 rs[i].2 = some b→b < h.next:=by
 induction rs generalizing cs i with
 | nil=>simp at hi
 | cons r rs ih =>
  cases cs with
  | nil=>exact a.elim
  | cons c cs =>
   cases i with
   | zero=>exact a.1
   | succ i=>exact ih a.2 i (by simpa using hi) (by simpa using hi')
theorem l0W (h:H):∀ cs:List Column,SeesL h (cs.map fun c=>(c.name,sl 4 c9 c.l)) cs
 | []=>trivial
 | c::cs=>⟨⟨rfl,h0i C9 h c.l,fun b hb=>by cases hc:c.l <;> simp [hc,sl,u4] at hb⟩,l0W h cs⟩
theorem o0R:∀ cs:List Column,cat b0b (cs.map fun c=>(c.name,sl 4 c9 c.l)) = cat d9 cs
 | []=>rfl
 | c::cs=>by rw [List.map_cons,V0,V0,o0R cs];rfl
theorem u0W (h:H) (o:Row):K4 h 64 (sl 2 d9 o) = some (sl 2 d9 o):=c0w (by simp) (by cases o <;> simp [sl]) (by cases o <;> simp [sl])
theorem row_sees (h:H) (o:Row):RowSees h (sl 2 d9 o) ((ls o).map fun c=>(c.name,sl 4 c9 c.l)) o where
 arr:=by rw [o0R];exact h0i O8 h o
 lt:=fun b hb=>by cases o <;> simp [sl,u4] at hb
 col:=l0W h _
 view:=fun h' _ _=>u0W h' o
theorem l0V {h:H} {lo:Nat}:∀ {rs:List RC} {cs:List Column},NestL h lo rs cs→SeesL h rs cs
 | [],[],_=>trivial
 | r::rs,c::cs,a=>⟨⟨a.1.1,a.1.2.1.sees C9,fun b hb=>(a.1.2.2.2 b hb).2⟩,l0V a.2⟩
theorem RowAt.sees {h:H} {lo:Nat} {s:AS} {rs:List RC} {o:Row} (a:RowAt h lo s rs o):RowSees h s rs o where
 arr:=a.arr.sees c0V
 lt:=fun b hb=>a.arr.lt hb
 col:=l0V a.col
 view:=fun h' hn hf=>(a.keep hn fun b hb _=>hf b hb).view 61
theorem right_g (o:Row) (ho:(ls o).length < 1000000):Fun K 172 [.agg [sl 2 d9 o]] (fun h=>.ret (.one (.bool (S1 o))) h):=by
 have hd:∀ x h,W K 213 [.agg (d9 x)] h = some (.ret (.one (.bool (a0w x))) h):=fun x h=>(v0s x).pure hp h
 have hB:S1 o = ((ls o).all a0w && I1 d0M (ls o) && decide ((ls o).length ≤ 4)):=rfl
 obtain ⟨R,hR⟩:∃ R,S1 o = R:=⟨_,rfl⟩
 rw [hR]
 have hown:A8 S.own 172 = false:=by kernel_rfl
 refine ⟨by simp [p7,j9],fun hh=>c6 rfl rfl (by kernel_rfl) Tryz.func172 rfl (by simp [Tryz.f172]) ?_⟩
 simp only [Tryz.f172]
 refine hide ?_;intro Q1 hQ1
 repeat' (first
  | (replace hQ1:=hQ1;simp [t7])
  | refine hQ1 _ _ _ ?_
  | refine dF (id:=4) [0,1,2,3,4,5,6,7,8,9,10,11,12,13,14,15,16,17,18] [] ?_)
 refine F5 hp (ls o) (fun a r fr hh=>(0 < hh.next∧hh.f 0 = some ⟨0,[1],true,[sl 2 d9 o]⟩∧a.all a0w = true∧I1 d0M a = true)∧∃ j:Nat→AV,fr = (j 0::(.one (.ptr 0 0 0))::(.one (.bool false))::j 3::j 4::j 5::(.one (sl 2 d9 o))::(.one (ii (ls o).length))::(.one (ii a.length))::j 9::j 10::j 11::j 12::j 13::j 14::j 15::j 16::j 17::j 18::j 19::j 20::j 21::j 22::j 23::j 24::j 25::j 26::j 27::j 28::j 29::j 30::j 31::j 32::j 33::j 34::j 35::j 36::[])) ?_ ?_ _ _ ⟨⟨by simp,by simp,rfl,rfl⟩,s9 rfl⟩
 ·rintro a x r fr hh hl ⟨⟨i1,i2,i3,i4⟩,j,rfl⟩
  obtain rfl:=S7 hl
  have hi:=J8 (P:=Tryz.prog) (enc:=d9) (s:=2) (l:=a++x::r) (i:=a.length) Tryz.underlying79 (by simp) (by omega) (by simp)
  have hr:=I4 (enc:=d9) (s:=2) O8 a x r (o:=0) (n:=2) (by omega)
  have hlt:decide ((a.length:Int) < ((a++x::r).length:Nat)) = true:=by simp;omega
  have hw:IntKind.i64.wrap ((a.length:Int) + 1) = ((a++[x]).length:Int):=by rw [M9];exact F0 (by simp at ho;omega)
  have hne:¬ 0 = hh.next:=by omega
  have hne2:¬ hh.next = 0:=by omega
  have hx:=hd x
  simp only [Nat.add_zero] at hr
  have hrx:sub (d9 x) 0 2 = some (d9 x):=J2 (O8 x)
  rw [hrx] at hr
  obtain ⟨xn,xl⟩:=x
  have hlt2:a.length < (a++(⟨xn,xl⟩:Column)::r).length:=by simp
  simp only [d9] at *
  cases hv:a0w ⟨xn,xl⟩ with
  | false =>
   have hB:S1 (some (a++⟨xn,xl⟩::r)) = false:=by rw [hB,I6,j0r hv];rfl
   rw [hB] at hR;subst hR
   rw [hv] at hx
   generalize (a++(⟨xn,xl⟩:Column)::r) = L at *
   first | (refine hide ?_;intro Q2 hQ2) | have hQ2:=True.intro
   repeat' (first
    | (replace hQ2:=hQ2;simp [hi,hr,hlt2,hx])
    | (refine hQ2 _ _ _ ?_;clear hQ2 Q2;first | simp only [] | simp [i2] | skip)
    | (refine D3 (by assumption) ?_;(try clear hQ2);first | simp only [] | simp [t7,p9,p6,c5,p0,hown] | skip)
    | ((fail_if_success replace hQ2:=hQ2);(first | refine hide ?_ | refine u6 ?_ | refine u7 ?_);intro Q2 hQ2)
    | refine dF (id:=4) [0,1,2,3,4,5,6,7,8,9,10,11,12,13,14,15,16,17,18] [] ?_)
  | true =>
   rw [hv] at hx
   rcases g0M a with rfl | ⟨a',⟨yn,yl⟩,rfl⟩
   ·simp only [List.nil_append,List.length_nil,Nat.zero_mul] at hi hr hlt2
    have hw1:IntKind.i64.wrap 1 = 1:=rfl
    generalize hL:((⟨xn,xl⟩:Column)::r) = L at *
    first | (refine hide ?_;intro Q3 hQ3) | have hQ3:=True.intro
    repeat' (first
     | (replace hQ3:=hQ3;simp [hi,hr,hlt2,hx,hw1])
     | (refine hQ3 _ _ _ ?_;clear hQ3 Q3;first | simp only [] | simp [i2,hi,hr,hlt2,hne,hne2,hx,hw1,t7,p9,p6,s7,J3,c5,j9,p0,hown] | skip)
     | (refine D3 (by assumption) ?_;(try clear hQ3);first | simp only [] | simp [i2,hi,hr,hlt2,hne,hne2,hx,hw1,t7,p9,p6,s7,J3,c5,j9,p0,hown] | skip)
     | ((fail_if_success replace hQ3:=hQ3);(first | refine hide ?_ | refine u6 ?_ | refine u7 ?_);intro Q3 hQ3)
     | refine dF (id:=4) [0,1,2,3,4,5,6,7,8,9,10,11,12,13,14,15,16,17,18] [] ?_)
    all_goals first | (refine ⟨⟨by simp,by simp [hne,i2],by simp [hv],rfl⟩,s9 (by simp)⟩) | trace_state
   ·have hi2:=J8 (P:=Tryz.prog) (enc:=d9) (s:=2) (l:=(a'++[⟨yn,yl⟩])++⟨xn,xl⟩::r) (i:=a'.length) Tryz.underlying79 (by simp) (by omega) (by simp)
    have hr2:=I4 (enc:=d9) (s:=2) O8 a' ⟨yn,yl⟩ (⟨xn,xl⟩::r) (o:=0) (n:=1) (by omega)
    have hs2:sub (d9 ⟨yn,yl⟩) 0 1 = some [.str yn]:=rfl
    rw [hs2] at hr2
    have hN:(a'++[(⟨yn,yl⟩:Column)]).length = a'.length + 1:=by simp
    have hsb:IntKind.i64.wrap ((((a'++[⟨yn,yl⟩]:List Column).length:Nat):Int) - 1) = (a'.length:Int):=by rw [wrap_i64 (by simp) (by simp;simp at ho;omega)];simp
    have ha:a'++[(⟨yn,yl⟩:Column)]++(⟨xn,xl⟩:Column)::r = a'++⟨yn,yl⟩::⟨xn,xl⟩::r:=by simp
    rw [← ha,Nat.add_zero] at hr2
    have hch:I1 d0M (a'++[⟨yn,yl⟩]++[⟨xn,xl⟩]) = (I1 d0M (a'++[⟨yn,yl⟩]) && blt yn xn):=by rw [List.append_assoc,List.singleton_append,k0A];rfl
    have hal:(a'++[⟨yn,yl⟩]++[⟨xn,xl⟩]:List Column).all a0w = true:=by rw [List.all_append,i3];simp [hv]
    cases hy:Op.bytesLess yn xn with
    | false =>
     have hB:S1 (some (a'++[⟨yn,yl⟩]++⟨xn,xl⟩::r)) = false:=by rw [hB,I6,ha,l0y (show d0M ⟨yn,yl⟩ ⟨xn,xl⟩ = false from hy)];simp
     rw [hB] at hR;subst hR
     generalize (a'++[(⟨yn,yl⟩:Column)]++(⟨xn,xl⟩:Column)::r) = L at *
     generalize (a'++[(⟨yn,yl⟩:Column)]).length = N at *
     have hg2:0 < N:=by omega
     first | (refine hide ?_;intro Q4 hQ4) | have hQ4:=True.intro
     repeat' (first
      | (replace hQ4:=hQ4;simp [i2,hi,hr,hlt2,hne,hx,hsb,hi2,hr2,L8,hy,hg2])
      | (refine hQ4 _ _ _ ?_;clear hQ4 Q4;first | simp only [] | simp [i2] | skip)
      | (refine D3 (by assumption) ?_;(try clear hQ4);first | simp only [] | simp [t7,p9,p6,c5,p0,hown] | skip)
      | ((fail_if_success replace hQ4:=hQ4);(first | refine hide ?_ | refine u6 ?_ | refine u7 ?_);intro Q4 hQ4)
      | refine dF (id:=4) [0,1,2,3,4,5,6,7,8,9,10,11,12,13,14,15,16,17,18] [] ?_)
    | true =>
     rw [i4,show blt yn xn = true from hy] at hch
     generalize (a'++[(⟨yn,yl⟩:Column)]++(⟨xn,xl⟩:Column)::r) = L at *
     generalize (a'++[(⟨yn,yl⟩:Column)]++[(⟨xn,xl⟩:Column)]) = A2 at *
     generalize (a'++[(⟨yn,yl⟩:Column)]).length = N at *
     have hg2:0 < N:=by omega
     first | (refine hide ?_;intro Q5 hQ5) | have hQ5:=True.intro
     repeat' (first
      | (replace hQ5:=hQ5;simp [i2,hi,hr,hlt2,hne,hx,hsb,hi2,hr2,L8,hy,hg2,hw])
      | (refine hQ5 _ _ _ ?_;clear hQ5 Q5;first | simp only [] | simp [i2,hi,hr,hlt2,hne,hne2,hx,hsb,hi2,hr2,L8,hy,hg2,hw,t7,p9,p6,s7,J3,c5,j9,p0,hown] | skip)
      | (refine D3 (by assumption) ?_;(try clear hQ5);first | simp only [] | simp [i2,hi,hr,hlt2,hne,hne2,hx,hsb,hi2,hr2,L8,hy,hg2,hw,t7,p9,p6,s7,J3,c5,j9,p0,hown] | skip)
      | ((fail_if_success replace hQ5:=hQ5);(first | refine hide ?_ | refine u6 ?_ | refine u7 ?_);intro Q5 hQ5)
      | refine dF (id:=4) [0,1,2,3,4,5,6,7,8,9,10,11,12,13,14,15,16,17,18] [] ?_)
     all_goals first | (refine ⟨⟨by simp,by simp [hne,i2],hal,hch⟩,s9 (by simp)⟩) | trace_state
 ·rintro fr hh ⟨⟨i1,i2,i3,i4⟩,j,rfl⟩
  have h4:decide (((ls o).length:Int) ≤ 4) = decide ((ls o).length ≤ 4):=by rw [decide_eq_decide];omega
  have h5:(((ls o).length:Int) ≤ 4) = ((ls o).length ≤ 4):=by apply propext;omega
  rw [hB,i3,i4] at hR
  simp only [Bool.true_and] at hR
  subst hR
  first | (refine hide ?_;intro Q6 hQ6) | have hQ6:=True.intro
  repeat' (first
   | (replace hQ6:=hQ6;simp [i2,h5])
   | (refine hQ6 _ _ _ ?_;clear hQ6 Q6;first | simp only [] | simp [i2,h4,h5,t7,p9,p6,s7,J3,c5,j9,p0,hown] | skip)
   | (refine D3 (by assumption) ?_;(try clear hQ6);first | simp only [] | simp [t7,p9,p6,c5,p0,hown] | skip)
   | ((fail_if_success replace hQ6:=hQ6);(first | refine hide ?_ | refine u6 ?_ | refine u7 ?_);intro Q6 hQ6)
   | refine dF (id:=4) [0,1,2,3,4,5,6,7,8,9,10,11,12,13,14,15,16,17,18] [] ?_)
  all_goals first | done | (simp_all [-List.isEmpty_iff,-List.isEmpty_eq_false_iff,← List.isEmpty_iff];done) | (simp_all;done) | (simp_all;omega) | (simp;omega) | (intros;omega) | (intros;simp only [decide_eq_true_eq] at *;omega) | (intros;simp at *;omega) | skip
theorem sees_keep {h h':H} {size:Nat} {a:AS} {cells:List AS} (hs:Sees h size a cells) (hk:∀ b,u4 a = some b→h'.f b = h.f b):Sees h' size a cells:=by
 cases a <;> simp only [Sees] at hs ⊢
 ·exact hs
 ·refine ⟨hs.1, ?_⟩
  have:=hs.2
  simp only [I5] at this ⊢
  rw [hk _ rfl];exact this
 all_goals exact hs
theorem right_s {h:H} {s:AS} {rs:List RC} {o:Row} (w:RowSees h s rs o) (ho:(ls o).length < 1000000) {h':H} (hn:h.next ≤ h'.next) (hf:∀ b,b < h.next→h'.f b = h.f b):W K 172 [.agg [s]] h' = some (.ret (.one (.bool (S1 o))) h'):=by
 by_cases hp':([AV.agg [s]]).all p7 = true
 ·have hv:a0U h' [.agg [s]] = some [.agg [s]]:=by unfold a0U;rw [if_pos hp']
  have hs:=w.view h' hn hf
  have e:s = sl 2 d9 o:=by
   cases s with
   | nilslc=>simp [K4,c5] at hs;exact hs
   | vs n k cells =>
    simp only [List.all_cons,List.all_nil,p7,j9,Bool.and_true] at hp'
    simp only [K4,hp',if_true,oqI] at hs;exact hs
   | slc b v o n k c=>simp [p7,j9,c5] at hp'
   | _=>have:=w.arr;simp [Sees] at this
  rw [e]
  exact (right_g o ho).pure hp h'
 ·refine (right_g o ho).view hp ?_
  unfold a0U
  rw [if_neg hp']
  simp only [List.mapM_cons,List.mapM_nil,b0R,w.view h' hn hf,oqE,oqS,oqP]
theorem colB_inv {c:Column} (h:a0w c = true):(ls c.l).length ≤ 2∧ls c.l ≠ []∧∀ v ∈ ls c.l,b0l v = true:=by
 simp only [a0w,Bool.and_eq_true,decide_eq_true_eq] at h
 exact ⟨h.1.2.2,fun e=>by have:=h.1.2.1;rw [e] at this;simp at this,List.all_eq_true.1 h.2.1⟩
theorem u0E {v:Version} (h:b0l v = true):v.v.kind = 1→(ls v.v.b).length ≤ 1099511627776:=by
 intro hk
 simp only [b0l,S5,hk,Bool.and_eq_true,beq_self_eq_true,Bool.true_and,Bool.or_eq_true,decide_eq_true_eq,d0K] at h
 rcases h.2.2 with h | h
 ·omega
 ·simp at h
theorem copy_c {h:H} {s:AS} {rs:List RC} {o:Row} (w:RowSees h s rs o) (ho:(ls o).length < 1000000) :
  ∃ r,W K 166 [.agg [s]] h = some r∧Rets (fun v h'=>∃ s' rs',v = .agg [s']∧RowAt h' h.next s' rs' (rowCopy o)∧h.next ≤ h'.next∧∀ b,b < h.next→h'.f b = h.f b) r:=by
 refine Rets.intro fun P hP=>?_
 have hR:∀ k1 k2 k3,W K 172 [.agg [s]] (((h.new k1).new k2).new k3) = some (.ret (.one (.bool (S1 o))) (((h.new k1).new k2).new k3)):=fun k1 k2 k3=>right_s w ho (by simp;omega) (fun b hb=>by rw [K7,if_neg (by simp;omega),K7,if_neg (by simp;omega),K7,if_neg (by omega)])
 cases hB:S1 o with
 | false =>
  have e1:rowCopy o = none:=by rw [rowCopy,hB];rfl
  rw [e1] at hP
  rw [hB] at hR
  refine J6 hp rfl rfl rfl Tryz.func166 rfl (by simp [Tryz.f166]) ?_
  simp only [Tryz.f166]
  refine hide ?_;intro Q1 hQ1
  repeat' (first
   | (replace hQ1:=hQ1;simp [hR])
   | refine hQ1 _ _ _ ?_
   | refine dF (id:=11) [0,1,2,3,4,5,6,7,8,9,10,11] [(1,6),(3,6)] ?_)
  exact hP _ _ ⟨_,[],rfl,⟨.inl ⟨rfl,rfl⟩,by simp,by simp [u4],trivial,by simp⟩,by simp;omega,fun b hb=>by simp [hb,C0b,A0X,D0e]⟩
 | true =>
  have e1:rowCopy o = nz ((ls o).map X7):=by rw [rowCopy,hB];rfl
  rw [e1] at hP
  rw [hB] at hR
  have hall:(ls o).all a0w = true:=by simp only [S1,Bool.and_eq_true] at hB;exact hB.1.1
  have hcl:=t9 c0V rs
  have hrl:=w.col.len
  have hla:∀ (u:TypeId) (h':H),P6 s (some (.slice u)) h' = some (one (ii (ls o).length) h'):=fun u h'=>by rw [P3 h' u w.arr (by omega) hcl,hrl]
  refine J6 hp rfl rfl rfl Tryz.func166 rfl (by simp [Tryz.f166]) ?_
  simp only [Tryz.f166]
  refine hide ?_;intro Q2 hQ2
  repeat' (first
   | (replace hQ2:=hQ2;simp [hR,hla])
   | refine hQ2 _ _ _ ?_
   | refine dF (id:=11) [0,1,2,3,4,5,6,7,8,9,10,11] [(1,6),(3,6)] ?_)
  refine F5 hp (ls o) (fun a r fr hh=>(h.next + 1 + 1 + 1 ≤ hh.next∧(∀ b,b < h.next→hh.f b = h.f b)∧hh.f (h.next + 1) = some ⟨0,[1],true,[.nilslc]⟩∧∃ s1 rs1,hh.f (h.next + 1 + 1) = some ⟨0,[1],true,[s1]⟩∧rs1.length = a.length∧RowAt hh (h.next + 1 + 1 + 1) s1 rs1 (nz (a.map X7)))∧∃ j:Nat→AV,fr = (j 0::(.one (.ptr h.next 0 0))::(.one (.ptr (h.next + 1) 0 0))::(.one (.ptr (h.next + 1 + 1) 0 0))::j 4::j 5::j 6::j 7::j 8::j 9::j 10::j 11::j 12::j 13::(.one s)::(.one (ii (ls o).length))::(.one (ii a.length))::j 17::j 18::j 19::j 20::j 21::j 22::j 23::j 24::j 25::j 26::j 27::j 28::j 29::j 30::j 31::j 32::j 33::j 34::j 35::j 36::j 37::j 38::j 39::j 40::j 41::j 42::j 43::j 44::j 45::j 46::j 47::j 48::j 49::[])) ?_ ?_ _ _ ⟨⟨by simp,fun b hb=>by simp [hb,C0b,A0X,D0e],by simp,.nilslc,[],by simp,rfl,⟨.inl ⟨rfl,rfl⟩,by simp,by simp [u4],trivial,by simp⟩⟩,s9 rfl⟩
  ·rintro a x r fr hh hl ⟨⟨i1,i2,i3,s1,rs1,i4,i5,i6⟩,j,rfl⟩
   have hil:a.length < (ls o).length:=by rw [hl];simp
   have hir:a.length < rs.length:=by omega
   have hxe:(ls o)[a.length] = x:=by simp only [hl];simp
   have hsee:Sees hh 2 s (cat b0b rs):=sees_keep w.arr fun b hb=>i2 b (w.lt b hb)
   have hix:U0 Tryz.prog 79 s a.length = some (atS 2 s a.length):=V9 Tryz.underlying79 (by simp) hsee (by omega) hcl hir
   have hrd:I5 hh (atS 2 s a.length) 2 = some (b0b rs[a.length]):=by rw [X9 hsee (by omega) hcl hir,c0r c0V rs hir]
   obtain ⟨hc1,hc2,hc3⟩:=w.col.at a.length hir hil
   rw [hxe] at hc1 hc2
   have hxb:=List.all_eq_true.1 hall x (by rw [hl];simp)
   obtain ⟨hx1,hx2,hx3⟩:=colB_inv hxb
   generalize hsv:rs[a.length] = rv at *
   obtain ⟨rn,sv⟩:=rv
   simp only at hc1 hc2 hc3
   subst hc1
   obtain ⟨xn,xl⟩:=x
   simp only at hc2 hx1 hx2 hx3
   have hvl:=t9 C9 (ls xl)
   have hla2:∀ (u:TypeId) (h':H),P6 sv (some (.slice u)) h' = some (one (ii (ls xl).length) h'):=fun u h'=>P3 h' u hc2 (by omega) hvl
   have hlt:decide ((a.length:Int) < (ls o).length) = true:=by simp;omega
   have hlt2:a.length < (ls o).length:=hil
   have hw:IntKind.i64.wrap ((a.length:Int) + 1) = ((a++[(⟨xn,xl⟩:Column)]).length:Int):=by rw [M9];exact F0 (by omega)
   generalize hA2:(a++[(⟨xn,xl⟩:Column)]) = A2 at *
   first | (refine hide ?_;intro Q3 hQ3) | have hQ3:=True.intro
   repeat' (first
    | (replace hQ3:=hQ3;simp [hix,hrd,hlt2,hla2])
    | (refine hQ3 _ _ _ ?_;clear hQ3 Q3;first | simp only [] | simp [hix,hrd,hlt,hlt2,hla2] | skip)
    | (refine D3 (by assumption) ?_;(try clear hQ3);first | simp only [] | simp [hix,hrd,hlt,hlt2,hla2] | skip)
    | ((fail_if_success replace hQ3:=hQ3);(first | refine hide ?_ | refine u6 ?_ | refine u7 ?_);intro Q3 hQ3)
    | refine dF (id:=11) [0,1,2,3,4,5,6,7,8,9,10,11] [(1,6),(3,6)] ?_)
   obtain ⟨hb1,hB1⟩:∃ k,k = (⟨0,[2],true,[.str xn,sv]⟩:Blk):=⟨_,rfl⟩
   refine F5 hp (ls xl) (fun a2 r2 fr hh2=>(hh.next + 1 + 1 ≤ hh2.next∧(∀ b,b < hh.next→hh2.f b = hh.f b)∧∃ s2,hh2.f (hh.next + 1) = some ⟨0,[2],true,[.str xn,s2]⟩∧Sl hh2 4 c9 s2 (a2.map Z9)∧(s2 = .nilslc ↔ a2 = [])∧∀ b,u4 s2 = some b→hh.next + 1 + 1 ≤ b)∧∃ j:Nat→AV,fr = (j 0::(.one (.ptr h.next 0 0))::(.one (.ptr (h.next + 1) 0 0))::(.one (.ptr (h.next + 1 + 1) 0 0))::j 4::j 5::(.one (.ptr (hh.next + 1) 0 0))::j 7::j 8::j 9::j 10::j 11::j 12::j 13::(.one s)::(.one (ii (ls o).length))::(.one (ii a.length))::j 17::j 18::j 19::j 20::j 21::j 22::j 23::(.one sv)::(.one (ii (ls xl).length))::(.one (ii a2.length))::j 27::j 28::j 29::j 30::j 31::j 32::j 33::j 34::j 35::j 36::j 37::j 38::j 39::j 40::j 41::j 42::j 43::j 44::j 45::j 46::j 47::j 48::j 49::[])) ?_ ?_ _ _ ⟨⟨by simp,fun b hb=>by simp [hb,C0b,A0X],.nilslc,by simp,.inl ⟨rfl,rfl⟩,by simp,by simp [u4]⟩,s9 (by simp)⟩
   ·rintro a2 y r2 fr hh2 hl2 ⟨⟨j1,j2,s2,j3,j4,j5,j6⟩,j,rfl⟩
    have hyl:a2.length < (ls xl).length:=by rw [hl2];simp
    have hye:(ls xl)[a2.length] = y:=by simp only [hl2];simp
    have hsee2:Sees hh2 4 sv (cat c9 (ls xl)):=sees_keep hc2 fun b hb=>by have:=hc3 b hb;rw [j2 b (by omega),i2 b this]
    have hix2:U0 Tryz.prog 89 sv a2.length = some (atS 4 sv a2.length):=V9 Tryz.underlying89 (by simp) hsee2 (by omega) hvl hyl
    have hrd2:I5 hh2 (atS 4 sv a2.length) 4 = some (c9 y):=by rw [X9 hsee2 (by omega) hvl hyl,c0r C9 _ hyl,hye]
    have hyb:=u0E (hx3 y (by rw [hl2];simp))
    obtain ⟨yt,⟨yk,yb,yn⟩⟩:=y
    have hcan:=fun h=>g0i yk yb yn hyb h
    have hlt3:a2.length < (ls xl).length:=hyl
    have hw2:IntKind.i64.wrap ((a2.length:Int) + 1) = ((a2++[(⟨yt,⟨yk,yb,yn⟩⟩:Version)]).length:Int):=by rw [M9];exact F0 (by omega)
    have hmap:(a2++[(⟨yt,⟨yk,yb,yn⟩⟩:Version)]).map Z9 = a2.map Z9++[Z9 ⟨yt,⟨yk,yb,yn⟩⟩]:=by simp
    have hve:c9 (Z9 ⟨yt,⟨yk,yb,yn⟩⟩) = ii yt::W0 (N4 ⟨yk,yb,yn⟩):=rfl
    have j4':Sl ((hh2.new ⟨0,[4],true,c9 ⟨yt,⟨yk,yb,yn⟩⟩⟩).new ⟨0,[4],true,c9 (Z9 ⟨yt,⟨yk,yb,yn⟩⟩)⟩) 4 c9 s2 (a2.map Z9):=j4.keep (by simp;omega) fun b hb=>by
     have:=j4.lt hb
     rw [p8 (by simp;omega),p8 (by omega)]
    obtain ⟨s3,h3,e3,⟨b3,v3,z3,hs3,ar3⟩,k1,k2,k3⟩:=P0 (P:=Tryz.prog) (t:=89) Tryz.underlying89 (by simp) (by simp) Tryz.bytes93 (by omega) C9 (a:=.slc (hh2.next + 1) 0 0 1 4 none) (m:=[Z9 ⟨yt,⟨yk,yb,yn⟩⟩]) j4' rfl (by simp [C3,cat,hve,W0,sub]) (by simp) (by simp only [List.length_map,List.length_cons,List.length_nil,Nat.zero_add,L4];omega)
    simp only [A0] at k1 k2 k3
    have hs2:u4 s2 ≠ some (hh.next + 1):=fun e=>by have:=j6 _ e;omega
    have hf3:h3.f (hh.next + 1) = some ⟨0,[2],true,[.str xn,s2]⟩:=by
     rw [k2 _ (by omega) hs2]
     rw [p8 (by simp;omega),p8 (by omega)];exact j3
    have hA0:(a2++[(⟨yt,⟨yk,yb,yn⟩⟩:Version)]) ≠ []:=by simp
    generalize hA3:(a2++[(⟨yt,⟨yk,yb,yn⟩⟩:Version)]) = A3 at *
    simp only [c9,W0,Z9] at *
    have hne1:¬ hh.next + 1 = hh2.next:=by omega
    have hne2:¬ hh.next + 1 = hh2.next + 1:=by omega
    first | (refine hide ?_;intro Q4 hQ4) | have hQ4:=True.intro
    repeat' (first
     | (replace hQ4:=hQ4;simp [hix2,hrd2,hlt3,j3,hcan,e3,hf3,hw2,hne1])
     | (refine hQ4 _ _ _ ?_;clear hQ4 Q4;first | simp only [] | simp [hix2,hrd2,hlt3,j3,hcan,e3,hf3,hw2,hne1,hne2] | skip)
     | (refine D3 (by assumption) ?_;(try clear hQ4);first | simp only [] | simp [hix2,hrd2,hlt3,j3,hcan,e3,hf3,hw2,hne1,hne2] | skip)
     | ((fail_if_success replace hQ4:=hQ4);(first | refine hide ?_ | refine u6 ?_ | refine u7 ?_);intro Q4 hQ4)
     | refine dF (id:=11) [0,1,2,3,4,5,6,7,8,9,10,11] [(1,6),(3,6)] ?_)
    refine ⟨⟨by simp;omega,fun b hb=>?_,s3,by simp,.inr ⟨b3,v3,z3,by rw [hs3,hmap], ?_⟩, ?_,fun b hb=>?_⟩,s9 (by simp)⟩
    ·rw [p4,if_neg (by omega),k2 b (by omega) (fun e=>by have:=j6 b e;omega),p8 (by simp;omega),p8 (by omega)];exact j2 b hb
    ·rw [hmap]
     refine ar3.keep (by simp) ?_
     rw [p4,if_neg]
     rintro rfl
     rcases k3 _ (by rw [hs3];rfl) with e | e
     ·exact hs2 e
     ·omega
    ·rw [hs3];simp [hA0]
    ·rcases k3 b hb with e | e
     ·exact j6 b e
     ·omega
   ·rintro fr hh2 ⟨⟨j1,j2,s2,j3,j4,j5,j6⟩,j,rfl⟩
    have f42:hh2.f (h.next + 1 + 1) = some ⟨0,[1],true,[s1]⟩:=by rw [j2 _ (by omega)];exact i4
    have hcol:ColAt hh2 hh.next (xn,s2) (X7 ⟨xn,xl⟩):=⟨rfl,by simp only [X7,b0G];exact j4,by rw [j5];simp only [X7];rw [f0l (by simpa using hx2)];simp [hx2],fun b hb=>⟨by have:=j6 b hb;omega,j4.lt hb⟩⟩
    obtain ⟨s4,h4,e4,w4,k1,k2,k3⟩:=i6.push (P:=Tryz.prog) (t:=79) Tryz.underlying79 (by simp) (by simp) Tryz.bytes91 (by omega) (by omega) (fun b hb _=>j2 b hb) hcol (by simp only [L4];omega)
    have hs1:u4 s1 ≠ some (h.next + 1 + 1):=fun e=>by have:=(i6.own _ e).1;omega
    have f43:h4.f (h.next + 1 + 1) = some ⟨0,[1],true,[s1]⟩:=by rw [k2 _ (by omega) hs1,p8 (by omega)];exact f42
    have hmap:nz (A2.map X7) = some (ls (nz (a.map X7))++[X7 ⟨xn,xl⟩]):=by rw [← hA2];simp [f0l]
    have hlo4:∀ b,u4 s4 = some b→b ≠ h.next + 1 + 1:=by
     rintro b hb rfl
     rcases k3 _ hb with e | e
     ·exact hs1 e
     ·omega
    have hA2l:A2.length = a.length + 1:=by rw [← hA2];simp
    first | (refine hide ?_;intro Q5 hQ5) | have hQ5:=True.intro
    repeat' (first
     | (replace hQ5:=hQ5;simp [j3,f42,e4,f43])
     | (refine hQ5 _ _ _ ?_;clear hQ5 Q5;first | simp only [] | simp [hw] | skip)
     | (refine D3 (by assumption) ?_;(try clear hQ5);first | simp only [] | simp [j3,f42,e4,f43,hw] | skip)
     | ((fail_if_success replace hQ5:=hQ5);(first | refine hide ?_ | refine u6 ?_ | refine u7 ?_);intro Q5 hQ5)
     | refine dF (id:=11) [0,1,2,3,4,5,6,7,8,9,10,11] [(1,6),(3,6)] ?_)
    refine ⟨⟨by simp;omega,fun b hb=>?_, ?_,s4,rs1++[(xn,s2)],by simp, ?_, ?_⟩,s9 (by simp)⟩
    ·rw [p4,if_neg (by omega),k2 b (by omega) (fun e=>by have:=(i6.own b e).1;omega),p8 (by omega),j2 b (by omega)];exact i2 b hb
    ·rw [p4,if_neg (by omega),k2 _ (by omega) (fun e=>by have:=(i6.own _ e).1;omega),p8 (by omega),j2 _ (by omega)];exact i3
    ·simp [i5,hA2l]
    ·rw [hmap]
     refine w4.keep (by simp) fun b hb hx=>?_
     rw [p4,if_neg]
     rintro rfl
     rcases hx with e | e
     ·exact hlo4 _ e rfl
     ·have:=(w4.col.lt _ e).1;omega
  ·rintro fr hh ⟨⟨i1,i2,i3,s1,rs1,i4,i5,i6⟩,j,rfl⟩
   first | (refine hide ?_;intro Q6 hQ6) | have hQ6:=True.intro
   repeat' (first
    | (replace hQ6:=hQ6;simp [i3,i4])
    | (refine hQ6 _ _ _ ?_;clear hQ6 Q6;first | simp only [] | simp [i3,i4] | skip)
    | (refine D3 (by assumption) ?_;(try clear hQ6);first | simp only [] | simp [i3] | skip)
    | ((fail_if_success replace hQ6:=hQ6);(first | refine hide ?_ | refine u6 ?_ | refine u7 ?_);intro Q6 hQ6)
    | refine dF (id:=11) [0,1,2,3,4,5,6,7,8,9,10,11] [(1,6),(3,6)] ?_)
   exact hP _ _ ⟨s1,rs1,rfl,(i6.keep (by simp) fun b hb hx=>by rw [p4,if_neg];rintro rfl;rcases hx with e | e;{ have:=(i6.own _ e).1;omega };{ have:=(i6.col.lt _ e).1;omega }) |>.weaken (by omega),by simp;omega,fun b hb=>by rw [p4,if_neg (by omega)];exact i2 b hb⟩
theorem cmpS_c (a b:BL) (h:H):W K 64 [.one (.str a),.one (.str b)] h = some (.ret (.one (ii (X8 a b))) h):=by
 have hn:∀ a h,W K 105 [.one (.str a)] h = some (.ret (.one (.bool false)) h):=by
  intro a h
  have he:(a == a) = true:=by simp
  have hown:A8 S.own 105 = false:=by kernel_rfl
  refine p5 hp (by simp [p7,c5]) (c6 rfl rfl (by kernel_rfl) Tryz.func105 rfl (by simp [Tryz.f105]) ?_)
  simp only [Tryz.f105]
  refine hide ?_;intro Q1 hQ1
  repeat' (first
   | (replace hQ1:=hQ1;simp [L8])
   | (refine hQ1 _ _ _ ?_;clear hQ1 Q1;first | simp only [] | simp [t7,p9,p6,c5,p0,hown]))
  all_goals first | done | (simp_all [-List.isEmpty_iff,-List.isEmpty_eq_false_iff,← List.isEmpty_iff];done) | (simp_all;done) | (simp_all;omega) | (simp;omega) | (intros;omega) | (intros;simp only [decide_eq_true_eq] at *;omega) | (intros;simp at *;omega) | skip
 cases h1:Op.bytesLess a b with
 | true =>
  have e:X8 a b = -1:=by simp [X8,h1]
  rw [e]
  have hown:A8 S.own 64 = false:=by kernel_rfl
  refine p5 hp (by simp [p7,c5]) (c6 rfl rfl (by kernel_rfl) Tryz.func64 rfl (by simp [Tryz.f64]) ?_)
  simp only [Tryz.f64]
  refine hide ?_;intro Q2 hQ2
  repeat' (first
   | (replace hQ2:=hQ2;simp [hn,L8,h1,t7,p9,p6,c5,p0,hown])
   | refine hQ2 _ _ _ ?_)
 | false =>
  cases h2:Op.bytesLess b a with
  | true =>
   have hne:(a == b) = false:=by simp;rintro rfl;rw [h1] at h2;cases h2
   have e:X8 a b = 1:=by simp [X8,h1,hne]
   rw [e]
   have hne2:¬ a = b:=by simpa using hne
   have hown:A8 S.own 64 = false:=by kernel_rfl
   refine p5 hp (by simp [p7,c5]) (c6 rfl rfl (by kernel_rfl) Tryz.func64 rfl (by simp [Tryz.f64]) ?_)
   simp only [Tryz.f64]
   refine hide ?_;intro Q3 hQ3
   repeat' (first
    | (replace hQ3:=hQ3;simp [hn,L8,h1,hne,t7,p9,p6,c5,p0,hown])
    | refine hQ3 _ _ _ ?_)
  | false =>
   have e0:=a0M h1 h2
   subst e0
   have e:X8 a a = 0:=by simp [X8,h1]
   rw [e]
   have hown:A8 S.own 64 = false:=by kernel_rfl
   refine p5 hp (by simp [p7,c5]) (c6 rfl rfl (by kernel_rfl) Tryz.func64 rfl (by simp [Tryz.f64]) ?_)
   simp only [Tryz.f64]
   refine hide ?_;intro Q4 hQ4
   repeat' (first
    | (replace hQ4:=hQ4;simp [hn,L8,h1,t7,p9,p6,c5,p0,hown])
    | refine hQ4 _ _ _ ?_)
theorem d0E (a b:BL):X8 a b < 0 ↔ blt a b = true:=by
 unfold X8 blt
 cases h:Op.bytesLess a b <;> simp
 split <;> simp
theorem n0j (a b:BL):(X8 a b == 0) = (a == b):=by
 unfold X8
 cases h:Op.bytesLess a b with
 | true =>
  have:(a == b) = false:=by simp;rintro rfl;rw [Y5] at h;cases h
  simp [this]
 | false=>cases h2:(a == b) <;> simp
theorem y0G (c:Column) (n:BL) (h:H):W K 267 [.agg (d9 c),.one (.str n)] h = some (.ret (.one (ii (X8 c.name n))) h):=by
 obtain ⟨cn,cl⟩:=c
 have hc:=cmpS_c cn n
 simp only [d9]
 have hown:A8 S.own 267 = false:=by kernel_rfl
 refine p5 hp (by simp [p7,c5,j9]) (c6 rfl rfl (by kernel_rfl) Tryz.func267 rfl (by simp [Tryz.f267]) ?_)
 simp only [Tryz.f267]
 refine hide ?_;intro Q5 hQ5
 repeat' (first
  | (replace hQ5:=hQ5;simp [hc,t7,p9,p6,c5,p0,hown])
  | refine hQ5 _ _ _ ?_)
theorem x0R {h:H} {s:AS} {l:List Column} (hs:Sees h 2 s (cat d9 l)) (g:Nat) (tgt:AV) (c:Column→Int) (hg:∀ x h,W K g [.agg (d9 x),tgt] h = some (.ret (.one (ii (c x))) h)) (k:Nat) (hk:k ≤ l.length) (h1:∀ i (hi:i < l.length),i < k ↔ c l[i] < 0) (hl:l.length < 1000000) :
  W K 266 [.one s,tgt,.one (.fn g [] [])] h = some (.ret (.tup [(false,[ii k]),(false,[.bool (match l[k]? with | some x=>c x == 0 | none=>false)])]) h):=by
 have hcl:=t9 O8 l
 have hla:∀ (u:TypeId) (h':H),P6 s (some (.slice u)) h' = some (one (ii l.length) h'):=fun u h'=>P3 h' u hs (by omega) hcl
 have hix:∀ i,i < l.length→U0 Tryz.prog 79 s i = some (atS 2 s i):=fun i hi=>V9 Tryz.underlying79 (by simp) hs (by omega) hcl hi
 have hrd:∀ i (hi:i < l.length),I5 h (atS 2 s i) 2 = some (d9 l[i]):=fun i hi=>by rw [X9 hs (by omega) hcl hi,c0r O8 l hi]
 refine A5 hp rfl rfl rfl Tryz.func266 rfl (by simp [Tryz.f266]) ?_
 simp only [Tryz.f266]
 refine hide ?_;intro Q6 hQ6
 repeat' (first
  | (replace hQ6:=hQ6;simp [hla])
  | refine hQ6 _ _ _ ?_)
 refine a0X hp (fun m fr hh=>hh = h∧∃ (i u:Nat),i ≤ k∧k ≤ u∧u ≤ l.length∧m = u - i∧∃ j:Nat→AV,fr = ((.one s)::(tgt)::(.one (.fn g [] []))::j 3::j 4::j 5::j 6::j 7::(.one (ii l.length))::(.one (ii i))::(.one (ii u))::j 11::j 12::j 13::j 14::j 15::j 16::j 17::j 18::j 19::j 20::j 21::j 22::j 23::j 24::j 25::j 26::j 27::j 28::j 29::j 30::j 31::j 32::j 33::j 34::j 35::j 36::j 37::j 38::j 39::j 40::j 41::j 42::j 43::j 44::j 45::j 46::j 47::j 48::[])) ?_ l.length _ _ ⟨rfl,0,l.length,by omega,hk,by omega,by omega,s9 rfl⟩
 rintro m fr hh ⟨rfl,i,u,q1,q2,q3,rfl,j,rfl⟩
 by_cases hij:i < u
 ·have d1:decide ((i:Int) < u) = true:=by simp;omega
  have hm:(i + u) / 2 < l.length:=by omega
  have w1:IntKind.i64.wrap ((i:Int) + u) = (i:Int) + u:=wrap_i64 (by omega) (by omega)
  have w2:IntKind.u64.wrap ((i:Int) + u) = (i:Int) + u:=c0y (by omega) (by omega)
  have w3:a0n .shr .u64 ((i:Int) + u) 1 = some (.int .u64 (((i + u) / 2:Nat):Int)):=by
   simp only [a0n]
   rw [if_neg (by omega)]
   have e:(2:Int) ^ min (1:Int).toNat IntKind.u64.bits = 2:=rfl
   rw [e,Int.fdiv_eq_ediv_of_nonneg _ (by omega)]
   simp
  have w4:IntKind.i64.wrap (((i + u) / 2:Nat):Int) = (((i + u) / 2:Nat):Int):=wrap_i64 (by omega) (by omega)
  have w5:IntKind.i64.wrap ((((i + u) / 2:Nat):Int) + 1) = (((i + u) / 2:Nat):Int) + 1:=wrap_i64 (by omega) (by omega)
  have x1:=hix _ hm
  have x2:=hrd _ hm
  have x3:=h1 _ hm
  generalize hM:(i + u) / 2 = M at *
  generalize hX:l[M] = X at *
  have x4:=hg X
  by_cases hc:c X < 0
  ·have d2:decide (c X < 0) = true:=by simp [hc]
   have hMk:=x3.2 hc
   first | (refine hide ?_;intro Q7 hQ7) | have hQ7:=True.intro
   repeat' (first
    | (replace hQ7:=hQ7;simp [hij,w1,w2,w3,w4,w5,x1,x2,x4,hc,A6])
    | (refine hQ7 _ _ _ ?_;clear hQ7 Q7;first | simp only [] | simp [d1,hij,w1,w2,w3,w4,w5,x1,x2,x4,d2,hc,A6] | skip)
    | (refine D3 (by assumption) ?_;(try clear hQ7);first | simp only [] | simp [d1,hij,w1,w2,w3,w4,w5,x1,x2,x4,d2,hc,A6] | skip)
    | ((fail_if_success replace hQ7:=hQ7);(first | refine hide ?_ | refine u6 ?_ | refine u7 ?_);intro Q7 hQ7))
   all_goals exact ⟨u - (M + 1),by omega,trivial,M + 1,u,by omega,q2,q3,rfl,s9 (by simp)⟩
  ·have d2:decide (c X < 0) = false:=by simp [hc]
   have hMk:¬ M < k:=fun h=>hc (x3.1 h)
   first | (refine hide ?_;intro Q8 hQ8) | have hQ8:=True.intro
   repeat' (first
    | (replace hQ8:=hQ8;simp [hij,w1,w2,w3,w4,x1,x2,x4,hc,A6])
    | (refine hQ8 _ _ _ ?_;clear hQ8 Q8;first | simp only [] | simp [d1,hij,w1,w2,w3,w4,w5,x1,x2,x4,d2,hc,A6] | skip)
    | (refine D3 (by assumption) ?_;(try clear hQ8);first | simp only [] | simp [d1,hij,w1,w2,w3,w4,w5,x1,x2,x4,d2,hc,A6] | skip)
    | ((fail_if_success replace hQ8:=hQ8);(first | refine hide ?_ | refine u6 ?_ | refine u7 ?_);intro Q8 hQ8))
   all_goals exact ⟨M - i,by omega,trivial,i,M,q1,by omega,by omega,rfl,s9 (by simp)⟩
 ·have d1:decide ((i:Int) < u) = false:=by simp;omega
  have hik:i = k:=by omega
  have hjk:u = k:=by omega
  subst hjk hik
  by_cases hkl:i < l.length
  ·have d2:decide ((i:Int) < l.length) = true:=by simp;omega
   have x1:=hix _ hkl
   have x2:=hrd _ hkl
   have x5:l[i]? = some l[i]:=List.getElem?_eq_getElem hkl
   generalize hX:l[i] = X at *
   have x4:=hg X
   first | (refine hide ?_;intro Q9 hQ9) | have hQ9:=True.intro
   repeat' (first
    | (replace hQ9:=hQ9;simp [hkl,x1,x2,x4])
    | (refine hQ9 _ _ _ ?_;clear hQ9 Q9;first | simp only [] | simp [d1,hij,d2,hkl,x1,x2,x4,x5] | skip)
    | (refine D3 (by assumption) ?_;(try clear hQ9);first | simp only [] | simp [hkl] | skip)
    | ((fail_if_success replace hQ9:=hQ9);(first | refine hide ?_ | refine u6 ?_ | refine u7 ?_);intro Q9 hQ9))
   all_goals first | rfl | rw [hX]
  ·have d2:decide ((i:Int) < l.length) = false:=by simp;omega
   have x5:l[i]? = none:=List.getElem?_eq_none (by omega)
   first | (refine hide ?_;intro Q10 hQ10) | have hQ10:=True.intro
   repeat' (first
    | (replace hQ10:=hQ10;simp [hkl])
    | (refine hQ10 _ _ _ ?_;clear hQ10 Q10;first | simp only [] | simp [d1,hij,d2,hkl,x5] | skip)
    | (refine D3 (by assumption) ?_;(try clear hQ10);first | simp only [] | simp [hkl] | skip)
    | ((fail_if_success replace hQ10:=hQ10);(first | refine hide ?_ | refine u6 ?_ | refine u7 ?_);intro Q10 hQ10))
theorem U9 (a b c:BL) (h1:blt a b = true) (h2:blt b c = true):blt a c = true:=g0h h1 h2
theorem t0T {l:List Column} (hs:I1 d0M l = true) (n:BL) (i:Nat) (hi:i < l.length):i < X5 l n ↔ X8 l[i].name n < 0:=by
 rw [d0E]
 induction l generalizing i with
 | nil=>simp at hi
 | cons c l ih =>
  have hall:=c0a (r:=d0M) (fun a b c h1 h2=>U9 _ _ _ h1 h2) hs
  unfold X5
  cases hc:blt c.name n with
  | true =>
   simp only [List.takeWhile_cons,hc,if_true,List.length_cons]
   cases i with
   | zero=>simp [hc]
   | succ i =>
    have:=ih (d0D hs) i (by simpa using hi)
    unfold X5 at this
    simp only [List.getElem_cons_succ]
    rw [← this];omega
  | false =>
   simp only [List.takeWhile_cons,hc,oqF,if_false,List.length_nil,Nat.not_lt_zero,false_iff]
   cases i with
   | zero=>simp [hc]
   | succ i =>
    simp only [List.getElem_cons_succ]
    intro hx
    have h1:blt c.name (l[i]'(by simpa using hi)).name = true:=hall _ (List.getElem_mem _)
    rw [U9 _ _ _ h1 hx] at hc;cases hc
theorem h0n {α:Type} (p:α→Bool):∀ l:List α,(l.takeWhile p).length ≤ l.length
 | []=>Nat.le_refl _
 | a::l=>by
  simp only [List.takeWhile_cons]
  split
  ·have:=h0n p l;simp;exact this
  ·simp
theorem h0S (l:List Column) (n:BL):X5 l n ≤ l.length:=h0n _ _
theorem find_g (o:Row) (n:BL) (hr:S1 o = true):Fun K 254 [.agg [sl 2 d9 o],.one (.str n)] (fun h=>.ret (.tup [(false,[ii (X5 (ls o) n)]),(false,[.bool (b0k (ls o) n)])]) h):=by
 simp only [S1,Bool.and_eq_true,decide_eq_true_eq] at hr
 have hb:=fun h=>x0R (h:=h) (s:=sl 2 d9 o) (l:=ls o) (h0i O8 h o) 267 (.one (.str n)) (fun c=>X8 c.name n) (fun x h=>y0G x n h) (X5 (ls o) n) (h0S _ _) (fun i hi=>t0T hr.1.2 n i hi) (by omega)
 have he:(match (ls o)[X5 (ls o) n]? with | some x=>X8 x.name n == 0 | none=>false) = b0k (ls o) n:=by
  unfold b0k;generalize (ls o)[X5 (ls o) n]? = q;cases q <;> simp [n0j]
 rw [he] at hb
 generalize b0k (ls o) n = T at *
 generalize X5 (ls o) n = I at *
 have hown:A8 S.own 254 = false:=by kernel_rfl
 refine ⟨by simp [p7,c5,j9],fun hh=>c6 rfl rfl (by kernel_rfl) Tryz.func254 rfl (by simp [Tryz.f254]) ?_⟩
 simp only [Tryz.f254]
 refine hide ?_;intro Q11 hQ11
 repeat' (first
  | (replace hQ11:=hQ11;simp [hb,t7,p9,p6,J3,c5,p0,hown])
  | refine hQ11 _ _ _ ?_)
end Go.Proofs.YtiagcnfmgigllaaGreat.Rw
