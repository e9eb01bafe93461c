/- A part of a proof over the abstract machine. No conditions. -/
import Derived.Test.YtiagcnfmgigllaaGreatSeatK
import Derived.Test.YtiagcnfmgigllaaGreatAb3
import Derived.Test.YtiagcnfmgigllaaGreatAb5
import Derived.Test.YtiagcnfmgigllaaGreatSeatF
set_option linter.all false
namespace Go.Proofs.YtiagcnfmgigllaaGreat
open Go Go.Ab Wm Go.Proofs.Tryz
@[simp] theorem G0b (a b:Code) (fr:Fr) (h:H) (Q:Ex→Fr→H→Prop):J5 K (.seq a b) fr h Q = J5 K a fr h (j0n K b Q):=l0C hp a b fr h Q
@[simp] theorem C0t (fr:Fr) (h:H) (Q:Ex→Fr→H→Prop):J5 K .skip fr h Q = Q .normal fr h:=k0u hp fr h Q
@[simp] theorem C0u (id:Nat) (fr:Fr) (h:H) (Q:Ex→Fr→H→Prop):J5 K (.exit id) fr h Q = Q (.exit id) fr h:=j0o hp id fr h Q
@[simp] theorem F0y (fr:Fr) (h:H) (Q:Ex→Fr→H→Prop):J5 K .ret fr h Q = Q .ret fr h:=l0u hp fr h Q
@[simp] theorem u0A (id:Nat) (l:List Oper) (fr:Fr) (h:H) (Q:Ex→Fr→H→Prop):J5 K (.region id l.toArray false) fr h Q = b0b K l l fr h Q:=g0L hp id l fr h Q
@[simp] theorem z0B (id:Nat) (b:Code) (fr:Fr) (h:H) (Q:Ex→Fr→H→Prop):J5 K (.block id b) fr h Q = J5 K b fr h (c0j id Q):=i0A hp id b fr h Q
@[simp] theorem C0s (c:Operand) (a b:Code) (fr:Fr) (h:H) (Q:Ex→Fr→H→Prop):J5 K (.cond c a b) fr h Q = f0U K a b fr h Q (evS fr c):=l0b hp c a b fr h Q
theorem dF {id:Nat} {l:List Oper} {fr:Fr} {h:H} {Q:Ex→Fr→H→Prop} (c:List Nat) (U:List (Nat × Nat)) (hq:i0x K l U c fr h [] [] Q)
  (hk:(d0S K.P l && (c0y K.P l == c) && (loose K.P l (X8 l []) (c0y K.P l) == U) && h0F c) = true:=by kernel_rfl):J5 K (.region id l.toArray true) fr h Q:=l0x hp c U hq hk
@[simp] theorem G0M (n:Nat):List.replicate (n + 1) AV.undef = AV.undef::List.replicate n AV.undef:=rfl
end Go.Proofs.YtiagcnfmgigllaaGreat
namespace Go.Proofs.YtiagcnfmgigllaaGreat.Rw
open Go Go.Ab Wm Go.Proofs.Tryz
@[simp] theorem KP:K.P = prog:=rfl
theorem l5 (f:Nat):K.own f = A8 S.own f:=rfl
@[simp] theorem G0b (a b:Code) (fr:Fr) (h:H) (Q:Ex→Fr→H→Prop):J5 K (.seq a b) fr h Q = J5 K a fr h (j0n K b Q):=l0C hp a b fr h Q
@[simp] theorem C0t (fr:Fr) (h:H) (Q:Ex→Fr→H→Prop):J5 K .skip fr h Q = Q .normal fr h:=k0u hp fr h Q
@[simp] theorem C0u (id:Nat) (fr:Fr) (h:H) (Q:Ex→Fr→H→Prop):J5 K (.exit id) fr h Q = Q (.exit id) fr h:=j0o hp id fr h Q
@[simp] theorem F0y (fr:Fr) (h:H) (Q:Ex→Fr→H→Prop):J5 K .ret fr h Q = Q .ret fr h:=l0u hp fr h Q
@[simp] theorem u0A (id:Nat) (l:List Oper) (fr:Fr) (h:H) (Q:Ex→Fr→H→Prop):J5 K (.region id l.toArray false) fr h Q = b0b K l l fr h Q:=g0L hp id l fr h Q
@[simp] theorem z0B (id:Nat) (b:Code) (fr:Fr) (h:H) (Q:Ex→Fr→H→Prop):J5 K (.block id b) fr h Q = J5 K b fr h (c0j id Q):=i0A hp id b fr h Q
@[simp] theorem C0s (c:Operand) (a b:Code) (fr:Fr) (h:H) (Q:Ex→Fr→H→Prop):J5 K (.cond c a b) fr h Q = f0U K a b fr h Q (evS fr c):=l0b hp c a b fr h Q
theorem dF {id:Nat} {l:List Oper} {fr:Fr} {h:H} {Q:Ex→Fr→H→Prop} (c:List Nat) (U:List (Nat × Nat)) (hq:i0x K l U c fr h [] [] Q)
  (hk:(d0S K.P l && (c0y K.P l == c) && (loose K.P l (X8 l []) (c0y K.P l) == U) && h0F c) = true:=by kernel_rfl):J5 K (.region id l.toArray true) fr h Q:=l0x hp c U hq hk
open Go Go.Ab Wm NumPlain Go.Proofs.Tryz
set_option maxRecDepth 10000
set_option maxHeartbeats 4000000
theorem c0G (s:BL) (h:H):W K 111 [.one (.str s)] h = some (.ret (.one (.bool (I6 s))) h):=by
 have hown:A8 S.own 111 = false:=by kernel_rfl
 refine p7 hp (by simp [s7,c5]) (c6 rfl rfl (by kernel_rfl) func111 rfl (by simp [Tryz.f111]) ?_)
 simp only [Tryz.f111]
 refine c7 ?_;intro Q1 hQ1
 repeat' (first
  | (replace hQ1:=hQ1;simp [I6])
  | (refine hQ1 _ _ _ ?_;clear hQ1 Q1;first | simp only [] | simp [I6,u6,u5,p9,c5,l5,hown])
  | (first | apply cF | apply wN | apply wS) <;> intro hcnd <;> (try simp only [hcnd]) <;> (try simp [-List.isEmpty_iff,-List.isEmpty_eq_false_iff] at hcnd))
 all_goals first | done | (simp_all [-List.isEmpty_iff,-List.isEmpty_eq_false_iff,← List.isEmpty_iff];done) | (simp_all;done) | (simp_all;omega) | (simp;omega) | (intros;omega) | (intros;simp only [oqj] at *;omega) | (intros;simp at *;omega) | skip
theorem b0d (B7:Int) (v_b:Option BL) (v_n:Nat) (h:H):W K 160 [.agg [ii B7,bs v_b,.flt v_n]] h = some (.ret (.one (.bool (Q0 ⟨B7,v_b,v_n⟩))) h):=by
 have hown:A8 S.own 160 = false:=by kernel_rfl
 refine p7 hp (by simp [s7,c5,l0]) (c6 rfl rfl (by kernel_rfl) func160 rfl (by simp [Tryz.f160]) ?_)
 simp only [Tryz.f160]
 refine c7 ?_;intro Q2 hQ2
 repeat' (first
  | (replace hQ2:=hQ2;simp [Q0])
  | (refine hQ2 _ _ _ ?_;clear hQ2 Q2;first | simp only [] | simp [Q0,d0E,u6,u5,p9,c5,l5,hown])
  | (first | apply cF | apply wN | apply wS) <;> intro hcnd <;> (try simp only [hcnd]) <;> (try simp [-List.isEmpty_iff,-List.isEmpty_eq_false_iff] at hcnd))
 all_goals first | done | (simp_all [-List.isEmpty_iff,-List.isEmpty_eq_false_iff];done) | (simp_all;done) | (simp_all;omega) | (simp;omega) | (intros;omega) | (intros;simp only [oqj] at *;omega) | (intros;simp at *;omega) | skip
theorem I8 {n:Nat} {l:List AS} (hl:l.length = n):sub l 0 n = some l:=by
 unfold sub;rw [if_pos (by omega),List.drop_zero,List.take_of_length_le (by omega)]
@[simp] theorem D0Q:FloatKind.f64.format = Ieee.double:=rfl
theorem i0g (b:Nat):j0G .neq (D.order b b) = some (isN b):=by
 unfold isN
 by_cases h:INF < M5 b
 ·rw [m0k (.inl h)];simp [j0G,h]
 ·rw [j0J (by omega) (by omega)]
  simp [j0G,h]
theorem W6 (n:Int) (h:H):W K 109 [.one (.int .u64 n)] h = some (.ret (.one (.flt n.toNat)) h):=by rw [m0g hp rfl rfl];rfl
theorem m0S (n:Nat) (h:H):W K 155 [.one (.flt n)] h = some (.ret (.one (.int .u64 n)) h):=by rw [m0g hp rfl rfl];rfl
theorem n0k (b:Nat) (h:H):W K 253 [.one (.flt b)] h = some (.ret (.one (.bool (isN b))) h):=by
 have hown:A8 S.own 253 = false:=by kernel_rfl
 refine p7 hp (by simp [s7,c5]) (c6 rfl rfl (by kernel_rfl) func253 rfl (by simp [Tryz.f253]) ?_)
 simp only [Tryz.f253]
 refine c7 ?_;intro Q3 hQ3
 repeat' (first
  | (replace hQ3:=hQ3;simp [i0g,u6,u5,p9,c5,l5,hown])
  | refine hQ3 _ _ _ ?_)
theorem f0L (b:Nat) (h:H):W K 235 [.one (.flt b)] h = some (.ret (.one (.flt (b0n b))) h):=by
 have hown:A8 S.own 235 = false:=by kernel_rfl
 refine p7 hp (by simp [s7,c5]) (c6 rfl rfl (by kernel_rfl) func235 rfl (by simp [Tryz.f235]) ?_)
 simp only [Tryz.f235]
 refine c7 ?_;intro Q4 hQ4
 repeat' (first
  | (replace hQ4:=hQ4;simp [n0k,W6,u6,u5,p9,c5,l5,hown])
  | refine hQ4 _ _ _ ?_
  | (first | apply cF | apply wN | apply wS) <;> intro hcnd <;> (try simp only [hcnd]) <;> (try simp [-List.isEmpty_iff,-List.isEmpty_eq_false_iff] at hcnd))
 all_goals simp_all [b0n]
theorem f0C (o:Option BL) (ho:(ls o).length ≤ 1099511627776):Fun K 102 [.one (bs o)] (fun h=>.ret (.one (bs o)) h):=by
 cases o with
 | none =>
  simp only [C4]
  have hown:A8 S.own 102 = false:=by kernel_rfl
  refine ⟨by simp [s7,c5],fun hh=>c6 rfl rfl (by kernel_rfl) func102 rfl (by simp [Tryz.f102]) ?_⟩
  simp only [Tryz.f102]
  refine c7 ?_;intro Q5 hQ5
  repeat' (first
   | (replace hQ5:=hQ5;simp [bin,f0O,a0c,u6,u5,p9,c5,l5,hown])
   | refine hQ5 _ _ _ ?_)
 | some l =>
  rw [T6]
  by_cases h0:l = []
  ·subst h0
   have hown:A8 S.own 102 = false:=by kernel_rfl
   refine ⟨by simp [s7,c5,l0],fun hh=>c6 rfl rfl (by kernel_rfl) func102 rfl (by simp [Tryz.f102]) ?_⟩
   simp only [Tryz.f102]
   refine c7 ?_;intro Q6 hQ6
   repeat' (first
    | (replace hQ6:=hQ6;simp [bin,f0O,a0c,S5,J3,P5,B8,sub,J6,u6,u5,p9,l5,hown])
    | refine hQ6 _ _ _ ?_)
  ·have h1:l.length ≠ 0:=by simpa using h0
   have h3:l0 true (l.map C9) = true:=by
    clear h0 h1 ho
    induction l with
    | nil=>rfl
    | cons a l ih=>simp [l0,C9,c5] at ih ⊢;exact ih
   have h2:¬ (17592186044416 < l.length + 600 + l.length):=by simp at ho;omega
   have ht:(l.map C9).take l.length = l.map C9:=List.take_of_length_le (by simp)
   have h4:l0 false (l.map C9) = true:=by have:=h0y (some l);rw [T6] at this;simpa [c5] using this
   have h5:(l.map C9).mapM (p9 true ((H.empty.new ⟨0,[0],true,[]⟩).new ⟨0,[l.length],false,l.map C9⟩) 63) = some (l.map C9):=b0p (n:=62) (by assumption)
   have hown:A8 S.own 102 = false:=by kernel_rfl
   refine ⟨by simp [s7,h4,c5],fun hh=>c6 rfl rfl (by kernel_rfl) func102 rfl (by simp [Tryz.f102]) ?_⟩
   simp only [Tryz.f102]
   refine c7 ?_;intro Q7 hQ7
   repeat' (first
    | (replace hQ7:=hQ7;simp [bin,f0O,a0c,S5,J3,P5,B8,sub,J6,h0,h2,h5,ht,u6,u5,p9,l5,hown])
    | refine hQ7 _ _ _ ?_)
   all_goals trace_state
theorem z0e (o:Option BL) (ho:(ls o).length ≤ 1099511627776) (h:H):W K 102 [.one (bs o)] h = some (.ret (.one (bs o)) h):=(f0C o ho).pure hp h
theorem g0r (B7:Int) (v_b:Option BL) (v_n:Nat) (hb:B7 = 1→(ls v_b).length ≤ 1099511627776) (h:H):W K 206 [.agg [ii B7,bs v_b,.flt v_n]] h = some (.ret (.agg (V3 (J4 ⟨B7,v_b,v_n⟩))) h):=by
 by_cases h1:B7 = 1
 ·have hc:=z0e v_b (hb h1)
  subst h1
  have hown:A8 S.own 206 = false:=by kernel_rfl
  refine p7 hp (by simp [s7,c5,l0]) (c6 rfl rfl (by kernel_rfl) func206 rfl (by simp [Tryz.f206]) ?_)
  simp only [Tryz.f206]
  refine c7 ?_;intro Q8 hQ8
  repeat' (first
   | (replace hQ8:=hQ8;simp [hc])
   | (refine hQ8 _ _ _ ?_;clear hQ8 Q8;first | simp only [] | simp [J4,V3,u6,u5,p9,s8,c5,l5,hown]))
  all_goals first | done | (simp_all [-List.isEmpty_iff,-List.isEmpty_eq_false_iff,← List.isEmpty_iff];done) | (simp_all;done) | (simp_all;omega) | (simp;omega) | (intros;omega) | (intros;simp only [oqj] at *;omega) | (intros;simp at *;omega) | skip
 ·by_cases h2:B7 = 2
  ·subst h2
   have hown:A8 S.own 206 = false:=by kernel_rfl
   refine p7 hp (by simp [s7,c5,l0]) (c6 rfl rfl (by kernel_rfl) func206 rfl (by simp [Tryz.f206]) ?_)
   simp only [Tryz.f206]
   refine c7 ?_;intro Q9 hQ9
   repeat' (first
    | (replace hQ9:=hQ9;simp [f0L])
    | (refine hQ9 _ _ _ ?_;clear hQ9 Q9;first | simp only [] | simp [J4,V3,C4,u6,u5,p9,c5,l5,hown]))
   all_goals first | done | (simp_all [-List.isEmpty_iff,-List.isEmpty_eq_false_iff,← List.isEmpty_iff];done) | (simp_all;done) | (simp_all;omega) | (simp;omega) | (intros;omega) | (intros;simp only [oqj] at *;omega) | (intros;simp at *;omega) | skip
  ·have e1:J4 ⟨B7,v_b,v_n⟩ = ⟨0,none,0⟩:=by simp [J4,h1,h2]
   have b1:(B7 == 1) = false:=by simp [h1]
   have b2:(B7 == 2) = false:=by simp [h2]
   rw [e1]
   have hown:A8 S.own 206 = false:=by kernel_rfl
   refine p7 hp (by simp [s7,c5,l0]) (c6 rfl rfl (by kernel_rfl) func206 rfl (by simp [Tryz.f206]) ?_)
   simp only [Tryz.f206]
   refine c7 ?_;intro Q10 hQ10
   repeat' (first
    | (replace hQ10:=hQ10;simp [b1,b2])
    | (refine hQ10 _ _ _ ?_;clear hQ10 Q10;first | simp only [] | simp [V3,C4,u6,u5,p9,c5,l5,hown]))
   all_goals first | done | (simp_all [-List.isEmpty_iff,-List.isEmpty_eq_false_iff,← List.isEmpty_iff];done) | (simp_all;done) | (simp_all;omega) | (simp;omega) | (intros;omega) | (intros;simp only [oqj] at *;omega) | (intros;simp at *;omega) | skip
theorem j0c {α:Type} {p:α→Bool} {a:List α} {x:α} {r:List α} (h:p x = false):(a++x::r).all p = false:=by simp [h]
theorem w0W (c:Column):Fun K 213 [.agg (j9 c)] (fun h=>.ret (.one (.bool (a0t c))) h):=by
 obtain ⟨n,o⟩:=c
 have hn:=c0G n
 simp only [j9]
 have hd:∀ (a b:Nat),decide ((a:Int) < b) = decide (a < b):=fun a b=>by rw [decide_eq_decide];omega
 by_cases h1:I6 n = true
 ·by_cases h2:1 ≤ (ls o).length
  ·by_cases h3:(ls o).length ≤ 2
   ·have b1:decide (((ls o).length:Int) < 1) = false:=by simp;omega
    have b2:decide (2 < ((ls o).length:Int)) = false:=by simp;omega
    rw [h1] at hn
    have hB:a0t ⟨n,o⟩ = ((ls o).all a0Y && F9 c0v (ls o)):=by simp [a0t,h1,h2,h3]
    rw [hB]
    obtain ⟨R,hR⟩:∃ R,((ls o).all a0Y && F9 c0v (ls o)) = R:=⟨_,rfl⟩
    rw [hR]
    have hown:A8 S.own 213 = false:=by kernel_rfl
    refine ⟨by simp [s7,c5,l0],fun hh=>c6 rfl rfl (by kernel_rfl) func213 rfl (by simp [Tryz.f213]) ?_⟩
    simp only [Tryz.f213]
    refine c7 ?_;intro Q1 hQ1
    repeat' (first
     | (replace hQ1:=hQ1;simp [hn,b1,b2])
     | refine hQ1 _ _ _ ?_
     | refine dF (id:=6) [0,1,2,3,4,5,6,7,8,9,10,11,12,13,14,15,16,17,18,19,20,21,22,23,24,25,26,27,28,29] [] ?_
     | (first | apply cF | apply wN | apply wS) <;> intro hcnd <;> (try simp only [hcnd]) <;> (try simp [-List.isEmpty_iff,-List.isEmpty_eq_false_iff] at hcnd))
    refine D5 hp (ls o) (fun a r fr hh=>(0 < hh.next∧hh.f 0 = some ⟨0,[2],true,[.str n,sl 4 c9 o]⟩∧a.all a0Y = true∧F9 c0v a = true)∧∃ j:Nat→AV,fr = (j 0::(.one (.ptr 0 0 0))::(.one (.bool false))::j 3::j 4::j 5::j 6::j 7::j 8::j 9::j 10::j 11::j 12::j 13::j 14::j 15::j 16::j 17::j 18::j 19::j 20::j 21::(.one (sl 4 c9 o))::(.one (ii (ls o).length))::(.one (ii a.length))::j 25::j 26::j 27::j 28::j 29::j 30::j 31::j 32::j 33::j 34::j 35::j 36::j 37::j 38::j 39::j 40::j 41::j 42::j 43::j 44::j 45::j 46::j 47::j 48::j 49::j 50::j 51::j 52::j 53::j 54::j 55::j 56::j 57::j 58::j 59::[])) ?_ ?_ _ _ ⟨⟨by simp,by simp,rfl,rfl⟩,s9 rfl⟩
    ·rintro a x r fr hh hl ⟨⟨i1,i2,i3,i4⟩,j,rfl⟩
     obtain rfl:=O9 hl
     have hi:=I4 (P:=prog) (enc:=c9) (s:=4) (l:=a++x::r) (i:=a.length) underlying89 (by simp) (by omega) (by simp)
     have hr:=F3 (enc:=c9) (s:=4) C3 a x r (o:=0) (n:=4) (by omega)
     have hlt:decide ((a.length:Int) < ((a++x::r).length:Nat)) = true:=by simp;omega
     have hw:IntKind.i64.wrap ((a.length:Int) + 1) = ((a++[x]).length:Int):=by rw [J9];exact D3 (by simp at h3;omega)
     have hne:¬ 0 = hh.next:=by omega
     have hv:=fun h=>b0d x.v.kind x.v.b x.v.n h
     have hne2:¬ hh.next = 0:=by omega
     simp only [Nat.add_zero] at hr
     have hrx:sub (c9 x) 0 4 = some (c9 x):=I8 (C3 x)
     rw [hrx] at hr
     obtain ⟨xt,⟨xk,xb,xn⟩⟩:=x
     simp only [c9] at *
     by_cases t1:xt < 0
     ·have c1:decide (xt < 0) = true:=by simp [t1]
      have hB:((ls (some (a++⟨xt,⟨xk,xb,xn⟩⟩::r))).all a0Y && F9 c0v (ls (some (a++⟨xt,⟨xk,xb,xn⟩⟩::r)))) = false:=by rw [H1,j0c (by simp [a0Y,t1])];rfl
      rw [hB] at hR;subst hR
      first | (refine c7 ?_;intro Q2 hQ2) | have hQ2:=oqk
      repeat' (first
       | (replace hQ2:=hQ2;simp [hi,hr,t1])
       | (refine hQ2 _ _ _ ?_;clear hQ2 Q2;first | simp only [] | simp [i2] | skip)
       | (refine C5 (by assumption) ?_;(try clear hQ2);first | simp only [] | simp [u6,u5,p9,c5,l5,hown] | skip)
       | ((fail_if_success replace hQ2:=hQ2);(first | refine c7 ?_ | refine y5 ?_ | refine y3 ?_);intro Q2 hQ2)
       | refine dF (id:=6) [0,1,2,3,4,5,6,7,8,9,10,11,12,13,14,15,16,17,18,19,20,21,22,23,24,25,26,27,28,29] [] ?_
       | (first | apply cF | apply wN | apply wS) <;> intro hcnd <;> (try simp only [hcnd]) <;> (try simp [-List.isEmpty_iff,-List.isEmpty_eq_false_iff] at hcnd))
      all_goals omega
     ·have c1:decide (xt < 0) = false:=by simp [t1]
      by_cases t2:1099511627776 < xt
      ·have c2:decide (1099511627776 < xt) = true:=by simp [t2]
       have hB:((ls (some (a++⟨xt,⟨xk,xb,xn⟩⟩::r))).all a0Y && F9 c0v (ls (some (a++⟨xt,⟨xk,xb,xn⟩⟩::r)))) = false:=by rw [H1,j0c (by simp [a0Y,t2])];rfl
       rw [hB] at hR;subst hR
       first | (refine c7 ?_;intro Q3 hQ3) | have hQ3:=oqk
       repeat' (first
        | (replace hQ3:=hQ3;simp [hi,hr,t1,t2])
        | (refine hQ3 _ _ _ ?_;clear hQ3 Q3;first | simp only [] | simp [i2] | skip)
        | (refine C5 (by assumption) ?_;(try clear hQ3);first | simp only [] | simp [u6,u5,p9,c5,l5,hown] | skip)
        | ((fail_if_success replace hQ3:=hQ3);(first | refine c7 ?_ | refine y5 ?_ | refine y3 ?_);intro Q3 hQ3)
        | refine dF (id:=6) [0,1,2,3,4,5,6,7,8,9,10,11,12,13,14,15,16,17,18,19,20,21,22,23,24,25,26,27,28,29] [] ?_
        | (first | apply cF | apply wN | apply wS) <;> intro hcnd <;> (try simp only [hcnd]) <;> (try simp [-List.isEmpty_iff,-List.isEmpty_eq_false_iff] at hcnd))
       all_goals omega
      ·have c2:decide (1099511627776 < xt) = false:=by simp [t2]
       cases t3:Q0 ⟨xk,xb,xn⟩ with
       | false =>
        have hB:((ls (some (a++⟨xt,⟨xk,xb,xn⟩⟩::r))).all a0Y && F9 c0v (ls (some (a++⟨xt,⟨xk,xb,xn⟩⟩::r)))) = false:=by rw [H1,j0c (by simp [a0Y,t3])];rfl
        rw [hB] at hR;subst hR
        rw [t3] at hv
        first | (refine c7 ?_;intro Q4 hQ4) | have hQ4:=oqk
        repeat' (first
         | (replace hQ4:=hQ4;simp [hi,hr,t1,t2,hv])
         | (refine hQ4 _ _ _ ?_;clear hQ4 Q4;first | simp only [] | simp [i2] | skip)
         | (refine C5 (by assumption) ?_;(try clear hQ4);first | simp only [] | simp [u6,u5,p9,c5,l5,hown] | skip)
         | ((fail_if_success replace hQ4:=hQ4);(first | refine c7 ?_ | refine y5 ?_ | refine y3 ?_);intro Q4 hQ4)
         | refine dF (id:=6) [0,1,2,3,4,5,6,7,8,9,10,11,12,13,14,15,16,17,18,19,20,21,22,23,24,25,26,27,28,29] [] ?_
         | (first | apply cF | apply wN | apply wS) <;> intro hcnd <;> (try simp only [hcnd]) <;> (try simp [-List.isEmpty_iff,-List.isEmpty_eq_false_iff] at hcnd))
        all_goals omega
       | true =>
        rw [t3] at hv
        have hvx:a0Y ⟨xt,⟨xk,xb,xn⟩⟩ = true:=by simp [a0Y,t1,t2,t3]
        rcases g0q a with rfl | ⟨a',⟨yt,yv⟩,rfl⟩
        ·simp only [oql,oqc,Nat.zero_mul] at hi hr
         have hw1:IntKind.i64.wrap 1 = 1:=rfl
         first | (refine c7 ?_;intro Q5 hQ5) | have hQ5:=oqk
         repeat' (first
          | (replace hQ5:=hQ5;simp [hi,hr,t1,t2,hv,hw1])
          | (refine hQ5 _ _ _ ?_;clear hQ5 Q5;first | simp only [] | simp [i2,hi,hr,hlt,hne,hne2,c1,t1,c2,t2,hv,hw1,u6,u5,p9,s8,H8,c5,l0,l5,hown] | skip)
          | (refine C5 (by assumption) ?_;(try clear hQ5);first | simp only [] | simp [i2,hi,hr,hlt,hne,hne2,c1,t1,c2,t2,hv,hw1,u6,u5,p9,s8,H8,c5,l0,l5,hown] | skip)
          | ((fail_if_success replace hQ5:=hQ5);(first | refine c7 ?_ | refine y5 ?_ | refine y3 ?_);intro Q5 hQ5)
          | refine dF (id:=6) [0,1,2,3,4,5,6,7,8,9,10,11,12,13,14,15,16,17,18,19,20,21,22,23,24,25,26,27,28,29] [] ?_
          | (first | apply cF | apply wN | apply wS) <;> intro hcnd <;> (try simp only [hcnd]) <;> (try simp [-List.isEmpty_iff,-List.isEmpty_eq_false_iff] at hcnd))
         all_goals first | (refine ⟨⟨by simp,by simp [hne,i2],by simp [hvx],rfl⟩,s9 (by simp)⟩) | omega | rfl | trace_state
        ·have hi2:=I4 (P:=prog) (enc:=c9) (s:=4) (l:=(a'++[⟨yt,yv⟩])++⟨xt,⟨xk,xb,xn⟩⟩::r) (i:=a'.length) underlying89 (by simp) (by omega) (by simp)
         have hr2:=F3 (enc:=c9) (s:=4) C3 a' ⟨yt,yv⟩ (⟨xt,⟨xk,xb,xn⟩⟩::r) (o:=0) (n:=1) (by omega)
         have hs2:sub (c9 ⟨yt,yv⟩) 0 1 = some [ii yt]:=rfl
         rw [hs2] at hr2
         have hgt:decide ((0:Int) < (((a'++[(⟨yt,yv⟩:Version)]).length:Nat):Int)) = true:=by simp
         have hN:(a'++[(⟨yt,yv⟩:Version)]).length = a'.length + 1:=by simp
         have hsb:IntKind.i64.wrap ((((a'++[⟨yt,yv⟩]:List Version).length:Nat):Int) - 1) = (a'.length:Int):=by rw [wrap_i64 (by simp) (by simp;simp at h3;omega)];simp
         have ha:a'++[(⟨yt,yv⟩:Version)]++(⟨xt,⟨xk,xb,xn⟩⟩:Version)::r = a'++⟨yt,yv⟩::⟨xt,⟨xk,xb,xn⟩⟩::r:=by simp
         rw [← ha,Nat.add_zero] at hr2
         by_cases t4:yt ≤ xt
         ·have c4:decide (yt ≤ xt) = true:=by simp [t4]
          have hB:((ls (some (a'++[⟨yt,yv⟩]++⟨xt,⟨xk,xb,xn⟩⟩::r))).all a0Y && F9 c0v (ls (some (a'++[⟨yt,yv⟩]++⟨xt,⟨xk,xb,xn⟩⟩::r)))) = false:=by rw [H1,ha,l0V (by simp [c0v,t4])];simp
          rw [hB] at hR;subst hR
          generalize (a'++[(⟨yt,yv⟩:Version)]++(⟨xt,⟨xk,xb,xn⟩⟩:Version)::r) = L at *
          generalize (a'++[(⟨yt,yv⟩:Version)]).length = N at *
          have hg2:0 < N:=by omega
          have hg3:N < L.length:=by simpa using hlt
          first | (refine c7 ?_;intro Q6 hQ6) | have hQ6:=oqk
          repeat' (first
           | (replace hQ6:=hQ6;simp [i2,hi,hr,hne,t1,t2,hv,hsb,hi2,hr2,t4,hg2,hg3])
           | (refine hQ6 _ _ _ ?_;clear hQ6 Q6;first | simp only [] | simp [i2] | skip)
           | (refine C5 (by assumption) ?_;(try clear hQ6);first | simp only [] | simp [u6,u5,p9,c5,l5,hown] | skip)
           | ((fail_if_success replace hQ6:=hQ6);(first | refine c7 ?_ | refine y5 ?_ | refine y3 ?_);intro Q6 hQ6)
           | refine dF (id:=6) [0,1,2,3,4,5,6,7,8,9,10,11,12,13,14,15,16,17,18,19,20,21,22,23,24,25,26,27,28,29] [] ?_
           | (first | apply cF | apply wN | apply wS) <;> intro hcnd <;> (try simp only [hcnd]) <;> (try simp [-List.isEmpty_iff,-List.isEmpty_eq_false_iff] at hcnd))
          all_goals omega
         ·have c4:decide (yt ≤ xt) = false:=by simp [t4]
          have hch:F9 c0v (a'++[⟨yt,yv⟩]++[⟨xt,⟨xk,xb,xn⟩⟩]) = true:=by rw [oqh,List.singleton_append,k0H,i4];simp [c0v,t4]
          have hal:(a'++[⟨yt,yv⟩]++[⟨xt,⟨xk,xb,xn⟩⟩]:List Version).all a0Y = true:=by rw [List.all_append,i3];simp [hvx]
          generalize (a'++[(⟨yt,yv⟩:Version)]++(⟨xt,⟨xk,xb,xn⟩⟩:Version)::r) = L at *
          generalize (a'++[(⟨yt,yv⟩:Version)]++[⟨xt,⟨xk,xb,xn⟩⟩]) = A2 at *
          generalize (a'++[(⟨yt,yv⟩:Version)]).length = N at *
          have hg2:0 < N:=by omega
          have hg3:N < L.length:=by simpa using hlt
          first | (refine c7 ?_;intro Q7 hQ7) | have hQ7:=oqk
          repeat' (first
           | (replace hQ7:=hQ7;simp [i2,hi,hr,hne,t1,t2,hv,hsb,hi2,hr2,t4,hw,hg2,hg3])
           | (refine hQ7 _ _ _ ?_;clear hQ7 Q7;first | simp only [] | simp [i2,hi,hr,hlt,hne,hne2,c1,t1,c2,t2,hv,hgt,hsb,hi2,hr2,c4,t4,hw,hg2,hg3,u6,u5,p9,s8,H8,c5,l0,l5,hown] | skip)
           | (refine C5 (by assumption) ?_;(try clear hQ7);first | simp only [] | simp [i2,hi,hr,hlt,hne,hne2,c1,t1,c2,t2,hv,hgt,hsb,hi2,hr2,c4,t4,hw,hg2,hg3,u6,u5,p9,s8,H8,c5,l0,l5,hown] | skip)
           | ((fail_if_success replace hQ7:=hQ7);(first | refine c7 ?_ | refine y5 ?_ | refine y3 ?_);intro Q7 hQ7)
           | refine dF (id:=6) [0,1,2,3,4,5,6,7,8,9,10,11,12,13,14,15,16,17,18,19,20,21,22,23,24,25,26,27,28,29] [] ?_
           | (first | apply cF | apply wN | apply wS) <;> intro hcnd <;> (try simp only [hcnd]) <;> (try simp [-List.isEmpty_iff,-List.isEmpty_eq_false_iff] at hcnd))
          all_goals first | (refine ⟨⟨by simp,by simp [hne,i2],hal,hch⟩,s9 (by simp)⟩) | omega | trace_state
    ·rintro fr hh ⟨⟨i1,i2,i3,i4⟩,j,rfl⟩
     rw [i3,i4] at hR;subst hR
     first | (refine c7 ?_;intro Q8 hQ8) | have hQ8:=oqk
     repeat' (first
      | (replace hQ8:=hQ8;simp [u6])
      | (refine hQ8 _ _ _ ?_;clear hQ8 Q8;first | simp only [] | simp [u6,u5,p9,s8,H8,c5,l0,l5,hown] | skip)
      | (refine C5 (by assumption) ?_;(try clear hQ8);first | simp only [] | simp [u6,u5,p9,c5,l5,hown] | skip)
      | ((fail_if_success replace hQ8:=hQ8);(first | refine c7 ?_ | refine y5 ?_ | refine y3 ?_);intro Q8 hQ8)
      | refine dF (id:=6) [0,1,2,3,4,5,6,7,8,9,10,11,12,13,14,15,16,17,18,19,20,21,22,23,24,25,26,27,28,29] [] ?_
      | (first | apply cF | apply wN | apply wS) <;> intro hcnd <;> (try simp only [hcnd]) <;> (try simp [-List.isEmpty_iff,-List.isEmpty_eq_false_iff] at hcnd))
     all_goals first | done | (simp_all [-List.isEmpty_iff,-List.isEmpty_eq_false_iff,← List.isEmpty_iff];done) | (simp_all;done) | (simp_all;omega) | (simp;omega) | (intros;omega) | (intros;simp only [oqj] at *;omega) | (intros;simp at *;omega) | skip
   ·have b1:decide (((ls o).length:Int) < 1) = false:=by simp;omega
    have b2:decide (2 < ((ls o).length:Int)) = true:=by simp;omega
    rw [h1] at hn
    have hB:a0t ⟨n,o⟩ = false:=by simp [a0t,h1,h2,h3]
    rw [hB]
    have hown:A8 S.own 213 = false:=by kernel_rfl
    refine ⟨by simp [s7,c5,l0],fun hh=>c6 rfl rfl (by kernel_rfl) func213 rfl (by simp [Tryz.f213]) ?_⟩
    simp only [Tryz.f213]
    refine c7 ?_;intro Q9 hQ9
    repeat' (first
     | (replace hQ9:=hQ9;simp [hn,b1,b2,u6,u5,p9,c5,l5,hown])
     | refine hQ9 _ _ _ ?_
     | refine dF (id:=6) [0,1,2,3,4,5,6,7,8,9,10,11,12,13,14,15,16,17,18,19,20,21,22,23,24,25,26,27,28,29] [] ?_
     | (first | apply cF | apply wN | apply wS) <;> intro hcnd <;> (try simp only [hcnd]) <;> (try simp [-List.isEmpty_iff,-List.isEmpty_eq_false_iff] at hcnd))
  ·have b1:decide (((ls o).length:Int) < 1) = true:=by simp;omega
   rw [h1] at hn
   have hB:a0t ⟨n,o⟩ = false:=by simp [a0t,h1,h2]
   rw [hB]
   have hown:A8 S.own 213 = false:=by kernel_rfl
   refine ⟨by simp [s7,c5,l0],fun hh=>c6 rfl rfl (by kernel_rfl) func213 rfl (by simp [Tryz.f213]) ?_⟩
   simp only [Tryz.f213]
   refine c7 ?_;intro Q10 hQ10
   repeat' (first
    | (replace hQ10:=hQ10;simp [hn,b1,u6,u5,p9,c5,l5,hown])
    | refine hQ10 _ _ _ ?_
    | refine dF (id:=6) [0,1,2,3,4,5,6,7,8,9,10,11,12,13,14,15,16,17,18,19,20,21,22,23,24,25,26,27,28,29] [] ?_
    | (first | apply cF | apply wN | apply wS) <;> intro hcnd <;> (try simp only [hcnd]) <;> (try simp [-List.isEmpty_iff,-List.isEmpty_eq_false_iff] at hcnd))
 ·have h1':I6 n = false:=by simpa using h1
  rw [h1'] at hn
  have hB:a0t ⟨n,o⟩ = false:=by simp [a0t,h1']
  rw [hB]
  have hown:A8 S.own 213 = false:=by kernel_rfl
  refine ⟨by simp [s7,c5,l0],fun hh=>c6 rfl rfl (by kernel_rfl) func213 rfl (by simp [Tryz.f213]) ?_⟩
  simp only [Tryz.f213]
  refine c7 ?_;intro Q11 hQ11
  repeat' (first
   | (replace hQ11:=hQ11;simp [hn,u6,u5,p9,c5,l5,hown])
   | refine hQ11 _ _ _ ?_
   | refine dF (id:=6) [0,1,2,3,4,5,6,7,8,9,10,11,12,13,14,15,16,17,18,19,20,21,22,23,24,25,26,27,28,29] [] ?_
   | (first | apply cF | apply wN | apply wS) <;> intro hcnd <;> (try simp only [hcnd]) <;> (try simp [-List.isEmpty_iff,-List.isEmpty_eq_false_iff] at hcnd))
def SeesL (h:H):List RC→List Column→Prop
 | [],[]=>True
 | r::rs,c::cs=>(r.1 = c.name∧Sees h 4 r.2 (cat c9 (ls c.l))∧∀ b,z0 r.2 = some b→b < h.next)∧SeesL h rs cs
 | _,_=>False
structure RowSees (h:H) (s:AS) (rs:List RC) (o:Row):Prop where
 arr:Sees h 2 s (cat a0P rs)
 lt:∀ b,z0 s = some b→b < h.next
 col:SeesL h rs (ls o)
 view:∀ h',h.next ≤ h'.next→(∀ b,b < h.next→h'.f b = h.f b)→J8 h' 64 s = some (sl 2 j9 o)
theorem SeesL.len {h:H}:∀ {rs:List RC} {cs:List Column},SeesL h rs cs→rs.length = cs.length
 | [],[],_=>rfl
 | r::rs,c::cs,a=>by simp [SeesL.len a.2]
theorem SeesL.at {h:H} {rs:List RC} {cs:List Column} (a:SeesL h rs cs) (i:Nat) (hi:i < rs.length) (hi':i < cs.length):rs[i].1 = cs[i].name∧Sees h 4 rs[i].2 (cat c9 (ls cs[i].l))∧∀ b,z0 rs[i].2 = some b→b < h.next:=by
 induction rs generalizing cs i with
 | nil=>simp at hi
 | cons r rs ih =>
  cases cs with
  | nil=>exact a.elim
  | cons c cs =>
   cases i with
   | zero=>exact a.1
   | succ i=>exact ih a.2 i (by simpa using hi) (by simpa using hi')
theorem m0w (h:H):∀ cs:List Column,SeesL h (cs.map fun c=>(c.name,sl 4 c9 c.l)) cs
 | []=>trivial
 | c::cs=>⟨⟨rfl,h0m C3 h c.l,fun b hb=>by cases hc:c.l <;> simp [hc,sl,z0] at hb⟩,m0w h cs⟩
theorem o0L:∀ cs:List Column,cat a0P (cs.map fun c=>(c.name,sl 4 c9 c.l)) = cat j9 cs
 | []=>rfl
 | c::cs=>by rw [List.map_cons,U6,U6,o0L cs];rfl
theorem w0y (h:H) (o:Row):J8 h 64 (sl 2 j9 o) = some (sl 2 j9 o):=d0j (by simp) (by cases o <;> simp [sl]) (by cases o <;> simp [sl])
theorem row_sees (h:H) (o:Row):RowSees h (sl 2 j9 o) ((ls o).map fun c=>(c.name,sl 4 c9 c.l)) o where
 arr:=by rw [o0L];exact h0m N6 h o
 lt:=fun b hb=>by cases o <;> simp [sl,z0] at hb
 col:=m0w h _
 view:=fun h' _ _=>w0y h' o
theorem l0K {h:H} {lo:Nat}:∀ {rs:List RC} {cs:List Column},NestL h lo rs cs→SeesL h rs cs
 | [],[],_=>trivial
 | r::rs,c::cs,a=>⟨⟨a.1.1,a.1.2.1.sees C3,fun b hb=>(a.1.2.2.2 b hb).2⟩,l0K a.2⟩
theorem RowAt.sees {h:H} {lo:Nat} {s:AS} {rs:List RC} {o:Row} (a:RowAt h lo s rs o):RowSees h s rs o where
 arr:=a.arr.sees c0R
 lt:=fun b hb=>a.arr.lt hb
 col:=l0K a.col
 view:=fun h' hn hf=>(a.keep hn fun b hb _=>hf b hb).view 61
theorem right_g (o:Row) (ho:(ls o).length < 1000000):Fun K 172 [.agg [sl 2 j9 o]] (fun h=>.ret (.one (.bool (P3 o))) h):=by
 have hd:∀ x h,W K 213 [.agg (j9 x)] h = some (.ret (.one (.bool (a0t x))) h):=fun x h=>(w0W x).pure hp h
 have hB:P3 o = ((ls o).all a0t && F9 d0X (ls o) && decide ((ls o).length ≤ 4)):=rfl
 obtain ⟨R,hR⟩:∃ R,P3 o = R:=⟨_,rfl⟩
 rw [hR]
 have hown:A8 S.own 172 = false:=by kernel_rfl
 refine ⟨by simp [s7,l0],fun hh=>c6 rfl rfl (by kernel_rfl) func172 rfl (by simp [Tryz.f172]) ?_⟩
 simp only [Tryz.f172]
 refine c7 ?_;intro Q1 hQ1
 repeat' (first
  | (replace hQ1:=hQ1;simp [u6])
  | refine hQ1 _ _ _ ?_
  | refine dF (id:=4) [0,1,2,3,4,5,6,7,8,9,10,11,12,13,14,15,16,17,18] [] ?_)
 refine D5 hp (ls o) (fun a r fr hh=>(0 < hh.next∧hh.f 0 = some ⟨0,[1],true,[sl 2 j9 o]⟩∧a.all a0t = true∧F9 d0X a = true)∧∃ j:Nat→AV,fr = (j 0::(.one (.ptr 0 0 0))::(.one (.bool false))::j 3::j 4::j 5::(.one (sl 2 j9 o))::(.one (ii (ls o).length))::(.one (ii a.length))::j 9::j 10::j 11::j 12::j 13::j 14::j 15::j 16::j 17::j 18::j 19::j 20::j 21::j 22::j 23::j 24::j 25::j 26::j 27::j 28::j 29::j 30::j 31::j 32::j 33::j 34::j 35::j 36::[])) ?_ ?_ _ _ ⟨⟨by simp,by simp,rfl,rfl⟩,s9 rfl⟩
 ·rintro a x r fr hh hl ⟨⟨i1,i2,i3,i4⟩,j,rfl⟩
  obtain rfl:=O9 hl
  have hi:=I4 (P:=prog) (enc:=j9) (s:=2) (l:=a++x::r) (i:=a.length) underlying79 (by simp) (by omega) (by simp)
  have hr:=F3 (enc:=j9) (s:=2) N6 a x r (o:=0) (n:=2) (by omega)
  have hlt:decide ((a.length:Int) < ((a++x::r).length:Nat)) = true:=by simp;omega
  have hw:IntKind.i64.wrap ((a.length:Int) + 1) = ((a++[x]).length:Int):=by rw [J9];exact D3 (by simp at ho;omega)
  have hne:¬ 0 = hh.next:=by omega
  have hne2:¬ hh.next = 0:=by omega
  have hx:=hd x
  simp only [Nat.add_zero] at hr
  have hrx:sub (j9 x) 0 2 = some (j9 x):=I8 (N6 x)
  rw [hrx] at hr
  obtain ⟨xn,xl⟩:=x
  have hlt2:a.length < (a++(⟨xn,xl⟩:Column)::r).length:=by simp
  simp only [j9] at *
  cases hv:a0t ⟨xn,xl⟩ with
  | false =>
   have hB:P3 (some (a++⟨xn,xl⟩::r)) = false:=by rw [hB,H1,j0c hv];rfl
   rw [hB] at hR;subst hR
   rw [hv] at hx
   generalize (a++(⟨xn,xl⟩:Column)::r) = L at *
   first | (refine c7 ?_;intro Q2 hQ2) | have hQ2:=oqk
   repeat' (first
    | (replace hQ2:=hQ2;simp [hi,hr,hlt2,hx])
    | (refine hQ2 _ _ _ ?_;clear hQ2 Q2;first | simp only [] | simp [i2] | skip)
    | (refine C5 (by assumption) ?_;(try clear hQ2);first | simp only [] | simp [u6,u5,p9,c5,l5,hown] | skip)
    | ((fail_if_success replace hQ2:=hQ2);(first | refine c7 ?_ | refine y5 ?_ | refine y3 ?_);intro Q2 hQ2)
    | refine dF (id:=4) [0,1,2,3,4,5,6,7,8,9,10,11,12,13,14,15,16,17,18] [] ?_)
  | true =>
   rw [hv] at hx
   rcases g0q a with rfl | ⟨a',⟨yn,yl⟩,rfl⟩
   ·simp only [oql,oqc,Nat.zero_mul] at hi hr hlt2
    have hw1:IntKind.i64.wrap 1 = 1:=rfl
    generalize hL:((⟨xn,xl⟩:Column)::r) = L at *
    first | (refine c7 ?_;intro Q3 hQ3) | have hQ3:=oqk
    repeat' (first
     | (replace hQ3:=hQ3;simp [hi,hr,hlt2,hx,hw1])
     | (refine hQ3 _ _ _ ?_;clear hQ3 Q3;first | simp only [] | simp [i2,hi,hr,hlt2,hne,hne2,hx,hw1,u6,u5,p9,s8,H8,c5,l0,l5,hown] | skip)
     | (refine C5 (by assumption) ?_;(try clear hQ3);first | simp only [] | simp [i2,hi,hr,hlt2,hne,hne2,hx,hw1,u6,u5,p9,s8,H8,c5,l0,l5,hown] | skip)
     | ((fail_if_success replace hQ3:=hQ3);(first | refine c7 ?_ | refine y5 ?_ | refine y3 ?_);intro Q3 hQ3)
     | refine dF (id:=4) [0,1,2,3,4,5,6,7,8,9,10,11,12,13,14,15,16,17,18] [] ?_)
    all_goals first | (refine ⟨⟨by simp,by simp [hne,i2],by simp [hv],rfl⟩,s9 (by simp)⟩) | trace_state
   ·have hi2:=I4 (P:=prog) (enc:=j9) (s:=2) (l:=(a'++[⟨yn,yl⟩])++⟨xn,xl⟩::r) (i:=a'.length) underlying79 (by simp) (by omega) (by simp)
    have hr2:=F3 (enc:=j9) (s:=2) N6 a' ⟨yn,yl⟩ (⟨xn,xl⟩::r) (o:=0) (n:=1) (by omega)
    have hs2:sub (j9 ⟨yn,yl⟩) 0 1 = some [.str yn]:=rfl
    rw [hs2] at hr2
    have hN:(a'++[(⟨yn,yl⟩:Column)]).length = a'.length + 1:=by simp
    have hsb:IntKind.i64.wrap ((((a'++[⟨yn,yl⟩]:List Column).length:Nat):Int) - 1) = (a'.length:Int):=by rw [wrap_i64 (by simp) (by simp;simp at ho;omega)];simp
    have ha:a'++[(⟨yn,yl⟩:Column)]++(⟨xn,xl⟩:Column)::r = a'++⟨yn,yl⟩::⟨xn,xl⟩::r:=by simp
    rw [← ha,Nat.add_zero] at hr2
    have hch:F9 d0X (a'++[⟨yn,yl⟩]++[⟨xn,xl⟩]) = (F9 d0X (a'++[⟨yn,yl⟩]) && blt yn xn):=by rw [oqh,List.singleton_append,k0H];rfl
    have hal:(a'++[⟨yn,yl⟩]++[⟨xn,xl⟩]:List Column).all a0t = true:=by rw [List.all_append,i3];simp [hv]
    cases hy:Op.bytesLess yn xn with
    | false =>
     have hB:P3 (some (a'++[⟨yn,yl⟩]++⟨xn,xl⟩::r)) = false:=by rw [hB,H1,ha,l0V (show d0X ⟨yn,yl⟩ ⟨xn,xl⟩ = false from hy)];simp
     rw [hB] at hR;subst hR
     generalize (a'++[(⟨yn,yl⟩:Column)]++(⟨xn,xl⟩:Column)::r) = L at *
     generalize (a'++[(⟨yn,yl⟩:Column)]).length = N at *
     have hg2:0 < N:=by omega
     first | (refine c7 ?_;intro Q4 hQ4) | have hQ4:=oqk
     repeat' (first
      | (replace hQ4:=hQ4;simp [i2,hi,hr,hlt2,hne,hx,hsb,hi2,hr2,J7,hy,hg2])
      | (refine hQ4 _ _ _ ?_;clear hQ4 Q4;first | simp only [] | simp [i2] | skip)
      | (refine C5 (by assumption) ?_;(try clear hQ4);first | simp only [] | simp [u6,u5,p9,c5,l5,hown] | skip)
      | ((fail_if_success replace hQ4:=hQ4);(first | refine c7 ?_ | refine y5 ?_ | refine y3 ?_);intro Q4 hQ4)
      | refine dF (id:=4) [0,1,2,3,4,5,6,7,8,9,10,11,12,13,14,15,16,17,18] [] ?_)
    | true =>
     rw [i4,show blt yn xn = true from hy] at hch
     generalize (a'++[(⟨yn,yl⟩:Column)]++(⟨xn,xl⟩:Column)::r) = L at *
     generalize (a'++[(⟨yn,yl⟩:Column)]++[(⟨xn,xl⟩:Column)]) = A2 at *
     generalize (a'++[(⟨yn,yl⟩:Column)]).length = N at *
     have hg2:0 < N:=by omega
     first | (refine c7 ?_;intro Q5 hQ5) | have hQ5:=oqk
     repeat' (first
      | (replace hQ5:=hQ5;simp [i2,hi,hr,hlt2,hne,hx,hsb,hi2,hr2,J7,hy,hg2,hw])
      | (refine hQ5 _ _ _ ?_;clear hQ5 Q5;first | simp only [] | simp [i2,hi,hr,hlt2,hne,hne2,hx,hsb,hi2,hr2,J7,hy,hg2,hw,u6,u5,p9,s8,H8,c5,l0,l5,hown] | skip)
      | (refine C5 (by assumption) ?_;(try clear hQ5);first | simp only [] | simp [i2,hi,hr,hlt2,hne,hne2,hx,hsb,hi2,hr2,J7,hy,hg2,hw,u6,u5,p9,s8,H8,c5,l0,l5,hown] | skip)
      | ((fail_if_success replace hQ5:=hQ5);(first | refine c7 ?_ | refine y5 ?_ | refine y3 ?_);intro Q5 hQ5)
      | refine dF (id:=4) [0,1,2,3,4,5,6,7,8,9,10,11,12,13,14,15,16,17,18] [] ?_)
     all_goals first | (refine ⟨⟨by simp,by simp [hne,i2],hal,hch⟩,s9 (by simp)⟩) | trace_state
 ·rintro fr hh ⟨⟨i1,i2,i3,i4⟩,j,rfl⟩
  have h4:decide (((ls o).length:Int) ≤ 4) = decide ((ls o).length ≤ 4):=by rw [decide_eq_decide];omega
  have h5:(((ls o).length:Int) ≤ 4) = ((ls o).length ≤ 4):=by apply propext;omega
  rw [hB,i3,i4] at hR
  simp only [Bool.true_and] at hR
  subst hR
  first | (refine c7 ?_;intro Q6 hQ6) | have hQ6:=oqk
  repeat' (first
   | (replace hQ6:=hQ6;simp [i2,h5])
   | (refine hQ6 _ _ _ ?_;clear hQ6 Q6;first | simp only [] | simp [i2,h4,h5,u6,u5,p9,s8,H8,c5,l0,l5,hown] | skip)
   | (refine C5 (by assumption) ?_;(try clear hQ6);first | simp only [] | simp [u6,u5,p9,c5,l5,hown] | skip)
   | ((fail_if_success replace hQ6:=hQ6);(first | refine c7 ?_ | refine y5 ?_ | refine y3 ?_);intro Q6 hQ6)
   | refine dF (id:=4) [0,1,2,3,4,5,6,7,8,9,10,11,12,13,14,15,16,17,18] [] ?_)
  all_goals first | done | (simp_all [-List.isEmpty_iff,-List.isEmpty_eq_false_iff,← List.isEmpty_iff];done) | (simp_all;done) | (simp_all;omega) | (simp;omega) | (intros;omega) | (intros;simp only [oqj] at *;omega) | (intros;simp at *;omega) | skip
theorem sees_keep {h h':H} {size:Nat} {a:AS} {cells:List AS} (hs:Sees h size a cells) (hk:∀ b,z0 a = some b→h'.f b = h.f b):Sees h' size a cells:=by
 cases a <;> simp only [Sees] at hs ⊢
 ·exact hs
 ·refine ⟨hs.1, ?_⟩
  have:=hs.2
  simp only [H4] at this ⊢
  rw [hk _ rfl];exact this
 all_goals exact hs
theorem right_s {h:H} {s:AS} {rs:List RC} {o:Row} (w:RowSees h s rs o) (ho:(ls o).length < 1000000) {h':H} (hn:h.next ≤ h'.next) (hf:∀ b,b < h.next→h'.f b = h.f b):W K 172 [.agg [s]] h' = some (.ret (.one (.bool (P3 o))) h'):=by
 by_cases hp':([AV.agg [s]]).all s7 = true
 ·have hv:a0W h' [.agg [s]] = some [.agg [s]]:=by unfold a0W;rw [if_pos hp']
  have hs:=w.view h' hn hf
  have e:s = sl 2 j9 o:=by
   cases s with
   | nilslc=>simp [J8,c5] at hs;exact hs
   | vs n k cells =>
    simp only [List.all_cons,List.all_nil,s7,l0,Bool.and_true] at hp'
    simp only [J8,hp',if_true,oqI] at hs;exact hs
   | slc b v o n k c=>simp [s7,l0,c5] at hp'
   | _=>have:=w.arr;simp [Sees] at this
  rw [e]
  exact (right_g o ho).pure hp h'
 ·refine (right_g o ho).view hp ?_
  unfold a0W
  rw [if_neg hp']
  simp only [List.mapM_cons,List.mapM_nil,c0o,w.view h' hn hf,oqE,oqS,oqP]
theorem colB_inv {c:Column} (h:a0t c = true):(ls c.l).length ≤ 2∧ls c.l ≠ []∧∀ v ∈ ls c.l,a0Y v = true:=by
 simp only [a0t,oqd,oqj] at h
 exact ⟨h.1.2.2,fun e=>by have:=h.1.2.1;rw [e] at this;simp at this,oqn.1 h.2.1⟩
theorem u0X {v:Version} (h:a0Y v = true):v.v.kind = 1→(ls v.v.b).length ≤ 1099511627776:=by
 intro hk
 simp only [a0Y,Q0,hk,oqd,beq_self_eq_true,Bool.true_and,Bool.or_eq_true,oqj,d0E] at h
 rcases h.2.2 with h | h
 ·omega
 ·simp at h
theorem copy_c {h:H} {s:AS} {rs:List RC} {o:Row} (w:RowSees h s rs o) (ho:(ls o).length < 1000000) :
  ∃ r,W K 166 [.agg [s]] h = some r∧Rets (fun v h'=>∃ s' rs',v = .agg [s']∧RowAt h' h.next s' rs' (rowCopy o)∧h.next ≤ h'.next∧∀ b,b < h.next→h'.f b = h.f b) r:=by
 refine Rets.intro fun P hP=>?_
 have hR:∀ k1 k2 k3,W K 172 [.agg [s]] (((h.new k1).new k2).new k3) = some (.ret (.one (.bool (P3 o))) (((h.new k1).new k2).new k3)):=fun k1 k2 k3=>right_s w ho (by simp;omega) (fun b hb=>by rw [K9,if_neg (by simp;omega),K9,if_neg (by simp;omega),K9,if_neg (by omega)])
 cases hB:P3 o with
 | false =>
  have e1:rowCopy o = none:=by rw [rowCopy,hB];rfl
  rw [e1] at hP
  rw [hB] at hR
  refine H6 hp rfl rfl rfl func166 rfl (by simp [Tryz.f166]) ?_
  simp only [Tryz.f166]
  refine c7 ?_;intro Q1 hQ1
  repeat' (first
   | (replace hQ1:=hQ1;simp [hR])
   | refine hQ1 _ _ _ ?_
   | refine dF (id:=11) [0,1,2,3,4,5,6,7,8,9,10,11] [(1,6),(3,6)] ?_)
  exact hP _ _ ⟨_,[],rfl,⟨.inl ⟨rfl,rfl⟩,by simp,by simp [z0],trivial,by simp⟩,by simp;omega,fun b hb=>by simp [hb,A0T,B0r,F0m]⟩
 | true =>
  have e1:rowCopy o = nz ((ls o).map S3):=by rw [rowCopy,hB];rfl
  rw [e1] at hP
  rw [hB] at hR
  have hall:(ls o).all a0t = true:=by simp only [P3,oqd] at hB;exact hB.1.1
  have hcl:=z7 c0R rs
  have hrl:=w.col.len
  have hla:∀ (u:TypeId) (h':H),O7 s (some (.slice u)) h' = some (one (ii (ls o).length) h'):=fun u h'=>by rw [O4 h' u w.arr (by omega) hcl,hrl]
  refine H6 hp rfl rfl rfl func166 rfl (by simp [Tryz.f166]) ?_
  simp only [Tryz.f166]
  refine c7 ?_;intro Q2 hQ2
  repeat' (first
   | (replace hQ2:=hQ2;simp [hR,hla])
   | refine hQ2 _ _ _ ?_
   | refine dF (id:=11) [0,1,2,3,4,5,6,7,8,9,10,11] [(1,6),(3,6)] ?_)
  refine D5 hp (ls o) (fun a r fr hh=>(h.next + 1 + 1 + 1 ≤ hh.next∧(∀ b,b < h.next→hh.f b = h.f b)∧hh.f (h.next + 1) = some ⟨0,[1],true,[.nilslc]⟩∧∃ s1 rs1,hh.f (h.next + 1 + 1) = some ⟨0,[1],true,[s1]⟩∧rs1.length = a.length∧RowAt hh (h.next + 1 + 1 + 1) s1 rs1 (nz (a.map S3)))∧∃ j:Nat→AV,fr = (j 0::(.one (.ptr h.next 0 0))::(.one (.ptr (h.next + 1) 0 0))::(.one (.ptr (h.next + 1 + 1) 0 0))::j 4::j 5::j 6::j 7::j 8::j 9::j 10::j 11::j 12::j 13::(.one s)::(.one (ii (ls o).length))::(.one (ii a.length))::j 17::j 18::j 19::j 20::j 21::j 22::j 23::j 24::j 25::j 26::j 27::j 28::j 29::j 30::j 31::j 32::j 33::j 34::j 35::j 36::j 37::j 38::j 39::j 40::j 41::j 42::j 43::j 44::j 45::j 46::j 47::j 48::j 49::[])) ?_ ?_ _ _ ⟨⟨by simp,fun b hb=>by simp [hb,A0T,B0r,F0m],by simp,.nilslc,[],by simp,rfl,⟨.inl ⟨rfl,rfl⟩,by simp,by simp [z0],trivial,by simp⟩⟩,s9 rfl⟩
  ·rintro a x r fr hh hl ⟨⟨i1,i2,i3,s1,rs1,i4,i5,i6⟩,j,rfl⟩
   have hil:a.length < (ls o).length:=by rw [hl];simp
   have hir:a.length < rs.length:=by omega
   have hxe:(ls o)[a.length] = x:=by simp only [hl];simp
   have hsee:Sees hh 2 s (cat a0P rs):=sees_keep w.arr fun b hb=>i2 b (w.lt b hb)
   have hix:S6 prog 79 s a.length = some (atS 2 s a.length):=W5 underlying79 (by simp) hsee (by omega) hcl hir
   have hrd:H4 hh (atS 2 s a.length) 2 = some (a0P rs[a.length]):=by rw [Y9 hsee (by omega) hcl hir,c0J c0R rs hir]
   obtain ⟨hc1,hc2,hc3⟩:=w.col.at a.length hir hil
   rw [hxe] at hc1 hc2
   have hxb:=oqn.1 hall x (by rw [hl];simp)
   obtain ⟨hx1,hx2,hx3⟩:=colB_inv hxb
   generalize hsv:rs[a.length] = rv at *
   obtain ⟨rn,sv⟩:=rv
   simp only at hc1 hc2 hc3
   subst hc1
   obtain ⟨xn,xl⟩:=x
   simp only at hc2 hx1 hx2 hx3
   have hvl:=z7 C3 (ls xl)
   have hla2:∀ (u:TypeId) (h':H),O7 sv (some (.slice u)) h' = some (one (ii (ls xl).length) h'):=fun u h'=>O4 h' u hc2 (by omega) hvl
   have hlt:decide ((a.length:Int) < (ls o).length) = true:=by simp;omega
   have hlt2:a.length < (ls o).length:=hil
   have hw:IntKind.i64.wrap ((a.length:Int) + 1) = ((a++[(⟨xn,xl⟩:Column)]).length:Int):=by rw [J9];exact D3 (by omega)
   generalize hA2:(a++[(⟨xn,xl⟩:Column)]) = A2 at *
   first | (refine c7 ?_;intro Q3 hQ3) | have hQ3:=oqk
   repeat' (first
    | (replace hQ3:=hQ3;simp [hix,hrd,hlt2,hla2])
    | (refine hQ3 _ _ _ ?_;clear hQ3 Q3;first | simp only [] | simp [hix,hrd,hlt,hlt2,hla2] | skip)
    | (refine C5 (by assumption) ?_;(try clear hQ3);first | simp only [] | simp [hix,hrd,hlt,hlt2,hla2] | skip)
    | ((fail_if_success replace hQ3:=hQ3);(first | refine c7 ?_ | refine y5 ?_ | refine y3 ?_);intro Q3 hQ3)
    | refine dF (id:=11) [0,1,2,3,4,5,6,7,8,9,10,11] [(1,6),(3,6)] ?_)
   obtain ⟨hb1,hB1⟩:∃ k,k = (⟨0,[2],true,[.str xn,sv]⟩:Blk):=⟨_,rfl⟩
   refine D5 hp (ls xl) (fun a2 r2 fr hh2=>(hh.next + 1 + 1 ≤ hh2.next∧(∀ b,b < hh.next→hh2.f b = hh.f b)∧∃ s2,hh2.f (hh.next + 1) = some ⟨0,[2],true,[.str xn,s2]⟩∧Sl hh2 4 c9 s2 (a2.map X7)∧(s2 = .nilslc ↔ a2 = [])∧∀ b,z0 s2 = some b→hh.next + 1 + 1 ≤ b)∧∃ j:Nat→AV,fr = (j 0::(.one (.ptr h.next 0 0))::(.one (.ptr (h.next + 1) 0 0))::(.one (.ptr (h.next + 1 + 1) 0 0))::j 4::j 5::(.one (.ptr (hh.next + 1) 0 0))::j 7::j 8::j 9::j 10::j 11::j 12::j 13::(.one s)::(.one (ii (ls o).length))::(.one (ii a.length))::j 17::j 18::j 19::j 20::j 21::j 22::j 23::(.one sv)::(.one (ii (ls xl).length))::(.one (ii a2.length))::j 27::j 28::j 29::j 30::j 31::j 32::j 33::j 34::j 35::j 36::j 37::j 38::j 39::j 40::j 41::j 42::j 43::j 44::j 45::j 46::j 47::j 48::j 49::[])) ?_ ?_ _ _ ⟨⟨by simp,fun b hb=>by simp [hb,A0T,B0r],.nilslc,by simp,.inl ⟨rfl,rfl⟩,by simp,by simp [z0]⟩,s9 (by simp)⟩
   ·rintro a2 y r2 fr hh2 hl2 ⟨⟨j1,j2,s2,j3,j4,j5,j6⟩,j,rfl⟩
    have hyl:a2.length < (ls xl).length:=by rw [hl2];simp
    have hye:(ls xl)[a2.length] = y:=by simp only [hl2];simp
    have hsee2:Sees hh2 4 sv (cat c9 (ls xl)):=sees_keep hc2 fun b hb=>by have:=hc3 b hb;rw [j2 b (by omega),i2 b this]
    have hix2:S6 prog 89 sv a2.length = some (atS 4 sv a2.length):=W5 underlying89 (by simp) hsee2 (by omega) hvl hyl
    have hrd2:H4 hh2 (atS 4 sv a2.length) 4 = some (c9 y):=by rw [Y9 hsee2 (by omega) hvl hyl,c0J C3 _ hyl,hye]
    have hyb:=u0X (hx3 y (by rw [hl2];simp))
    obtain ⟨yt,⟨yk,yb,yn⟩⟩:=y
    have hcan:=fun h=>g0r yk yb yn hyb h
    have hlt3:a2.length < (ls xl).length:=hyl
    have hw2:IntKind.i64.wrap ((a2.length:Int) + 1) = ((a2++[(⟨yt,⟨yk,yb,yn⟩⟩:Version)]).length:Int):=by rw [J9];exact D3 (by omega)
    have hmap:(a2++[(⟨yt,⟨yk,yb,yn⟩⟩:Version)]).map X7 = a2.map X7++[X7 ⟨yt,⟨yk,yb,yn⟩⟩]:=by simp
    have hve:c9 (X7 ⟨yt,⟨yk,yb,yn⟩⟩) = ii yt::V3 (J4 ⟨yk,yb,yn⟩):=rfl
    have j4':Sl ((hh2.new ⟨0,[4],true,c9 ⟨yt,⟨yk,yb,yn⟩⟩⟩).new ⟨0,[4],true,c9 (X7 ⟨yt,⟨yk,yb,yn⟩⟩)⟩) 4 c9 s2 (a2.map X7):=j4.keep (by simp;omega) fun b hb=>by
     have:=j4.lt hb
     rw [u4 (by simp;omega),u4 (by omega)]
    obtain ⟨s3,h3,e3,⟨b3,v3,z3,hs3,ar3⟩,k1,k2,k3⟩:=N9 (P:=prog) (t:=89) underlying89 (by simp) (by simp) Tryz.bytes93 (by omega) C3 (a:=.slc (hh2.next + 1) 0 0 1 4 none) (m:=[X7 ⟨yt,⟨yk,yb,yn⟩⟩]) j4' rfl (by simp [B8,cat,hve,V3,sub]) (by simp) (by simp only [oqi,oqb,oqc,Nat.zero_add,J6];omega)
    simp only [A1] at k1 k2 k3
    have hs2:z0 s2 ≠ some (hh.next + 1):=fun e=>by have:=j6 _ e;omega
    have hf3:h3.f (hh.next + 1) = some ⟨0,[2],true,[.str xn,s2]⟩:=by
     rw [k2 _ (by omega) hs2]
     rw [u4 (by simp;omega),u4 (by omega)];exact j3
    have hA0:(a2++[(⟨yt,⟨yk,yb,yn⟩⟩:Version)]) ≠ []:=by simp
    generalize hA3:(a2++[(⟨yt,⟨yk,yb,yn⟩⟩:Version)]) = A3 at *
    simp only [c9,V3,X7] at *
    have hne1:¬ hh.next + 1 = hh2.next:=by omega
    have hne2:¬ hh.next + 1 = hh2.next + 1:=by omega
    first | (refine c7 ?_;intro Q4 hQ4) | have hQ4:=oqk
    repeat' (first
     | (replace hQ4:=hQ4;simp [hix2,hrd2,hlt3,j3,hcan,e3,hf3,hw2,hne1])
     | (refine hQ4 _ _ _ ?_;clear hQ4 Q4;first | simp only [] | simp [hix2,hrd2,hlt3,j3,hcan,e3,hf3,hw2,hne1,hne2] | skip)
     | (refine C5 (by assumption) ?_;(try clear hQ4);first | simp only [] | simp [hix2,hrd2,hlt3,j3,hcan,e3,hf3,hw2,hne1,hne2] | skip)
     | ((fail_if_success replace hQ4:=hQ4);(first | refine c7 ?_ | refine y5 ?_ | refine y3 ?_);intro Q4 hQ4)
     | refine dF (id:=11) [0,1,2,3,4,5,6,7,8,9,10,11] [(1,6),(3,6)] ?_)
    refine ⟨⟨by simp;omega,fun b hb=>?_,s3,by simp,.inr ⟨b3,v3,z3,by rw [hs3,hmap], ?_⟩, ?_,fun b hb=>?_⟩,s9 (by simp)⟩
    ·rw [p0,if_neg (by omega),k2 b (by omega) (fun e=>by have:=j6 b e;omega),u4 (by simp;omega),u4 (by omega)];exact j2 b hb
    ·rw [hmap]
     refine ar3.keep (by simp) ?_
     rw [p0,if_neg]
     rintro rfl
     rcases k3 _ (by rw [hs3];rfl) with e | e
     ·exact hs2 e
     ·omega
    ·rw [hs3];simp [hA0]
    ·rcases k3 b hb with e | e
     ·exact j6 b e
     ·omega
   ·rintro fr hh2 ⟨⟨j1,j2,s2,j3,j4,j5,j6⟩,j,rfl⟩
    have f42:hh2.f (h.next + 1 + 1) = some ⟨0,[1],true,[s1]⟩:=by rw [j2 _ (by omega)];exact i4
    have hcol:ColAt hh2 hh.next (xn,s2) (S3 ⟨xn,xl⟩):=⟨rfl,by simp only [S3,a0d];exact j4,by rw [j5];simp only [S3];rw [f0Z (by simpa using hx2)];simp [hx2],fun b hb=>⟨by have:=j6 b hb;omega,j4.lt hb⟩⟩
    obtain ⟨s4,h4,e4,w4,k1,k2,k3⟩:=i6.push (P:=prog) (t:=79) underlying79 (by simp) (by simp) Tryz.bytes91 (by omega) (by omega) (fun b hb _=>j2 b hb) hcol (by simp only [J6];omega)
    have hs1:z0 s1 ≠ some (h.next + 1 + 1):=fun e=>by have:=(i6.own _ e).1;omega
    have f43:h4.f (h.next + 1 + 1) = some ⟨0,[1],true,[s1]⟩:=by rw [k2 _ (by omega) hs1,u4 (by omega)];exact f42
    have hmap:nz (A2.map S3) = some (ls (nz (a.map S3))++[S3 ⟨xn,xl⟩]):=by rw [← hA2];simp [f0Z]
    have hlo4:∀ b,z0 s4 = some b→b ≠ h.next + 1 + 1:=by
     rintro b hb rfl
     rcases k3 _ hb with e | e
     ·exact hs1 e
     ·omega
    have hA2l:A2.length = a.length + 1:=by rw [← hA2];simp
    first | (refine c7 ?_;intro Q5 hQ5) | have hQ5:=oqk
    repeat' (first
     | (replace hQ5:=hQ5;simp [j3,f42,e4,f43])
     | (refine hQ5 _ _ _ ?_;clear hQ5 Q5;first | simp only [] | simp [hw] | skip)
     | (refine C5 (by assumption) ?_;(try clear hQ5);first | simp only [] | simp [j3,f42,e4,f43,hw] | skip)
     | ((fail_if_success replace hQ5:=hQ5);(first | refine c7 ?_ | refine y5 ?_ | refine y3 ?_);intro Q5 hQ5)
     | refine dF (id:=11) [0,1,2,3,4,5,6,7,8,9,10,11] [(1,6),(3,6)] ?_)
    refine ⟨⟨by simp;omega,fun b hb=>?_, ?_,s4,rs1++[(xn,s2)],by simp, ?_, ?_⟩,s9 (by simp)⟩
    ·rw [p0,if_neg (by omega),k2 b (by omega) (fun e=>by have:=(i6.own b e).1;omega),u4 (by omega),j2 b (by omega)];exact i2 b hb
    ·rw [p0,if_neg (by omega),k2 _ (by omega) (fun e=>by have:=(i6.own _ e).1;omega),u4 (by omega),j2 _ (by omega)];exact i3
    ·simp [i5,hA2l]
    ·rw [hmap]
     refine w4.keep (by simp) fun b hb hx=>?_
     rw [p0,if_neg]
     rintro rfl
     rcases hx with e | e
     ·exact hlo4 _ e rfl
     ·have:=(w4.col.lt _ e).1;omega
  ·rintro fr hh ⟨⟨i1,i2,i3,s1,rs1,i4,i5,i6⟩,j,rfl⟩
   first | (refine c7 ?_;intro Q6 hQ6) | have hQ6:=oqk
   repeat' (first
    | (replace hQ6:=hQ6;simp [i3,i4])
    | (refine hQ6 _ _ _ ?_;clear hQ6 Q6;first | simp only [] | simp [i3,i4] | skip)
    | (refine C5 (by assumption) ?_;(try clear hQ6);first | simp only [] | simp [i3] | skip)
    | ((fail_if_success replace hQ6:=hQ6);(first | refine c7 ?_ | refine y5 ?_ | refine y3 ?_);intro Q6 hQ6)
    | refine dF (id:=11) [0,1,2,3,4,5,6,7,8,9,10,11] [(1,6),(3,6)] ?_)
   exact hP _ _ ⟨s1,rs1,rfl,(i6.keep (by simp) fun b hb hx=>by rw [p0,if_neg];rintro rfl;rcases hx with e | e;{ have:=(i6.own _ e).1;omega };{ have:=(i6.col.lt _ e).1;omega }) |>.weaken (by omega),by simp;omega,fun b hb=>by rw [p0,if_neg (by omega)];exact i2 b hb⟩
theorem cmpS_c (a b:BL) (h:H):W K 64 [.one (.str a),.one (.str b)] h = some (.ret (.one (ii (X6 a b))) h):=by
 have hn:∀ a h,W K 105 [.one (.str a)] h = some (.ret (.one (.bool false)) h):=by
  intro a h
  have he:(a == a) = true:=by simp
  have hown:A8 S.own 105 = false:=by kernel_rfl
  refine p7 hp (by simp [s7,c5]) (c6 rfl rfl (by kernel_rfl) func105 rfl (by simp [Tryz.f105]) ?_)
  simp only [Tryz.f105]
  refine c7 ?_;intro Q1 hQ1
  repeat' (first
   | (replace hQ1:=hQ1;simp [J7])
   | (refine hQ1 _ _ _ ?_;clear hQ1 Q1;first | simp only [] | simp [u6,u5,p9,c5,l5,hown]))
  all_goals first | done | (simp_all [-List.isEmpty_iff,-List.isEmpty_eq_false_iff,← List.isEmpty_iff];done) | (simp_all;done) | (simp_all;omega) | (simp;omega) | (intros;omega) | (intros;simp only [oqj] at *;omega) | (intros;simp at *;omega) | skip
 cases h1:Op.bytesLess a b with
 | true =>
  have e:X6 a b = -1:=by simp [X6,h1]
  rw [e]
  have hown:A8 S.own 64 = false:=by kernel_rfl
  refine p7 hp (by simp [s7,c5]) (c6 rfl rfl (by kernel_rfl) func64 rfl (by simp [Tryz.f64]) ?_)
  simp only [Tryz.f64]
  refine c7 ?_;intro Q2 hQ2
  repeat' (first
   | (replace hQ2:=hQ2;simp [hn,J7,h1,u6,u5,p9,c5,l5,hown])
   | refine hQ2 _ _ _ ?_)
 | false =>
  cases h2:Op.bytesLess b a with
  | true =>
   have hne:(a == b) = false:=by simp;rintro rfl;rw [h1] at h2;cases h2
   have e:X6 a b = 1:=by simp [X6,h1,hne]
   rw [e]
   have hne2:¬ a = b:=by simpa using hne
   have hown:A8 S.own 64 = false:=by kernel_rfl
   refine p7 hp (by simp [s7,c5]) (c6 rfl rfl (by kernel_rfl) func64 rfl (by simp [Tryz.f64]) ?_)
   simp only [Tryz.f64]
   refine c7 ?_;intro Q3 hQ3
   repeat' (first
    | (replace hQ3:=hQ3;simp [hn,J7,h1,hne,u6,u5,p9,c5,l5,hown])
    | refine hQ3 _ _ _ ?_)
  | false =>
   have e0:=a0F h1 h2
   subst e0
   have e:X6 a a = 0:=by simp [X6,h1]
   rw [e]
   have hown:A8 S.own 64 = false:=by kernel_rfl
   refine p7 hp (by simp [s7,c5]) (c6 rfl rfl (by kernel_rfl) func64 rfl (by simp [Tryz.f64]) ?_)
   simp only [Tryz.f64]
   refine c7 ?_;intro Q4 hQ4
   repeat' (first
    | (replace hQ4:=hQ4;simp [hn,J7,h1,u6,u5,p9,c5,l5,hown])
    | refine hQ4 _ _ _ ?_)
theorem d0n (a b:BL):X6 a b < 0 ↔ blt a b = true:=by
 unfold X6 blt
 cases h:Op.bytesLess a b <;> simp
 split <;> simp
theorem m0R (a b:BL):(X6 a b == 0) = (a == b):=by
 unfold X6
 cases h:Op.bytesLess a b with
 | true =>
  have:(a == b) = false:=by simp;rintro rfl;rw [X9] at h;cases h
  simp [this]
 | false=>cases h2:(a == b) <;> simp
theorem y0Y (c:Column) (n:BL) (h:H):W K 267 [.agg (j9 c),.one (.str n)] h = some (.ret (.one (ii (X6 c.name n))) h):=by
 obtain ⟨cn,cl⟩:=c
 have hc:=cmpS_c cn n
 simp only [j9]
 have hown:A8 S.own 267 = false:=by kernel_rfl
 refine p7 hp (by simp [s7,c5,l0]) (c6 rfl rfl (by kernel_rfl) func267 rfl (by simp [Tryz.f267]) ?_)
 simp only [Tryz.f267]
 refine c7 ?_;intro Q5 hQ5
 repeat' (first
  | (replace hQ5:=hQ5;simp [hc,u6,u5,p9,c5,l5,hown])
  | refine hQ5 _ _ _ ?_)
theorem y0t {h:H} {s:AS} {l:List Column} (hs:Sees h 2 s (cat j9 l)) (g:Nat) (tgt:AV) (c:Column→Int) (hg:∀ x h,W K g [.agg (j9 x),tgt] h = some (.ret (.one (ii (c x))) h)) (k:Nat) (hk:k ≤ l.length) (h1:∀ i (hi:i < l.length),i < k ↔ c l[i] < 0) (hl:l.length < 1000000) :
  W K 266 [.one s,tgt,.one (.fn g [] [])] h = some (.ret (.tup [(false,[ii k]),(false,[.bool (match l[k]? with | some x=>c x == 0 | none=>false)])]) h):=by
 have hcl:=z7 N6 l
 have hla:∀ (u:TypeId) (h':H),O7 s (some (.slice u)) h' = some (one (ii l.length) h'):=fun u h'=>O4 h' u hs (by omega) hcl
 have hix:∀ i,i < l.length→S6 prog 79 s i = some (atS 2 s i):=fun i hi=>W5 underlying79 (by simp) hs (by omega) hcl hi
 have hrd:∀ i (hi:i < l.length),H4 h (atS 2 s i) 2 = some (j9 l[i]):=fun i hi=>by rw [Y9 hs (by omega) hcl hi,c0J N6 l hi]
 refine A9 hp rfl rfl rfl func266 rfl (by simp [Tryz.f266]) ?_
 simp only [Tryz.f266]
 refine c7 ?_;intro Q6 hQ6
 repeat' (first
  | (replace hQ6:=hQ6;simp [hla])
  | refine hQ6 _ _ _ ?_)
 refine a0L hp (fun m fr hh=>hh = h∧∃ (i u:Nat),i ≤ k∧k ≤ u∧u ≤ l.length∧m = u - i∧∃ j:Nat→AV,fr = ((.one s)::(tgt)::(.one (.fn g [] []))::j 3::j 4::j 5::j 6::j 7::(.one (ii l.length))::(.one (ii i))::(.one (ii u))::j 11::j 12::j 13::j 14::j 15::j 16::j 17::j 18::j 19::j 20::j 21::j 22::j 23::j 24::j 25::j 26::j 27::j 28::j 29::j 30::j 31::j 32::j 33::j 34::j 35::j 36::j 37::j 38::j 39::j 40::j 41::j 42::j 43::j 44::j 45::j 46::j 47::j 48::[])) ?_ l.length _ _ ⟨rfl,0,l.length,by omega,hk,by omega,by omega,s9 rfl⟩
 rintro m fr hh ⟨rfl,i,u,q1,q2,q3,rfl,j,rfl⟩
 by_cases hij:i < u
 ·have d1:decide ((i:Int) < u) = true:=by simp;omega
  have hm:(i + u) / 2 < l.length:=by omega
  have w1:IntKind.i64.wrap ((i:Int) + u) = (i:Int) + u:=wrap_i64 (by omega) (by omega)
  have w2:IntKind.u64.wrap ((i:Int) + u) = (i:Int) + u:=c0m (by omega) (by omega)
  have w3:a0b .shr .u64 ((i:Int) + u) 1 = some (.int .u64 (((i + u) / 2:Nat):Int)):=by
   simp only [a0b]
   rw [if_neg (by omega)]
   have e:(2:Int) ^ min (1:Int).toNat IntKind.u64.bits = 2:=rfl
   rw [e,Int.fdiv_eq_ediv_of_nonneg _ (by omega)]
   simp
  have w4:IntKind.i64.wrap (((i + u) / 2:Nat):Int) = (((i + u) / 2:Nat):Int):=wrap_i64 (by omega) (by omega)
  have w5:IntKind.i64.wrap ((((i + u) / 2:Nat):Int) + 1) = (((i + u) / 2:Nat):Int) + 1:=wrap_i64 (by omega) (by omega)
  have x1:=hix _ hm
  have x2:=hrd _ hm
  have x3:=h1 _ hm
  generalize hM:(i + u) / 2 = M at *
  generalize hX:l[M] = X at *
  have x4:=hg X
  by_cases hc:c X < 0
  ·have d2:decide (c X < 0) = true:=by simp [hc]
   have hMk:=x3.2 hc
   first | (refine c7 ?_;intro Q7 hQ7) | have hQ7:=oqk
   repeat' (first
    | (replace hQ7:=hQ7;simp [hij,w1,w2,w3,w4,w5,x1,x2,x4,hc,A5])
    | (refine hQ7 _ _ _ ?_;clear hQ7 Q7;first | simp only [] | simp [d1,hij,w1,w2,w3,w4,w5,x1,x2,x4,d2,hc,A5] | skip)
    | (refine C5 (by assumption) ?_;(try clear hQ7);first | simp only [] | simp [d1,hij,w1,w2,w3,w4,w5,x1,x2,x4,d2,hc,A5] | skip)
    | ((fail_if_success replace hQ7:=hQ7);(first | refine c7 ?_ | refine y5 ?_ | refine y3 ?_);intro Q7 hQ7))
   all_goals exact ⟨u - (M + 1),by omega,trivial,M + 1,u,by omega,q2,q3,rfl,s9 (by simp)⟩
  ·have d2:decide (c X < 0) = false:=by simp [hc]
   have hMk:¬ M < k:=fun h=>hc (x3.1 h)
   first | (refine c7 ?_;intro Q8 hQ8) | have hQ8:=oqk
   repeat' (first
    | (replace hQ8:=hQ8;simp [hij,w1,w2,w3,w4,x1,x2,x4,hc,A5])
    | (refine hQ8 _ _ _ ?_;clear hQ8 Q8;first | simp only [] | simp [d1,hij,w1,w2,w3,w4,w5,x1,x2,x4,d2,hc,A5] | skip)
    | (refine C5 (by assumption) ?_;(try clear hQ8);first | simp only [] | simp [d1,hij,w1,w2,w3,w4,w5,x1,x2,x4,d2,hc,A5] | skip)
    | ((fail_if_success replace hQ8:=hQ8);(first | refine c7 ?_ | refine y5 ?_ | refine y3 ?_);intro Q8 hQ8))
   all_goals exact ⟨M - i,by omega,trivial,i,M,q1,by omega,by omega,rfl,s9 (by simp)⟩
 ·have d1:decide ((i:Int) < u) = false:=by simp;omega
  have hik:i = k:=by omega
  have hjk:u = k:=by omega
  subst hjk hik
  by_cases hkl:i < l.length
  ·have d2:decide ((i:Int) < l.length) = true:=by simp;omega
   have x1:=hix _ hkl
   have x2:=hrd _ hkl
   have x5:l[i]? = some l[i]:=List.getElem?_eq_getElem hkl
   generalize hX:l[i] = X at *
   have x4:=hg X
   first | (refine c7 ?_;intro Q9 hQ9) | have hQ9:=oqk
   repeat' (first
    | (replace hQ9:=hQ9;simp [hkl,x1,x2,x4])
    | (refine hQ9 _ _ _ ?_;clear hQ9 Q9;first | simp only [] | simp [d1,hij,d2,hkl,x1,x2,x4,x5] | skip)
    | (refine C5 (by assumption) ?_;(try clear hQ9);first | simp only [] | simp [hkl] | skip)
    | ((fail_if_success replace hQ9:=hQ9);(first | refine c7 ?_ | refine y5 ?_ | refine y3 ?_);intro Q9 hQ9))
   all_goals first | rfl | rw [hX]
  ·have d2:decide ((i:Int) < l.length) = false:=by simp;omega
   have x5:l[i]? = none:=List.getElem?_eq_none (by omega)
   first | (refine c7 ?_;intro Q10 hQ10) | have hQ10:=oqk
   repeat' (first
    | (replace hQ10:=hQ10;simp [hkl])
    | (refine hQ10 _ _ _ ?_;clear hQ10 Q10;first | simp only [] | simp [d1,hij,d2,hkl,x5] | skip)
    | (refine C5 (by assumption) ?_;(try clear hQ10);first | simp only [] | simp [hkl] | skip)
    | ((fail_if_success replace hQ10:=hQ10);(first | refine c7 ?_ | refine y5 ?_ | refine y3 ?_);intro Q10 hQ10))
theorem U0 (a b c:BL) (h1:blt a b = true) (h2:blt b c = true):blt a c = true:=g0f h1 h2
theorem w0B {l:List Column} (hs:F9 d0X l = true) (n:BL) (i:Nat) (hi:i < l.length):i < L6 l n ↔ X6 l[i].name n < 0:=by
 rw [d0n]
 induction l generalizing i with
 | nil=>simp at hi
 | cons c l ih =>
  have hall:=b0m (r:=d0X) (fun a b c h1 h2=>U0 _ _ _ h1 h2) hs
  unfold L6
  cases hc:blt c.name n with
  | true =>
   simp only [List.takeWhile_cons,hc,if_true,oqb]
   cases i with
   | zero=>simp [hc]
   | succ i =>
    have:=ih (d0r hs) i (by simpa using hi)
    unfold L6 at this
    simp only [List.getElem_cons_succ]
    rw [← this];omega
  | false =>
   simp only [List.takeWhile_cons,hc,oqF,if_false,oqc,Nat.not_lt_zero,false_iff]
   cases i with
   | zero=>simp [hc]
   | succ i =>
    simp only [List.getElem_cons_succ]
    intro hx
    have h1:blt c.name (l[i]'(by simpa using hi)).name = true:=hall _ (List.getElem_mem _)
    rw [U0 _ _ _ h1 hx] at hc;cases hc
theorem g0J {α:Type} (p:α→Bool):∀ l:List α,(l.takeWhile p).length ≤ l.length
 | []=>oqg _
 | a::l=>by
  simp only [List.takeWhile_cons]
  split
  ·have:=g0J p l;simp;exact this
  ·simp
theorem d0U (l:List Column) (n:BL):L6 l n ≤ l.length:=g0J _ _
theorem find_g (o:Row) (n:BL) (hr:P3 o = true):Fun K 254 [.agg [sl 2 j9 o],.one (.str n)] (fun h=>.ret (.tup [(false,[ii (L6 (ls o) n)]),(false,[.bool (Z3 (ls o) n)])]) h):=by
 simp only [P3,oqd,oqj] at hr
 have hb:=fun h=>y0t (h:=h) (s:=sl 2 j9 o) (l:=ls o) (h0m N6 h o) 267 (.one (.str n)) (fun c=>X6 c.name n) (fun x h=>y0Y x n h) (L6 (ls o) n) (d0U _ _) (fun i hi=>w0B hr.1.2 n i hi) (by omega)
 have he:(match (ls o)[L6 (ls o) n]? with | some x=>X6 x.name n == 0 | none=>false) = Z3 (ls o) n:=by
  unfold Z3;generalize (ls o)[L6 (ls o) n]? = q;cases q <;> simp [m0R]
 rw [he] at hb
 generalize Z3 (ls o) n = T at *
 generalize L6 (ls o) n = I at *
 have hown:A8 S.own 254 = false:=by kernel_rfl
 refine ⟨by simp [s7,c5,l0],fun hh=>c6 rfl rfl (by kernel_rfl) func254 rfl (by simp [Tryz.f254]) ?_⟩
 simp only [Tryz.f254]
 refine c7 ?_;intro Q11 hQ11
 repeat' (first
  | (replace hQ11:=hQ11;simp [hb,u6,u5,p9,H8,c5,l5,hown])
  | refine hQ11 _ _ _ ?_)
end Go.Proofs.YtiagcnfmgigllaaGreat.Rw
