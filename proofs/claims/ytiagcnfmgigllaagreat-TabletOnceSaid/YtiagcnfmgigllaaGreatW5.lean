/- A part of a proof over the abstract machine. No conditions. -/
import Derived.Test.YtiagcnfmgigllaaGreatSeatK
import Derived.Test.YtiagcnfmgigllaaGreatAb3
import Derived.Test.YtiagcnfmgigllaaGreatAb5
import Derived.Test.YtiagcnfmgigllaaGreatSeatF
set_option linter.all false
namespace Go.Proofs.YtiagcnfmgigllaaGreat
open Go Go.Ab Wm Go.Proofs.Tryz
@[simp] theorem G0G (a b:Code) (fr:Fr) (h:H) (Q:Ex->Fr->H->Prop):M4 K (.seq a b) fr h Q = M4 K a fr h (j0T K b Q):=m0L hp a b fr h Q
@[simp] theorem C0R (fr:Fr) (h:H) (Q:Ex->Fr->H->Prop):M4 K .skip fr h Q = Q .normal fr h:=k0L hp fr h Q
@[simp] theorem B0W (id:Nat) (fr:Fr) (h:H) (Q:Ex->Fr->H->Prop):M4 K (.exit id) fr h Q = Q (.exit id) fr h:=l0m hp id fr h Q
abbrev zl5:List Nat:=[0,1,2,3,4]
abbrev zl6:List Nat:=[0,1,2,3,4,5]
abbrev zl8:List Nat:=[0,1,2,3,4,5,6,7]
abbrev zl9:List Nat:=[0,1,2,3,4,5,6,7,8]
abbrev l0W:List Nat:=[0,1,2,3,4,5,6,7,8,9]
abbrev c0n:List Nat:=[0,1,2,3,4,5,6,7,8,9,10]
abbrev h0R:List Nat:=[0,1,2,3,4,5,6,7,8,9,10,11]
abbrev b0H:List Nat:=[0,1,2,3,4,5,6,7,8,9,10,11,12]
abbrev r0M:List Nat:=[0,1,2,3,4,5,6,7,8,9,10,11,12,13]
abbrev c0P:List Nat:=[0,1,2,3,4,5,6,7,8,9,10,11,12,13,14]
abbrev k0j:List Nat:=[0,1,2,3,4,5,6,7,8,9,10,11,12,13,14,15,16]
abbrev g0z:List Nat:=[0,1,2,3,4,5,6,7,8,9,10,11,12,13,14,15,16,17]
abbrev l0X:List Nat:=[0,1,2,3,4,5,6,7,8,9,10,11,12,13,14,15,16,17,18]
abbrev F0K:List Nat:=[0,1,2,3,4,5,6,7,8,9,10,11,12,13,14,15,16,17,18,19,20]
abbrev t0E:List Nat:=[0,1,2,3,4,5,6,7,8,9,10,11,12,13,14,15,16,17,18,19,20,21,22,23,24,25,26,27,28]
abbrev l0D:List Nat:=[0,1,2,3,4,5,6,7,8,9,10,11,12,13,14,15,16,17,18,19,20,21,22,23,24,25,26,27,28,29]
abbrev z0T:List Nat:=[0,1,2,3,4,5,6,7,8,9,10,11,12,13,14,15,16,17,18,19,20,21,22,23,24,25,26,27,28,29,30,31,32,33,34,35,36]
theorem zzP {f:Nat} {fn:Func} {c:Code} {args:List AV} {h:H} {r:CR} (h4:K.P.funcs[f]? = some fn) (h5:fn.body = some c) (hq:a0M S.own f = false->∀ Q':Ex->Fr->H->Prop,(∀ x fr h1,o0G K fn.results.toList (fun v h1=>A7 (K.own f) false h1 h v = some r) x fr h1->Q' x fr h1)->M4 K c (args++List.replicate (fn.ntmps-args.length) .undef) H.empty Q') (h6:Nat.ble args.length fn.ntmps = true:=by rfl) (h3:K.frz f = true:=by kernel_rfl) (h1:K.prim f = none:=by rfl) (h2:K.ext f = none:=by rfl) (ho:a0M S.own f = false:=by kernel_rfl) (hv:args.all M5 = true:=by simp [M5,c7,v9]):W K f args h = some r:=r0n hp hv (N2 h1 h2 h3 h4 h5 (Nat.le_of_ble_eq_true h6) (s9 (hq ho)))
theorem zzD {f:Nat} {fn:Func} {c:Code} {args:List AV} {h:H} {r:CR} (h4:K.P.funcs[f]? = some fn) (h5:fn.body = some c) (hq:∀ Q':Ex->Fr->H->Prop,(∀ x fr h1,fin K fn.results.toList r x fr h1->Q' x fr h1)->M4 K c (args++List.replicate (fn.ntmps-args.length) .undef) h Q') (h6:Nat.ble args.length fn.ntmps = true:=by rfl) (h1:K.prim f = none:=by rfl) (h2:K.ext f = none:=by rfl) (h3:K.frz f = false:=by rfl):W K f args h = some r:=k0E hp h1 h2 h3 h4 h5 (Nat.le_of_ble_eq_true h6) (s9 hq)
theorem zzE {f:Nat} {fn:Func} {c:Code} {args:List AV} {h:H} {P:CR->Prop} (h4:K.P.funcs[f]? = some fn) (h5:fn.body = some c) (hq:∀ Q':Ex->Fr->H->Prop,(∀ x fr h1,p0n K fn.results.toList P x fr h1->Q' x fr h1)->M4 K c (args++List.replicate (fn.ntmps-args.length) .undef) h Q') (h6:Nat.ble args.length fn.ntmps = true:=by rfl) (h1:K.prim f = none:=by rfl) (h2:K.ext f = none:=by rfl) (h3:K.frz f = false:=by rfl):∃ r,W K f args h = some r/\P r:=j0P hp h1 h2 h3 h4 h5 (Nat.le_of_ble_eq_true h6) (s9 hq)
theorem zzI {f:Nat} {fn:Func} {c:Code} {args:List AV} {h:H} {m:Bool} {P:CR->Prop} (h4:K.P.funcs[f]? = some fn) (h5:fn.body = some c) (hq:∀ Q':Ex->Fr->H->Prop,(∀ x fr h1,p0n K fn.results.toList (g0E m h P) x fr h1->Q' x fr h1)->M4 K c (args++List.replicate (fn.ntmps-args.length) .undef) h Q') (hf:ICE f = some m:=by rfl) (h6:Nat.ble args.length fn.ntmps = true:=by rfl) (h1:(((confK S).insK INS).via VIA (W Rw.K)).prim f = none:=by rfl) (h2:K.ext f = none:=by rfl) (h3:K.frz f = false:=by rfl):∃ r,W K f args h = some r/\P r:=B0L hp h1 hf h2 h3 h4 h5 (Nat.le_of_ble_eq_true h6) (s9 hq)
@[simp] theorem G0i (fr:Fr) (h:H) (Q:Ex->Fr->H->Prop):M4 K .ret fr h Q = Q .ret fr h:=m0P hp fr h Q
@[simp] theorem x0p (id:Nat) (l:List Oper) (fr:Fr) (h:H) (Q:Ex->Fr->H->Prop):M4 K (.region id l.toArray false) fr h Q = b0P K l l fr h Q:=i0k hp id l fr h Q
@[simp] theorem A0f (id:Nat) (b:Code) (fr:Fr) (h:H) (Q:Ex->Fr->H->Prop):M4 K (.block id b) fr h Q = M4 K b fr h (c0O id Q):=j0f hp id b fr h Q
@[simp] theorem B0C (c:Operand) (a b:Code) (fr:Fr) (h:H) (Q:Ex->Fr->H->Prop):M4 K (.cond c a b) fr h Q = g0J K a b fr h Q (evS fr c):=k0h hp c a b fr h Q
theorem dF {id:Nat} {l:List Oper} {fr:Fr} {h:H} {Q:Ex->Fr->H->Prop} (c:List Nat) (U:List (Nat × Nat)) (hq:j0q K l U c fr h [] [] Q)
  (hk:(f0N K.P l && (d0u K.P l == c) && (loose K.P l (a0m l []) (d0u K.P l) == U) && i0D c) = true:=by kernel_rfl):M4 K (.region id l.toArray true) fr h Q:=m0F hp c U hq hk
@[simp] theorem G0Z (n:Nat):List.replicate (n + 1) AV.undef = AV.undef::List.replicate n AV.undef:=rfl
end Go.Proofs.YtiagcnfmgigllaaGreat
namespace Go.Proofs.YtiagcnfmgigllaaGreat.Rw
open Go Go.Ab Wm Go.Proofs.Tryz
@[simp] theorem KP:K.P = prog:=rfl
theorem u9 (f:Nat):K.own f = a0M S.own f:=rfl
@[simp] theorem G0G (a b:Code) (fr:Fr) (h:H) (Q:Ex->Fr->H->Prop):M4 K (.seq a b) fr h Q = M4 K a fr h (j0T K b Q):=m0L hp a b fr h Q
@[simp] theorem C0R (fr:Fr) (h:H) (Q:Ex->Fr->H->Prop):M4 K .skip fr h Q = Q .normal fr h:=k0L hp fr h Q
@[simp] theorem B0W (id:Nat) (fr:Fr) (h:H) (Q:Ex->Fr->H->Prop):M4 K (.exit id) fr h Q = Q (.exit id) fr h:=l0m hp id fr h Q
theorem zzP {f:Nat} {fn:Func} {c:Code} {args:List AV} {h:H} {r:CR} (h4:K.P.funcs[f]? = some fn) (h5:fn.body = some c) (hq:a0M S.own f = false->∀ Q':Ex->Fr->H->Prop,(∀ x fr h1,o0G K fn.results.toList (fun v h1=>A7 (K.own f) false h1 h v = some r) x fr h1->Q' x fr h1)->M4 K c (args++List.replicate (fn.ntmps-args.length) .undef) H.empty Q') (h6:Nat.ble args.length fn.ntmps = true:=by rfl) (h3:K.frz f = true:=by kernel_rfl) (h1:K.prim f = none:=by rfl) (h2:K.ext f = none:=by rfl) (ho:a0M S.own f = false:=by kernel_rfl) (hv:args.all M5 = true:=by simp [M5,c7,v9]):W K f args h = some r:=r0n hp hv (N2 h1 h2 h3 h4 h5 (Nat.le_of_ble_eq_true h6) (s9 (hq ho)))
theorem zzD {f:Nat} {fn:Func} {c:Code} {args:List AV} {h:H} {r:CR} (h4:K.P.funcs[f]? = some fn) (h5:fn.body = some c) (hq:∀ Q':Ex->Fr->H->Prop,(∀ x fr h1,fin K fn.results.toList r x fr h1->Q' x fr h1)->M4 K c (args++List.replicate (fn.ntmps-args.length) .undef) h Q') (h6:Nat.ble args.length fn.ntmps = true:=by rfl) (h1:K.prim f = none:=by rfl) (h2:K.ext f = none:=by rfl) (h3:K.frz f = false:=by rfl):W K f args h = some r:=k0E hp h1 h2 h3 h4 h5 (Nat.le_of_ble_eq_true h6) (s9 hq)
theorem zzE {f:Nat} {fn:Func} {c:Code} {args:List AV} {h:H} {P:CR->Prop} (h4:K.P.funcs[f]? = some fn) (h5:fn.body = some c) (hq:∀ Q':Ex->Fr->H->Prop,(∀ x fr h1,p0n K fn.results.toList P x fr h1->Q' x fr h1)->M4 K c (args++List.replicate (fn.ntmps-args.length) .undef) h Q') (h6:Nat.ble args.length fn.ntmps = true:=by rfl) (h1:K.prim f = none:=by rfl) (h2:K.ext f = none:=by rfl) (h3:K.frz f = false:=by rfl):∃ r,W K f args h = some r/\P r:=j0P hp h1 h2 h3 h4 h5 (Nat.le_of_ble_eq_true h6) (s9 hq)
@[simp] theorem G0i (fr:Fr) (h:H) (Q:Ex->Fr->H->Prop):M4 K .ret fr h Q = Q .ret fr h:=m0P hp fr h Q
@[simp] theorem x0p (id:Nat) (l:List Oper) (fr:Fr) (h:H) (Q:Ex->Fr->H->Prop):M4 K (.region id l.toArray false) fr h Q = b0P K l l fr h Q:=i0k hp id l fr h Q
@[simp] theorem A0f (id:Nat) (b:Code) (fr:Fr) (h:H) (Q:Ex->Fr->H->Prop):M4 K (.block id b) fr h Q = M4 K b fr h (c0O id Q):=j0f hp id b fr h Q
@[simp] theorem B0C (c:Operand) (a b:Code) (fr:Fr) (h:H) (Q:Ex->Fr->H->Prop):M4 K (.cond c a b) fr h Q = g0J K a b fr h Q (evS fr c):=k0h hp c a b fr h Q
theorem dF {id:Nat} {l:List Oper} {fr:Fr} {h:H} {Q:Ex->Fr->H->Prop} (c:List Nat) (U:List (Nat × Nat)) (hq:j0q K l U c fr h [] [] Q)
  (hk:(f0N K.P l && (d0u K.P l == c) && (loose K.P l (a0m l []) (d0u K.P l) == U) && i0D c) = true:=by kernel_rfl):M4 K (.region id l.toArray true) fr h Q:=m0F hp c U hq hk
open Go Go.Ab Wm NumPlain Go.Proofs.Tryz
set_option maxRecDepth 10000
set_option maxHeartbeats 4000000
theorem d0A (s:BL) (h:H):W K 111 [.one (.str s)] h = some (.ret (.one (.bool (J9 s))) h):=by
 refine zzP func111 rfl ?_
 simp only [f111]
 intro Yb Q1 Y1
 repeat' (first
  | (replace Y1:=Y1;simp [J9])
  | (refine Y1 _ _ _ ?_;clear Y1 Q1;first | simp only [] | simp [J9,A7,A0,z9,c7,u9,Yb])
  | (first | apply cF | apply wN | apply wS) <;> intro Ya <;> (try simp only [Ya]) <;> (try simp [-List.isEmpty_iff,-List.isEmpty_eq_false_iff] at Ya))
 all_goals first | done | (simp_all [-List.isEmpty_iff,-List.isEmpty_eq_false_iff,<- List.isEmpty_iff];done) | (simp_all;first | done | omega) | (simp;omega) | (intros;first | omega | (simp only [oqj] at *;omega) | (simp at *;omega))
theorem b0V (H9:Int) (v_b:Option BL) (v_n:Nat) (h:H):W K 160 [.agg [ii H9,bs v_b,.flt v_n]] h = some (.ret (.one (.bool (V7 ⟨H9,v_b,v_n⟩))) h):=by
 refine zzP func160 rfl ?_
 simp only [f160]
 intro Yb Q2 Y2
 repeat' (first
  | (replace Y2:=Y2;simp [V7])
  | (refine Y2 _ _ _ ?_;clear Y2 Q2;first | simp only [] | simp [V7,f0w,A7,A0,z9,c7,u9,Yb])
  | (first | apply cF | apply wN | apply wS) <;> intro Ya <;> (try simp only [Ya]) <;> (try simp [-List.isEmpty_iff,-List.isEmpty_eq_false_iff] at Ya))
 all_goals first | done | (simp_all [-List.isEmpty_iff,-List.isEmpty_eq_false_iff];done) | (simp_all;first | done | omega) | (simp;omega) | (intros;first | omega | (simp only [oqj] at *;omega) | (simp at *;omega))
theorem L4 {n:Nat} {l:List AS} (hl:l.length = n):sub l 0 n = some l:=by
 unfold sub;rw [if_pos (by omega),List.drop_zero,List.take_of_length_le (by omega)]
@[simp] theorem F0r:FloatKind.f64.format = Ieee.double:=rfl
theorem j0c (b:Nat):h0y .neq (D.order b b) = some (isN b):=by
 unfold isN
 by_cases h:INF < M7 b
 ·rw [m0q (.inl h)];simp [h0y,h]
 ·rw [h0j (by omega) (by omega)]
  simp [h0y,h]
theorem b0W (n:Int) (h:H):W K 109 [.one (.int .u64 n)] h = some (.ret (.one (.flt n.toNat)) h):=by rw [p0p hp rfl rfl];rfl
theorem n0z (n:Nat) (h:H):W K 155 [.one (.flt n)] h = some (.ret (.one (.int .u64 n)) h):=by rw [p0p hp rfl rfl];rfl
theorem n0J (b:Nat) (h:H):W K 253 [.one (.flt b)] h = some (.ret (.one (.bool (isN b))) h):=by
 refine zzP func253 rfl ?_
 simp only [f253]
 intro Yb Q3 Y3
 repeat' (first
  | (replace Y3:=Y3;simp [j0c,A7,A0,z9,c7,u9,Yb])
  | refine Y3 _ _ _ ?_)
theorem g0e (b:Nat) (h:H):W K 235 [.one (.flt b)] h = some (.ret (.one (.flt (a0n b))) h):=by
 refine zzP func235 rfl ?_
 simp only [f235]
 intro Yb Q4 Y4
 repeat' (first
  | (replace Y4:=Y4;simp [n0J,b0W,A7,A0,z9,c7,u9,Yb])
  | refine Y4 _ _ _ ?_
  | (first | apply cF | apply wN | apply wS) <;> intro Ya <;> (try simp only [Ya]) <;> (try simp [-List.isEmpty_iff,-List.isEmpty_eq_false_iff] at Ya))
 all_goals simp_all [a0n]
theorem g0v (o:Option BL) (ho:(ls o).length <= 1099511627776):Fun K 102 [.one (bs o)] (fun h=>.ret (.one (bs o)) h):=by
 cases o with
 | none =>
  simp only [C9]
  have Yb:a0M S.own 102 = false:=by kernel_rfl
  refine ⟨by simp [M5,c7],fun hh=>N2 rfl rfl (by kernel_rfl) func102 rfl (by simp [f102]) ?_⟩
  simp only [f102]
  refine s9 ?_;intro Q5 Y5
  repeat' (first
   | (replace Y5:=Y5;simp [bin,d0W,a0L,A7,A0,z9,c7,u9,Yb])
   | refine Y5 _ _ _ ?_)
 | some l =>
  rw [Z7]
  by_cases h0:l = []
  ·subst h0
   have Yb:a0M S.own 102 = false:=by kernel_rfl
   refine ⟨by simp [M5,c7,v9],fun hh=>N2 rfl rfl (by kernel_rfl) func102 rfl (by simp [f102]) ?_⟩
   simp only [f102]
   refine s9 ?_;intro Q6 Y6
   repeat' (first
    | (replace Y6:=Y6;simp [bin,d0W,a0L,X9,M8,U9,C6,sub,N3,A7,A0,z9,u9,Yb])
    | refine Y6 _ _ _ ?_)
  ·have h1:l.length ≠ 0:=by simpa using h0
   have h3:v9 true (l.map F7) = true:=by
    clear h0 h1 ho
    induction l with
    | nil=>rfl
    | cons a l ih=>simp [v9,F7,c7] at ih |-;exact ih
   have h2:¬ (17592186044416 < l.length + 600 + l.length):=by simp at ho;omega
   have ht:(l.map F7).take l.length = l.map F7:=List.take_of_length_le (by simp)
   have h4:v9 false (l.map F7) = true:=by have:=f0T (some l);rw [Z7] at this;simpa [c7] using this
   have h5:(l.map F7).mapM (z9 true ((H.empty.new ⟨0,[0],true,[]⟩).new ⟨0,[l.length],false,l.map F7⟩) 63) = some (l.map F7):=c0C (n:=62) (by assumption)
   have Yb:a0M S.own 102 = false:=by kernel_rfl
   refine ⟨by simp [M5,h4,c7],fun hh=>N2 rfl rfl (by kernel_rfl) func102 rfl (by simp [f102]) ?_⟩
   simp only [f102]
   refine s9 ?_;intro Q7 Y7
   repeat' (first
    | (replace Y7:=Y7;simp [bin,d0W,a0L,X9,M8,U9,C6,sub,N3,h0,h2,h5,ht,A7,A0,z9,u9,Yb])
    | refine Y7 _ _ _ ?_)
   all_goals trace_state
theorem z0n (o:Option BL) (ho:(ls o).length <= 1099511627776) (h:H):W K 102 [.one (bs o)] h = some (.ret (.one (bs o)) h):=(g0v o ho).pure hp h
theorem h0l (H9:Int) (v_b:Option BL) (v_n:Nat) (hb:H9 = 1->(ls v_b).length <= 1099511627776) (h:H):W K 206 [.agg [ii H9,bs v_b,.flt v_n]] h = some (.ret (.agg (a0t (M9 ⟨H9,v_b,v_n⟩))) h):=by
 by_cases h1:H9 = 1
 ·have hc:=z0n v_b (hb h1)
  subst h1
  refine zzP func206 rfl ?_
  simp only [f206]
  intro Yb Q8 Y8
  repeat' (first
   | (replace Y8:=Y8;simp [hc])
   | (refine Y8 _ _ _ ?_;clear Y8 Q8;first | simp only [] | simp [M9,a0t,A7,A0,z9,A5,c7,u9,Yb]))
  all_goals first | done | (simp_all [-List.isEmpty_iff,-List.isEmpty_eq_false_iff,<- List.isEmpty_iff];done) | (simp_all;first | done | omega) | (simp;omega) | (intros;first | omega | (simp only [oqj] at *;omega) | (simp at *;omega))
 ·by_cases h2:H9 = 2
  ·subst h2
   refine zzP func206 rfl ?_
   simp only [f206]
   intro Yb Q9 Y9
   repeat' (first
    | (replace Y9:=Y9;simp [g0e])
    | (refine Y9 _ _ _ ?_;clear Y9 Q9;first | simp only [] | simp [M9,a0t,C9,A7,A0,z9,c7,u9,Yb]))
   all_goals first | done | (simp_all [-List.isEmpty_iff,-List.isEmpty_eq_false_iff,<- List.isEmpty_iff];done) | (simp_all;first | done | omega) | (simp;omega) | (intros;first | omega | (simp only [oqj] at *;omega) | (simp at *;omega))
  ·have e1:M9 ⟨H9,v_b,v_n⟩ = ⟨0,none,0⟩:=by simp [M9,h1,h2]
   have b1:(H9 == 1) = false:=by simp [h1]
   have b2:(H9 == 2) = false:=by simp [h2]
   rw [e1]
   refine zzP func206 rfl ?_
   simp only [f206]
   intro Yb Q10 Y10
   repeat' (first
    | (replace Y10:=Y10;simp [b1,b2])
    | (refine Y10 _ _ _ ?_;clear Y10 Q10;first | simp only [] | simp [a0t,C9,A7,A0,z9,c7,u9,Yb]))
   all_goals first | done | (simp_all [-List.isEmpty_iff,-List.isEmpty_eq_false_iff,<- List.isEmpty_iff];done) | (simp_all;first | done | omega) | (simp;omega) | (intros;first | omega | (simp only [oqj] at *;omega) | (simp at *;omega))
theorem j0N {α:Type} {p:α->Bool} {a:List α} {x:α} {r:List α} (h:p x = false):(a++x::r).all p = false:=by simp [h]
theorem x0t (c:Column):Fun K 213 [.agg (l7 c)] (fun h=>.ret (.one (.bool (a0H c))) h):=by
 obtain ⟨n,o⟩:=c
 have hn:=d0A n
 simp only [l7]
 have hd:∀ (a b:Nat),decide ((a:Int) < b) = decide (a < b):=fun a b=>by rw [decide_eq_decide];omega
 by_cases h1:J9 n = true
 ·by_cases h2:1 <= (ls o).length
  ·by_cases h3:(ls o).length <= 2
   ·have b1:decide (((ls o).length:Int) < 1) = false:=by simp;omega
    have b2:decide (2 < ((ls o).length:Int)) = false:=by simp;omega
    rw [h1] at hn
    have hB:a0H ⟨n,o⟩ = ((ls o).all b0B && J5 d0q (ls o)):=by simp [a0H,h1,h2,h3]
    rw [hB]
    obtain ⟨R,hR⟩:∃ R,((ls o).all b0B && J5 d0q (ls o)) = R:=⟨_,rfl⟩
    rw [hR]
    have Yb:a0M S.own 213 = false:=by kernel_rfl
    refine ⟨by simp [M5,c7,v9],fun hh=>N2 rfl rfl (by kernel_rfl) func213 rfl (by simp [f213]) ?_⟩
    simp only [f213]
    refine s9 ?_;intro Q1 Y1
    repeat' (first
     | (replace Y1:=Y1;simp [hn,b1,b2])
     | refine Y1 _ _ _ ?_
     | refine dF (id:=6) l0D [] ?_
     | (first | apply cF | apply wN | apply wS) <;> intro Ya <;> (try simp only [Ya]) <;> (try simp [-List.isEmpty_iff,-List.isEmpty_eq_false_iff] at Ya))
    refine I8 hp (ls o) (fun a r fr hh=>(0 < hh.next/\hh.f 0 = some ⟨0,[2],true,[.str n,sl 4 i9 o]⟩/\a.all b0B = true/\J5 d0q a = true)/\∃ j:Nat->AV,fr = (j 0::(.one (.ptr 0 0 0))::(.one (.bool false))::j 3::j 4::j 5::j 6::j 7::j 8::j 9::j 10::j 11::j 12::j 13::j 14::j 15::j 16::j 17::j 18::j 19::j 20::j 21::(.one (sl 4 i9 o))::(.one (ii (ls o).length))::(.one (ii a.length))::j 25::j 26::j 27::j 28::j 29::j 30::j 31::j 32::j 33::j 34::j 35::j 36::j 37::j 38::j 39::j 40::j 41::j 42::j 43::j 44::j 45::j 46::j 47::j 48::j 49::j 50::j 51::j 52::j 53::j 54::j 55::j 56::j 57::j 58::j 59::[])) ?_ ?_ _ _ ⟨⟨by simp,by simp,rfl,rfl⟩,y0 rfl⟩
    ·rintro a x r fr hh hl ⟨⟨i1,i2,i3,i4⟩,j,rfl⟩
     obtain rfl:=a0R hl
     have hi:=N6 (P:=prog) (enc:=i9) (s:=4) (l:=a++x::r) (i:=a.length) underlying89 (by simp) (by omega) (by simp)
     have hr:=O9 (enc:=i9) (s:=4) J0 a x r (o:=0) (n:=4) (by omega)
     have hlt:decide ((a.length:Int) < ((a++x::r).length:Nat)) = true:=by simp;omega
     have hw:IntKind.i64.wrap ((a.length:Int) + 1) = ((a++[x]).length:Int):=by rw [S4];exact J1 (by simp at h3;omega)
     have hne:¬ 0 = hh.next:=by omega
     have hv:=fun h=>b0V x.v.kind x.v.b x.v.n h
     have hne2:¬ hh.next = 0:=by omega
     simp only [Nat.add_zero] at hr
     have hrx:sub (i9 x) 0 4 = some (i9 x):=L4 (J0 x)
     rw [hrx] at hr
     obtain ⟨xt,⟨xk,xb,xn⟩⟩:=x
     simp only [i9] at *
     by_cases t1:xt < 0
     ·have c1:decide (xt < 0) = true:=by simp [t1]
      have hB:((ls (some (a++⟨xt,⟨xk,xb,xn⟩⟩::r))).all b0B && J5 d0q (ls (some (a++⟨xt,⟨xk,xb,xn⟩⟩::r)))) = false:=by rw [K6,j0N (by simp [b0B,t1])];rfl
      rw [hB] at hR;subst hR
      first | (refine s9 ?_;intro Q2 Y2) | have Y2:=oqk
      repeat' (first
       | (replace Y2:=Y2;simp [hi,hr,t1])
       | (refine Y2 _ _ _ ?_;clear Y2 Q2;first | simp only [] | simp [i2] | skip)
       | (refine F6 (by assumption) ?_;(try clear Y2);first | simp only [] | simp [A7,A0,z9,c7,u9,Yb] | skip)
       | ((fail_if_success replace Y2:=Y2);(first | refine s9 ?_ | refine A1 ?_ | refine A4 ?_);intro Q2 Y2)
       | refine dF (id:=6) l0D [] ?_
       | (first | apply cF | apply wN | apply wS) <;> intro Ya <;> (try simp only [Ya]) <;> (try simp [-List.isEmpty_iff,-List.isEmpty_eq_false_iff] at Ya))
      all_goals omega
     ·have c1:decide (xt < 0) = false:=by simp [t1]
      by_cases t2:1099511627776 < xt
      ·have c2:decide (1099511627776 < xt) = true:=by simp [t2]
       have hB:((ls (some (a++⟨xt,⟨xk,xb,xn⟩⟩::r))).all b0B && J5 d0q (ls (some (a++⟨xt,⟨xk,xb,xn⟩⟩::r)))) = false:=by rw [K6,j0N (by simp [b0B,t2])];rfl
       rw [hB] at hR;subst hR
       first | (refine s9 ?_;intro Q3 Y3) | have Y3:=oqk
       repeat' (first
        | (replace Y3:=Y3;simp [hi,hr,t1,t2])
        | (refine Y3 _ _ _ ?_;clear Y3 Q3;first | simp only [] | simp [i2] | skip)
        | (refine F6 (by assumption) ?_;(try clear Y3);first | simp only [] | simp [A7,A0,z9,c7,u9,Yb] | skip)
        | ((fail_if_success replace Y3:=Y3);(first | refine s9 ?_ | refine A1 ?_ | refine A4 ?_);intro Q3 Y3)
        | refine dF (id:=6) l0D [] ?_
        | (first | apply cF | apply wN | apply wS) <;> intro Ya <;> (try simp only [Ya]) <;> (try simp [-List.isEmpty_iff,-List.isEmpty_eq_false_iff] at Ya))
       all_goals omega
      ·have c2:decide (1099511627776 < xt) = false:=by simp [t2]
       cases t3:V7 ⟨xk,xb,xn⟩ with
       | false =>
        have hB:((ls (some (a++⟨xt,⟨xk,xb,xn⟩⟩::r))).all b0B && J5 d0q (ls (some (a++⟨xt,⟨xk,xb,xn⟩⟩::r)))) = false:=by rw [K6,j0N (by simp [b0B,t3])];rfl
        rw [hB] at hR;subst hR
        rw [t3] at hv
        first | (refine s9 ?_;intro Q4 Y4) | have Y4:=oqk
        repeat' (first
         | (replace Y4:=Y4;simp [hi,hr,t1,t2,hv])
         | (refine Y4 _ _ _ ?_;clear Y4 Q4;first | simp only [] | simp [i2] | skip)
         | (refine F6 (by assumption) ?_;(try clear Y4);first | simp only [] | simp [A7,A0,z9,c7,u9,Yb] | skip)
         | ((fail_if_success replace Y4:=Y4);(first | refine s9 ?_ | refine A1 ?_ | refine A4 ?_);intro Q4 Y4)
         | refine dF (id:=6) l0D [] ?_
         | (first | apply cF | apply wN | apply wS) <;> intro Ya <;> (try simp only [Ya]) <;> (try simp [-List.isEmpty_iff,-List.isEmpty_eq_false_iff] at Ya))
        all_goals omega
       | true =>
        rw [t3] at hv
        have hvx:b0B ⟨xt,⟨xk,xb,xn⟩⟩ = true:=by simp [b0B,t1,t2,t3]
        rcases g0X a with rfl | ⟨a',⟨yt,yv⟩,rfl⟩
        ·simp only [oql,oqc,Nat.zero_mul] at hi hr
         have hw1:IntKind.i64.wrap 1 = 1:=rfl
         first | (refine s9 ?_;intro Q5 Y5) | have Y5:=oqk
         repeat' (first
          | (replace Y5:=Y5;simp [hi,hr,t1,t2,hv,hw1])
          | (refine Y5 _ _ _ ?_;clear Y5 Q5;first | simp only [] | simp [i2,hi,hr,hlt,hne,hne2,c1,t1,c2,t2,hv,hw1,A7,A0,z9,A5,L9,c7,v9,u9,Yb] | skip)
          | (refine F6 (by assumption) ?_;(try clear Y5);first | simp only [] | simp [i2,hi,hr,hlt,hne,hne2,c1,t1,c2,t2,hv,hw1,A7,A0,z9,A5,L9,c7,v9,u9,Yb] | skip)
          | ((fail_if_success replace Y5:=Y5);(first | refine s9 ?_ | refine A1 ?_ | refine A4 ?_);intro Q5 Y5)
          | refine dF (id:=6) l0D [] ?_
          | (first | apply cF | apply wN | apply wS) <;> intro Ya <;> (try simp only [Ya]) <;> (try simp [-List.isEmpty_iff,-List.isEmpty_eq_false_iff] at Ya))
         all_goals first | (refine ⟨⟨by simp,by simp [hne,i2],by simp [hvx],rfl⟩,y0 (by simp)⟩) | omega | rfl | trace_state
        ·have hi2:=N6 (P:=prog) (enc:=i9) (s:=4) (l:=(a'++[⟨yt,yv⟩])++⟨xt,⟨xk,xb,xn⟩⟩::r) (i:=a'.length) underlying89 (by simp) (by omega) (by simp)
         have hr2:=O9 (enc:=i9) (s:=4) J0 a' ⟨yt,yv⟩ (⟨xt,⟨xk,xb,xn⟩⟩::r) (o:=0) (n:=1) (by omega)
         have hs2:sub (i9 ⟨yt,yv⟩) 0 1 = some [ii yt]:=rfl
         rw [hs2] at hr2
         have hgt:decide ((0:Int) < (((a'++[(⟨yt,yv⟩:Version)]).length:Nat):Int)) = true:=by simp
         have hN:(a'++[(⟨yt,yv⟩:Version)]).length = a'.length + 1:=by simp
         have hsb:IntKind.i64.wrap ((((a'++[⟨yt,yv⟩]:List Version).length:Nat):Int) - 1) = (a'.length:Int):=by rw [wrap_i64 (by simp) (by simp;simp at h3;omega)];simp
         have ha:a'++[(⟨yt,yv⟩:Version)]++(⟨xt,⟨xk,xb,xn⟩⟩:Version)::r = a'++⟨yt,yv⟩::⟨xt,⟨xk,xb,xn⟩⟩::r:=by simp
         rw [<- ha,Nat.add_zero] at hr2
         by_cases t4:yt <= xt
         ·have c4:decide (yt <= xt) = true:=by simp [t4]
          have hB:((ls (some (a'++[⟨yt,yv⟩]++⟨xt,⟨xk,xb,xn⟩⟩::r))).all b0B && J5 d0q (ls (some (a'++[⟨yt,yv⟩]++⟨xt,⟨xk,xb,xn⟩⟩::r)))) = false:=by rw [K6,ha,m0z (by simp [d0q,t4])];simp
          rw [hB] at hR;subst hR
          generalize (a'++[(⟨yt,yv⟩:Version)]++(⟨xt,⟨xk,xb,xn⟩⟩:Version)::r) = L at *
          generalize (a'++[(⟨yt,yv⟩:Version)]).length = N at *
          have hg2:0 < N:=by omega
          have hg3:N < L.length:=by simpa using hlt
          first | (refine s9 ?_;intro Q6 Y6) | have Y6:=oqk
          repeat' (first
           | (replace Y6:=Y6;simp [i2,hi,hr,hne,t1,t2,hv,hsb,hi2,hr2,t4,hg2,hg3])
           | (refine Y6 _ _ _ ?_;clear Y6 Q6;first | simp only [] | simp [i2] | skip)
           | (refine F6 (by assumption) ?_;(try clear Y6);first | simp only [] | simp [A7,A0,z9,c7,u9,Yb] | skip)
           | ((fail_if_success replace Y6:=Y6);(first | refine s9 ?_ | refine A1 ?_ | refine A4 ?_);intro Q6 Y6)
           | refine dF (id:=6) l0D [] ?_
           | (first | apply cF | apply wN | apply wS) <;> intro Ya <;> (try simp only [Ya]) <;> (try simp [-List.isEmpty_iff,-List.isEmpty_eq_false_iff] at Ya))
          all_goals omega
         ·have c4:decide (yt <= xt) = false:=by simp [t4]
          have hch:J5 d0q (a'++[⟨yt,yv⟩]++[⟨xt,⟨xk,xb,xn⟩⟩]) = true:=by rw [oqh,List.singleton_append,l0q,i4];simp [d0q,t4]
          have hal:(a'++[⟨yt,yv⟩]++[⟨xt,⟨xk,xb,xn⟩⟩]:List Version).all b0B = true:=by rw [List.all_append,i3];simp [hvx]
          generalize (a'++[(⟨yt,yv⟩:Version)]++(⟨xt,⟨xk,xb,xn⟩⟩:Version)::r) = L at *
          generalize (a'++[(⟨yt,yv⟩:Version)]++[⟨xt,⟨xk,xb,xn⟩⟩]) = A2 at *
          generalize (a'++[(⟨yt,yv⟩:Version)]).length = N at *
          have hg2:0 < N:=by omega
          have hg3:N < L.length:=by simpa using hlt
          first | (refine s9 ?_;intro Q7 Y7) | have Y7:=oqk
          repeat' (first
           | (replace Y7:=Y7;simp [i2,hi,hr,hne,t1,t2,hv,hsb,hi2,hr2,t4,hw,hg2,hg3])
           | (refine Y7 _ _ _ ?_;clear Y7 Q7;first | simp only [] | simp [i2,hi,hr,hlt,hne,hne2,c1,t1,c2,t2,hv,hgt,hsb,hi2,hr2,c4,t4,hw,hg2,hg3,A7,A0,z9,A5,L9,c7,v9,u9,Yb] | skip)
           | (refine F6 (by assumption) ?_;(try clear Y7);first | simp only [] | simp [i2,hi,hr,hlt,hne,hne2,c1,t1,c2,t2,hv,hgt,hsb,hi2,hr2,c4,t4,hw,hg2,hg3,A7,A0,z9,A5,L9,c7,v9,u9,Yb] | skip)
           | ((fail_if_success replace Y7:=Y7);(first | refine s9 ?_ | refine A1 ?_ | refine A4 ?_);intro Q7 Y7)
           | refine dF (id:=6) l0D [] ?_
           | (first | apply cF | apply wN | apply wS) <;> intro Ya <;> (try simp only [Ya]) <;> (try simp [-List.isEmpty_iff,-List.isEmpty_eq_false_iff] at Ya))
          all_goals first | (refine ⟨⟨by simp,by simp [hne,i2],hal,hch⟩,y0 (by simp)⟩) | omega | trace_state
    ·rintro fr hh ⟨⟨i1,i2,i3,i4⟩,j,rfl⟩
     rw [i3,i4] at hR;subst hR
     first | (refine s9 ?_;intro Q8 Y8) | have Y8:=oqk
     repeat' (first
      | (replace Y8:=Y8;simp [A7])
      | (refine Y8 _ _ _ ?_;clear Y8 Q8;first | simp only [] | simp [A7,A0,z9,A5,L9,c7,v9,u9,Yb] | skip)
      | (refine F6 (by assumption) ?_;(try clear Y8);first | simp only [] | simp [A7,A0,z9,c7,u9,Yb] | skip)
      | ((fail_if_success replace Y8:=Y8);(first | refine s9 ?_ | refine A1 ?_ | refine A4 ?_);intro Q8 Y8)
      | refine dF (id:=6) l0D [] ?_
      | (first | apply cF | apply wN | apply wS) <;> intro Ya <;> (try simp only [Ya]) <;> (try simp [-List.isEmpty_iff,-List.isEmpty_eq_false_iff] at Ya))
     all_goals first | done | (simp_all [-List.isEmpty_iff,-List.isEmpty_eq_false_iff,<- List.isEmpty_iff];done) | (simp_all;first | done | omega) | (simp;omega) | (intros;first | omega | (simp only [oqj] at *;omega) | (simp at *;omega))
   ·have b1:decide (((ls o).length:Int) < 1) = false:=by simp;omega
    have b2:decide (2 < ((ls o).length:Int)) = true:=by simp;omega
    rw [h1] at hn
    have hB:a0H ⟨n,o⟩ = false:=by simp [a0H,h1,h2,h3]
    rw [hB]
    have Yb:a0M S.own 213 = false:=by kernel_rfl
    refine ⟨by simp [M5,c7,v9],fun hh=>N2 rfl rfl (by kernel_rfl) func213 rfl (by simp [f213]) ?_⟩
    simp only [f213]
    refine s9 ?_;intro Q9 Y9
    repeat' (first
     | (replace Y9:=Y9;simp [hn,b1,b2,A7,A0,z9,c7,u9,Yb])
     | refine Y9 _ _ _ ?_
     | refine dF (id:=6) l0D [] ?_
     | (first | apply cF | apply wN | apply wS) <;> intro Ya <;> (try simp only [Ya]) <;> (try simp [-List.isEmpty_iff,-List.isEmpty_eq_false_iff] at Ya))
  ·have b1:decide (((ls o).length:Int) < 1) = true:=by simp;omega
   rw [h1] at hn
   have hB:a0H ⟨n,o⟩ = false:=by simp [a0H,h1,h2]
   rw [hB]
   have Yb:a0M S.own 213 = false:=by kernel_rfl
   refine ⟨by simp [M5,c7,v9],fun hh=>N2 rfl rfl (by kernel_rfl) func213 rfl (by simp [f213]) ?_⟩
   simp only [f213]
   refine s9 ?_;intro Q10 Y10
   repeat' (first
    | (replace Y10:=Y10;simp [hn,b1,A7,A0,z9,c7,u9,Yb])
    | refine Y10 _ _ _ ?_
    | refine dF (id:=6) l0D [] ?_
    | (first | apply cF | apply wN | apply wS) <;> intro Ya <;> (try simp only [Ya]) <;> (try simp [-List.isEmpty_iff,-List.isEmpty_eq_false_iff] at Ya))
 ·have h1':J9 n = false:=by simpa using h1
  rw [h1'] at hn
  have hB:a0H ⟨n,o⟩ = false:=by simp [a0H,h1']
  rw [hB]
  have Yb:a0M S.own 213 = false:=by kernel_rfl
  refine ⟨by simp [M5,c7,v9],fun hh=>N2 rfl rfl (by kernel_rfl) func213 rfl (by simp [f213]) ?_⟩
  simp only [f213]
  refine s9 ?_;intro Q11 Y11
  repeat' (first
   | (replace Y11:=Y11;simp [hn,A7,A0,z9,c7,u9,Yb])
   | refine Y11 _ _ _ ?_
   | refine dF (id:=6) l0D [] ?_
   | (first | apply cF | apply wN | apply wS) <;> intro Ya <;> (try simp only [Ya]) <;> (try simp [-List.isEmpty_iff,-List.isEmpty_eq_false_iff] at Ya))
def SeesL (h:H):List RC->List Column->Prop
 | [],[]=>True
 | r::rs,c::cs=>(r.1 = c.name/\Sees h 4 r.2 (cat i9 (ls c.l))/\∀ b,z7 r.2 = some b->b < h.next)/\SeesL h rs cs
 | _,_=>False
structure RowSees (h:H) (s:AS) (rs:List RC) (o:Row):Prop where
 arr:Sees h 2 s (cat b0A rs)
 lt:∀ b,z7 s = some b->b < h.next
 col:SeesL h rs (ls o)
 view:∀ h',h.next <= h'.next->(∀ b,b < h.next->h'.f b = h.f b)->N5 h' 64 s = some (sl 2 l7 o)
theorem SeesL.len {h:H}:∀ {rs:List RC} {cs:List Column},SeesL h rs cs->rs.length = cs.length
 | [],[],_=>rfl
 | r::rs,c::cs,a=>by simp [SeesL.len a.2]
theorem SeesL.at {h:H} {rs:List RC} {cs:List Column} (a:SeesL h rs cs) (i:Nat) (hi:i < rs.length) (hi':i < cs.length):rs[i].1 = cs[i].name/\Sees h 4 rs[i].2 (cat i9 (ls cs[i].l))/\∀ b,z7 rs[i].2 = some b->b < h.next:=by
 induction rs generalizing cs i with
 | nil=>simp at hi
 | cons r rs ih =>
  cases cs with
  | nil=>exact a.elim
  | cons c cs =>
   cases i with
   | zero=>exact a.1
   | succ i=>exact ih a.2 i (by simpa using hi) (by simpa using hi')
theorem m0C (h:H):∀ cs:List Column,SeesL h (cs.map fun c=>(c.name,sl 4 i9 c.l)) cs
 | []=>trivial
 | c::cs=>⟨⟨rfl,i0l J0 h c.l,fun b hb=>by cases hc:c.l <;> simp [hc,sl,z7] at hb⟩,m0C h cs⟩
theorem p0Q:∀ cs:List Column,cat b0A (cs.map fun c=>(c.name,sl 4 i9 c.l)) = cat l7 cs
 | []=>rfl
 | c::cs=>by rw [List.map_cons,X4,X4,p0Q cs];rfl
theorem x0k (h:H) (o:Row):N5 h 64 (sl 2 l7 o) = some (sl 2 l7 o):=d0R (by simp) (by cases o <;> simp [sl]) (by cases o <;> simp [sl])
theorem row_sees (h:H) (o:Row):RowSees h (sl 2 l7 o) ((ls o).map fun c=>(c.name,sl 4 i9 c.l)) o where
 arr:=by rw [p0Q];exact i0l a0d h o
 lt:=fun b hb=>by cases o <;> simp [sl,z7] at hb
 col:=m0C h _
 view:=fun h' _ _=>x0k h' o
theorem m0R {h:H} {lo:Nat}:∀ {rs:List RC} {cs:List Column},NestL h lo rs cs->SeesL h rs cs
 | [],[],_=>trivial
 | r::rs,c::cs,a=>⟨⟨a.1.1,a.1.2.1.sees J0,fun b hb=>(a.1.2.2.2 b hb).2⟩,m0R a.2⟩
theorem RowAt.sees {h:H} {lo:Nat} {s:AS} {rs:List RC} {o:Row} (a:RowAt h lo s rs o):RowSees h s rs o where
 arr:=a.arr.sees d0K
 lt:=fun b hb=>a.arr.lt hb
 col:=m0R a.col
 view:=fun h' hn hf=>(a.keep hn fun b hb _=>hf b hb).view 61
theorem right_g (o:Row) (ho:(ls o).length < 1000000):Fun K 172 [.agg [sl 2 l7 o]] (fun h=>.ret (.one (.bool (V5 o))) h):=by
 have hd:∀ x h,W K 213 [.agg (l7 x)] h = some (.ret (.one (.bool (a0H x))) h):=fun x h=>(x0t x).pure hp h
 have hB:V5 o = ((ls o).all a0H && J5 f0P (ls o) && decide ((ls o).length <= 4)):=rfl
 obtain ⟨R,hR⟩:∃ R,V5 o = R:=⟨_,rfl⟩
 rw [hR]
 have Yb:a0M S.own 172 = false:=by kernel_rfl
 refine ⟨by simp [M5,v9],fun hh=>N2 rfl rfl (by kernel_rfl) func172 rfl (by simp [f172]) ?_⟩
 simp only [f172]
 refine s9 ?_;intro Q1 Y1
 repeat' (first
  | (replace Y1:=Y1;simp [A7])
  | refine Y1 _ _ _ ?_
  | refine dF (id:=4) l0X [] ?_)
 refine I8 hp (ls o) (fun a r fr hh=>(0 < hh.next/\hh.f 0 = some ⟨0,[1],true,[sl 2 l7 o]⟩/\a.all a0H = true/\J5 f0P a = true)/\∃ j:Nat->AV,fr = (j 0::(.one (.ptr 0 0 0))::(.one (.bool false))::j 3::j 4::j 5::(.one (sl 2 l7 o))::(.one (ii (ls o).length))::(.one (ii a.length))::j 9::j 10::j 11::j 12::j 13::j 14::j 15::j 16::j 17::j 18::j 19::j 20::j 21::j 22::j 23::j 24::j 25::j 26::j 27::j 28::j 29::j 30::j 31::j 32::j 33::j 34::j 35::j 36::[])) ?_ ?_ _ _ ⟨⟨by simp,by simp,rfl,rfl⟩,y0 rfl⟩
 ·rintro a x r fr hh hl ⟨⟨i1,i2,i3,i4⟩,j,rfl⟩
  obtain rfl:=a0R hl
  have hi:=N6 (P:=prog) (enc:=l7) (s:=2) (l:=a++x::r) (i:=a.length) underlying79 (by simp) (by omega) (by simp)
  have hr:=O9 (enc:=l7) (s:=2) a0d a x r (o:=0) (n:=2) (by omega)
  have hlt:decide ((a.length:Int) < ((a++x::r).length:Nat)) = true:=by simp;omega
  have hw:IntKind.i64.wrap ((a.length:Int) + 1) = ((a++[x]).length:Int):=by rw [S4];exact J1 (by simp at ho;omega)
  have hne:¬ 0 = hh.next:=by omega
  have hne2:¬ hh.next = 0:=by omega
  have hx:=hd x
  simp only [Nat.add_zero] at hr
  have hrx:sub (l7 x) 0 2 = some (l7 x):=L4 (a0d x)
  rw [hrx] at hr
  obtain ⟨xn,xl⟩:=x
  have hlt2:a.length < (a++(⟨xn,xl⟩:Column)::r).length:=by simp
  simp only [l7] at *
  cases hv:a0H ⟨xn,xl⟩ with
  | false =>
   have hB:V5 (some (a++⟨xn,xl⟩::r)) = false:=by rw [hB,K6,j0N hv];rfl
   rw [hB] at hR;subst hR
   rw [hv] at hx
   generalize (a++(⟨xn,xl⟩:Column)::r) = L at *
   first | (refine s9 ?_;intro Q2 Y2) | have Y2:=oqk
   repeat' (first
    | (replace Y2:=Y2;simp [hi,hr,hlt2,hx])
    | (refine Y2 _ _ _ ?_;clear Y2 Q2;first | simp only [] | simp [i2] | skip)
    | (refine F6 (by assumption) ?_;(try clear Y2);first | simp only [] | simp [A7,A0,z9,c7,u9,Yb] | skip)
    | ((fail_if_success replace Y2:=Y2);(first | refine s9 ?_ | refine A1 ?_ | refine A4 ?_);intro Q2 Y2)
    | refine dF (id:=4) l0X [] ?_)
  | true =>
   rw [hv] at hx
   rcases g0X a with rfl | ⟨a',⟨yn,yl⟩,rfl⟩
   ·simp only [oql,oqc,Nat.zero_mul] at hi hr hlt2
    have hw1:IntKind.i64.wrap 1 = 1:=rfl
    generalize hL:((⟨xn,xl⟩:Column)::r) = L at *
    first | (refine s9 ?_;intro Q3 Y3) | have Y3:=oqk
    repeat' (first
     | (replace Y3:=Y3;simp [hi,hr,hlt2,hx,hw1])
     | (refine Y3 _ _ _ ?_;clear Y3 Q3;first | simp only [] | simp [i2,hi,hr,hlt2,hne,hne2,hx,hw1,A7,A0,z9,A5,L9,c7,v9,u9,Yb] | skip)
     | (refine F6 (by assumption) ?_;(try clear Y3);first | simp only [] | simp [i2,hi,hr,hlt2,hne,hne2,hx,hw1,A7,A0,z9,A5,L9,c7,v9,u9,Yb] | skip)
     | ((fail_if_success replace Y3:=Y3);(first | refine s9 ?_ | refine A1 ?_ | refine A4 ?_);intro Q3 Y3)
     | refine dF (id:=4) l0X [] ?_)
    all_goals first | (refine ⟨⟨by simp,by simp [hne,i2],by simp [hv],rfl⟩,y0 (by simp)⟩) | trace_state
   ·have hi2:=N6 (P:=prog) (enc:=l7) (s:=2) (l:=(a'++[⟨yn,yl⟩])++⟨xn,xl⟩::r) (i:=a'.length) underlying79 (by simp) (by omega) (by simp)
    have hr2:=O9 (enc:=l7) (s:=2) a0d a' ⟨yn,yl⟩ (⟨xn,xl⟩::r) (o:=0) (n:=1) (by omega)
    have hs2:sub (l7 ⟨yn,yl⟩) 0 1 = some [.str yn]:=rfl
    rw [hs2] at hr2
    have hN:(a'++[(⟨yn,yl⟩:Column)]).length = a'.length + 1:=by simp
    have hsb:IntKind.i64.wrap ((((a'++[⟨yn,yl⟩]:List Column).length:Nat):Int) - 1) = (a'.length:Int):=by rw [wrap_i64 (by simp) (by simp;simp at ho;omega)];simp
    have ha:a'++[(⟨yn,yl⟩:Column)]++(⟨xn,xl⟩:Column)::r = a'++⟨yn,yl⟩::⟨xn,xl⟩::r:=by simp
    rw [<- ha,Nat.add_zero] at hr2
    have hch:J5 f0P (a'++[⟨yn,yl⟩]++[⟨xn,xl⟩]) = (J5 f0P (a'++[⟨yn,yl⟩]) && blt yn xn):=by rw [oqh,List.singleton_append,l0q];rfl
    have hal:(a'++[⟨yn,yl⟩]++[⟨xn,xl⟩]:List Column).all a0H = true:=by rw [List.all_append,i3];simp [hv]
    cases hy:Op.bytesLess yn xn with
    | false =>
     have hB:V5 (some (a'++[⟨yn,yl⟩]++⟨xn,xl⟩::r)) = false:=by rw [hB,K6,ha,m0z (show f0P ⟨yn,yl⟩ ⟨xn,xl⟩ = false from hy)];simp
     rw [hB] at hR;subst hR
     generalize (a'++[(⟨yn,yl⟩:Column)]++(⟨xn,xl⟩:Column)::r) = L at *
     generalize (a'++[(⟨yn,yl⟩:Column)]).length = N at *
     have hg2:0 < N:=by omega
     first | (refine s9 ?_;intro Q4 Y4) | have Y4:=oqk
     repeat' (first
      | (replace Y4:=Y4;simp [i2,hi,hr,hlt2,hne,hx,hsb,hi2,hr2,O7,hy,hg2])
      | (refine Y4 _ _ _ ?_;clear Y4 Q4;first | simp only [] | simp [i2] | skip)
      | (refine F6 (by assumption) ?_;(try clear Y4);first | simp only [] | simp [A7,A0,z9,c7,u9,Yb] | skip)
      | ((fail_if_success replace Y4:=Y4);(first | refine s9 ?_ | refine A1 ?_ | refine A4 ?_);intro Q4 Y4)
      | refine dF (id:=4) l0X [] ?_)
    | true =>
     rw [i4,show blt yn xn = true from hy] at hch
     generalize (a'++[(⟨yn,yl⟩:Column)]++(⟨xn,xl⟩:Column)::r) = L at *
     generalize (a'++[(⟨yn,yl⟩:Column)]++[(⟨xn,xl⟩:Column)]) = A2 at *
     generalize (a'++[(⟨yn,yl⟩:Column)]).length = N at *
     have hg2:0 < N:=by omega
     first | (refine s9 ?_;intro Q5 Y5) | have Y5:=oqk
     repeat' (first
      | (replace Y5:=Y5;simp [i2,hi,hr,hlt2,hne,hx,hsb,hi2,hr2,O7,hy,hg2,hw])
      | (refine Y5 _ _ _ ?_;clear Y5 Q5;first | simp only [] | simp [i2,hi,hr,hlt2,hne,hne2,hx,hsb,hi2,hr2,O7,hy,hg2,hw,A7,A0,z9,A5,L9,c7,v9,u9,Yb] | skip)
      | (refine F6 (by assumption) ?_;(try clear Y5);first | simp only [] | simp [i2,hi,hr,hlt2,hne,hne2,hx,hsb,hi2,hr2,O7,hy,hg2,hw,A7,A0,z9,A5,L9,c7,v9,u9,Yb] | skip)
      | ((fail_if_success replace Y5:=Y5);(first | refine s9 ?_ | refine A1 ?_ | refine A4 ?_);intro Q5 Y5)
      | refine dF (id:=4) l0X [] ?_)
     all_goals first | (refine ⟨⟨by simp,by simp [hne,i2],hal,hch⟩,y0 (by simp)⟩) | trace_state
 ·rintro fr hh ⟨⟨i1,i2,i3,i4⟩,j,rfl⟩
  have h4:decide (((ls o).length:Int) <= 4) = decide ((ls o).length <= 4):=by rw [decide_eq_decide];omega
  have h5:(((ls o).length:Int) <= 4) = ((ls o).length <= 4):=by apply propext;omega
  rw [hB,i3,i4] at hR
  simp only [Bool.true_and] at hR
  subst hR
  first | (refine s9 ?_;intro Q6 Y6) | have Y6:=oqk
  repeat' (first
   | (replace Y6:=Y6;simp [i2,h5])
   | (refine Y6 _ _ _ ?_;clear Y6 Q6;first | simp only [] | simp [i2,h4,h5,A7,A0,z9,A5,L9,c7,v9,u9,Yb] | skip)
   | (refine F6 (by assumption) ?_;(try clear Y6);first | simp only [] | simp [A7,A0,z9,c7,u9,Yb] | skip)
   | ((fail_if_success replace Y6:=Y6);(first | refine s9 ?_ | refine A1 ?_ | refine A4 ?_);intro Q6 Y6)
   | refine dF (id:=4) l0X [] ?_)
  all_goals first | done | (simp_all [-List.isEmpty_iff,-List.isEmpty_eq_false_iff,<- List.isEmpty_iff];done) | (simp_all;first | done | omega) | (simp;omega) | (intros;first | omega | (simp only [oqj] at *;omega) | (simp at *;omega))
theorem sees_keep {h h':H} {size:Nat} {a:AS} {cells:List AS} (hs:Sees h size a cells) (hk:∀ b,z7 a = some b->h'.f b = h.f b):Sees h' size a cells:=by
 cases a <;> simp only [Sees] at hs |-
 ·exact hs
 ·refine ⟨hs.1, ?_⟩
  have:=hs.2
  simp only [K8] at this |-
  rw [hk _ rfl];exact this
 all_goals exact hs
theorem right_s {h:H} {s:AS} {rs:List RC} {o:Row} (w:RowSees h s rs o) (ho:(ls o).length < 1000000) {h':H} (hn:h.next <= h'.next) (hf:∀ b,b < h.next->h'.f b = h.f b):W K 172 [.agg [s]] h' = some (.ret (.one (.bool (V5 o))) h'):=by
 by_cases hp':([AV.agg [s]]).all M5 = true
 ·have hv:b0s h' [.agg [s]] = some [.agg [s]]:=by unfold b0s;rw [if_pos hp']
  have hs:=w.view h' hn hf
  have e:s = sl 2 l7 o:=by
   cases s with
   | nilslc=>simp [N5,c7] at hs;exact hs
   | vs n k cells =>
    simp only [List.all_cons,List.all_nil,M5,v9,Bool.and_true] at hp'
    simp only [N5,hp',if_true,oqI] at hs;exact hs
   | slc b v o n k c=>simp [M5,v9,c7] at hp'
   | _=>have:=w.arr;simp [Sees] at this
  rw [e]
  exact (right_g o ho).pure hp h'
 ·refine (right_g o ho).view hp ?_
  unfold b0s
  rw [if_neg hp']
  simp only [List.mapM_cons,List.mapM_nil,d0b,w.view h' hn hf,oqE,oqS,oqP]
theorem colB_inv {c:Column} (h:a0H c = true):(ls c.l).length <= 2/\ls c.l ≠ []/\∀ v ∈ ls c.l,b0B v = true:=by
 simp only [a0H,oqd,oqj] at h
 exact ⟨h.1.2.2,fun e=>by have:=h.1.2.1;rw [e] at this;simp at this,oqn.1 h.2.1⟩
theorem v0B {v:Version} (h:b0B v = true):v.v.kind = 1->(ls v.v.b).length <= 1099511627776:=by
 intro hk
 simp only [b0B,V7,hk,oqd,beq_self_eq_true,Bool.true_and,Bool.or_eq_true,oqj,f0w] at h
 rcases h.2.2 with h | h
 ·omega
 ·simp at h
theorem copy_c {h:H} {s:AS} {rs:List RC} {o:Row} (w:RowSees h s rs o) (ho:(ls o).length < 1000000) :
  ∃ r,W K 166 [.agg [s]] h = some r/\Rets (fun v h'=>∃ s' rs',v = .agg [s']/\RowAt h' h.next s' rs' (rowCopy o)/\h.next <= h'.next/\∀ b,b < h.next->h'.f b = h.f b) r:=by
 refine Rets.intro fun P hP=>?_
 have hR:∀ k1 k2 k3,W K 172 [.agg [s]] (((h.new k1).new k2).new k3) = some (.ret (.one (.bool (V5 o))) (((h.new k1).new k2).new k3)):=fun k1 k2 k3=>right_s w ho (by simp;omega) (fun b hb=>by rw [L8,if_neg (by simp;omega),L8,if_neg (by simp;omega),L8,if_neg (by omega)])
 cases hB:V5 o with
 | false =>
  have e1:rowCopy o = none:=by rw [rowCopy,hB];rfl
  rw [e1] at hP
  rw [hB] at hR
  refine zzE func166 rfl ?_
  simp only [f166]
  intro Q1 Y1
  repeat' (first
   | (replace Y1:=Y1;simp [hR])
   | refine Y1 _ _ _ ?_
   | refine dF (id:=11) h0R [(1,6),(3,6)] ?_)
  exact hP _ _ ⟨_,[],rfl,⟨.inl ⟨rfl,rfl⟩,by simp,by simp [z7],trivial,by simp⟩,by simp;omega,fun b hb=>by simp [hb,C0V,B0v,F0f]⟩
 | true =>
  have e1:rowCopy o = nz ((ls o).map W7):=by rw [rowCopy,hB];rfl
  rw [e1] at hP
  rw [hB] at hR
  have hall:(ls o).all a0H = true:=by simp only [V5,oqd] at hB;exact hB.1.1
  have hcl:=A8 d0K rs
  have hrl:=w.col.len
  have hla:∀ (u:TypeId) (h':H),V9 s (some (.slice u)) h' = some (one (ii (ls o).length) h'):=fun u h'=>by rw [U4 h' u w.arr (by omega) hcl,hrl]
  refine zzE func166 rfl ?_
  simp only [f166]
  intro Q2 Y2
  repeat' (first
   | (replace Y2:=Y2;simp [hR,hla])
   | refine Y2 _ _ _ ?_
   | refine dF (id:=11) h0R [(1,6),(3,6)] ?_)
  refine I8 hp (ls o) (fun a r fr hh=>(h.next + 1 + 1 + 1 <= hh.next/\(∀ b,b < h.next->hh.f b = h.f b)/\hh.f (h.next + 1) = some ⟨0,[1],true,[.nilslc]⟩/\∃ s1 rs1,hh.f (h.next + 1 + 1) = some ⟨0,[1],true,[s1]⟩/\rs1.length = a.length/\RowAt hh (h.next + 1 + 1 + 1) s1 rs1 (nz (a.map W7)))/\∃ j:Nat->AV,fr = (j 0::(.one (.ptr h.next 0 0))::(.one (.ptr (h.next + 1) 0 0))::(.one (.ptr (h.next + 1 + 1) 0 0))::j 4::j 5::j 6::j 7::j 8::j 9::j 10::j 11::j 12::j 13::(.one s)::(.one (ii (ls o).length))::(.one (ii a.length))::j 17::j 18::j 19::j 20::j 21::j 22::j 23::j 24::j 25::j 26::j 27::j 28::j 29::j 30::j 31::j 32::j 33::j 34::j 35::j 36::j 37::j 38::j 39::j 40::j 41::j 42::j 43::j 44::j 45::j 46::j 47::j 48::j 49::[])) ?_ ?_ _ _ ⟨⟨by simp,fun b hb=>by simp [hb,C0V,B0v,F0f],by simp,.nilslc,[],by simp,rfl,⟨.inl ⟨rfl,rfl⟩,by simp,by simp [z7],trivial,by simp⟩⟩,y0 rfl⟩
  ·rintro a x r fr hh hl ⟨⟨i1,i2,i3,s1,rs1,i4,i5,i6⟩,j,rfl⟩
   have hil:a.length < (ls o).length:=by rw [hl];simp
   have hir:a.length < rs.length:=by omega
   have hxe:(ls o)[a.length] = x:=by simp only [hl];simp
   have hsee:Sees hh 2 s (cat b0A rs):=sees_keep w.arr fun b hb=>i2 b (w.lt b hb)
   have hix:U7 prog 79 s a.length = some (atS 2 s a.length):=a0b underlying79 (by simp) hsee (by omega) hcl hir
   have hrd:K8 hh (atS 2 s a.length) 2 = some (b0A rs[a.length]):=by rw [a0z hsee (by omega) hcl hir,d0F d0K rs hir]
   obtain ⟨hc1,hc2,hc3⟩:=w.col.at a.length hir hil
   rw [hxe] at hc1 hc2
   have hxb:=oqn.1 hall x (by rw [hl];simp)
   obtain ⟨hx1,hx2,hx3⟩:=colB_inv hxb
   generalize hsv:rs[a.length] = rv at *
   obtain ⟨rn,sv⟩:=rv
   simp only at hc1 hc2 hc3
   subst hc1
   obtain ⟨xn,xl⟩:=x
   simp only at hc2 hx1 hx2 hx3
   have hvl:=A8 J0 (ls xl)
   have hla2:∀ (u:TypeId) (h':H),V9 sv (some (.slice u)) h' = some (one (ii (ls xl).length) h'):=fun u h'=>U4 h' u hc2 (by omega) hvl
   have hlt:decide ((a.length:Int) < (ls o).length) = true:=by simp;omega
   have hlt2:a.length < (ls o).length:=hil
   have hw:IntKind.i64.wrap ((a.length:Int) + 1) = ((a++[(⟨xn,xl⟩:Column)]).length:Int):=by rw [S4];exact J1 (by omega)
   generalize hA2:(a++[(⟨xn,xl⟩:Column)]) = A2 at *
   first | (refine s9 ?_;intro Q3 Y3) | have Y3:=oqk
   repeat' (first
    | (replace Y3:=Y3;simp [hix,hrd,hlt2,hla2])
    | (refine Y3 _ _ _ ?_;clear Y3 Q3;first | simp only [] | simp [hix,hrd,hlt,hlt2,hla2] | skip)
    | (refine F6 (by assumption) ?_;(try clear Y3);first | simp only [] | simp [hix,hrd,hlt,hlt2,hla2] | skip)
    | ((fail_if_success replace Y3:=Y3);(first | refine s9 ?_ | refine A1 ?_ | refine A4 ?_);intro Q3 Y3)
    | refine dF (id:=11) h0R [(1,6),(3,6)] ?_)
   obtain ⟨hb1,hB1⟩:∃ k,k = (⟨0,[2],true,[.str xn,sv]⟩:Blk):=⟨_,rfl⟩
   refine I8 hp (ls xl) (fun a2 r2 fr hh2=>(hh.next + 1 + 1 <= hh2.next/\(∀ b,b < hh.next->hh2.f b = hh.f b)/\∃ s2,hh2.f (hh.next + 1) = some ⟨0,[2],true,[.str xn,s2]⟩/\Sl hh2 4 i9 s2 (a2.map a0e)/\(s2 = .nilslc ↔ a2 = [])/\∀ b,z7 s2 = some b->hh.next + 1 + 1 <= b)/\∃ j:Nat->AV,fr = (j 0::(.one (.ptr h.next 0 0))::(.one (.ptr (h.next + 1) 0 0))::(.one (.ptr (h.next + 1 + 1) 0 0))::j 4::j 5::(.one (.ptr (hh.next + 1) 0 0))::j 7::j 8::j 9::j 10::j 11::j 12::j 13::(.one s)::(.one (ii (ls o).length))::(.one (ii a.length))::j 17::j 18::j 19::j 20::j 21::j 22::j 23::(.one sv)::(.one (ii (ls xl).length))::(.one (ii a2.length))::j 27::j 28::j 29::j 30::j 31::j 32::j 33::j 34::j 35::j 36::j 37::j 38::j 39::j 40::j 41::j 42::j 43::j 44::j 45::j 46::j 47::j 48::j 49::[])) ?_ ?_ _ _ ⟨⟨by simp,fun b hb=>by simp [hb,C0V,B0v],.nilslc,by simp,.inl ⟨rfl,rfl⟩,by simp,by simp [z7]⟩,y0 (by simp)⟩
   ·rintro a2 y r2 fr hh2 hl2 ⟨⟨j1,j2,s2,j3,j4,j5,j6⟩,j,rfl⟩
    have hyl:a2.length < (ls xl).length:=by rw [hl2];simp
    have hye:(ls xl)[a2.length] = y:=by simp only [hl2];simp
    have hsee2:Sees hh2 4 sv (cat i9 (ls xl)):=sees_keep hc2 fun b hb=>by have:=hc3 b hb;rw [j2 b (by omega),i2 b this]
    have hix2:U7 prog 89 sv a2.length = some (atS 4 sv a2.length):=a0b underlying89 (by simp) hsee2 (by omega) hvl hyl
    have hrd2:K8 hh2 (atS 4 sv a2.length) 4 = some (i9 y):=by rw [a0z hsee2 (by omega) hvl hyl,d0F J0 _ hyl,hye]
    have hyb:=v0B (hx3 y (by rw [hl2];simp))
    obtain ⟨yt,⟨yk,yb,yn⟩⟩:=y
    have hcan:=fun h=>h0l yk yb yn hyb h
    have hlt3:a2.length < (ls xl).length:=hyl
    have hw2:IntKind.i64.wrap ((a2.length:Int) + 1) = ((a2++[(⟨yt,⟨yk,yb,yn⟩⟩:Version)]).length:Int):=by rw [S4];exact J1 (by omega)
    have hmap:(a2++[(⟨yt,⟨yk,yb,yn⟩⟩:Version)]).map a0e = a2.map a0e++[a0e ⟨yt,⟨yk,yb,yn⟩⟩]:=by simp
    have hve:i9 (a0e ⟨yt,⟨yk,yb,yn⟩⟩) = ii yt::a0t (M9 ⟨yk,yb,yn⟩):=rfl
    have j4':Sl ((hh2.new ⟨0,[4],true,i9 ⟨yt,⟨yk,yb,yn⟩⟩⟩).new ⟨0,[4],true,i9 (a0e ⟨yt,⟨yk,yb,yn⟩⟩)⟩) 4 i9 s2 (a2.map a0e):=j4.keep (by simp;omega) fun b hb=>by
     have:=j4.lt hb
     rw [p0 (by simp;omega),p0 (by omega)]
    obtain ⟨s3,h3,e3,⟨b3,v3,z3,hs3,ar3⟩,k1,k2,k3⟩:=P7 (P:=prog) (t:=89) underlying89 (by simp) (by simp) Tryz.bytes93 (by omega) J0 (a:=.slc (hh2.next + 1) 0 0 1 4 none) (m:=[a0e ⟨yt,⟨yk,yb,yn⟩⟩]) j4' rfl (by simp [C6,cat,hve,a0t,sub]) (by simp) (by simp only [oqi,oqb,oqc,Nat.zero_add,N3];omega)
    simp only [A6] at k1 k2 k3
    have hs2:z7 s2 ≠ some (hh.next + 1):=fun e=>by have:=j6 _ e;omega
    have hf3:h3.f (hh.next + 1) = some ⟨0,[2],true,[.str xn,s2]⟩:=by
     rw [k2 _ (by omega) hs2]
     rw [p0 (by simp;omega),p0 (by omega)];exact j3
    have hA0:(a2++[(⟨yt,⟨yk,yb,yn⟩⟩:Version)]) ≠ []:=by simp
    generalize hA3:(a2++[(⟨yt,⟨yk,yb,yn⟩⟩:Version)]) = A3 at *
    simp only [i9,a0t,a0e] at *
    have hne1:¬ hh.next + 1 = hh2.next:=by omega
    have hne2:¬ hh.next + 1 = hh2.next + 1:=by omega
    first | (refine s9 ?_;intro Q4 Y4) | have Y4:=oqk
    repeat' (first
     | (replace Y4:=Y4;simp [hix2,hrd2,hlt3,j3,hcan,e3,hf3,hw2,hne1])
     | (refine Y4 _ _ _ ?_;clear Y4 Q4;first | simp only [] | simp [hix2,hrd2,hlt3,j3,hcan,e3,hf3,hw2,hne1,hne2] | skip)
     | (refine F6 (by assumption) ?_;(try clear Y4);first | simp only [] | simp [hix2,hrd2,hlt3,j3,hcan,e3,hf3,hw2,hne1,hne2] | skip)
     | ((fail_if_success replace Y4:=Y4);(first | refine s9 ?_ | refine A1 ?_ | refine A4 ?_);intro Q4 Y4)
     | refine dF (id:=11) h0R [(1,6),(3,6)] ?_)
    refine ⟨⟨by simp;omega,fun b hb=>?_,s3,by simp,.inr ⟨b3,v3,z3,by rw [hs3,hmap], ?_⟩, ?_,fun b hb=>?_⟩,y0 (by simp)⟩
    ·rw [l0,if_neg (by omega),k2 b (by omega) (fun e=>by have:=j6 b e;omega),p0 (by simp;omega),p0 (by omega)];exact j2 b hb
    ·rw [hmap]
     refine ar3.keep (by simp) ?_
     rw [l0,if_neg]
     rintro rfl
     rcases k3 _ (by rw [hs3];rfl) with e | e
     ·exact hs2 e
     ·omega
    ·rw [hs3];simp [hA0]
    ·rcases k3 b hb with e | e
     ·exact j6 b e
     ·omega
   ·rintro fr hh2 ⟨⟨j1,j2,s2,j3,j4,j5,j6⟩,j,rfl⟩
    have f42:hh2.f (h.next + 1 + 1) = some ⟨0,[1],true,[s1]⟩:=by rw [j2 _ (by omega)];exact i4
    have hcol:ColAt hh2 hh.next (xn,s2) (W7 ⟨xn,xl⟩):=⟨rfl,by simp only [W7,c0u];exact j4,by rw [j5];simp only [W7];rw [f0G (by simpa using hx2)];simp [hx2],fun b hb=>⟨by have:=j6 b hb;omega,j4.lt hb⟩⟩
    obtain ⟨s4,h4,e4,w4,k1,k2,k3⟩:=i6.push (P:=prog) (t:=79) underlying79 (by simp) (by simp) Tryz.bytes91 (by omega) (by omega) (fun b hb _=>j2 b hb) hcol (by simp only [N3];omega)
    have hs1:z7 s1 ≠ some (h.next + 1 + 1):=fun e=>by have:=(i6.own _ e).1;omega
    have f43:h4.f (h.next + 1 + 1) = some ⟨0,[1],true,[s1]⟩:=by rw [k2 _ (by omega) hs1,p0 (by omega)];exact f42
    have hmap:nz (A2.map W7) = some (ls (nz (a.map W7))++[W7 ⟨xn,xl⟩]):=by rw [<- hA2];simp [f0G]
    have hlo4:∀ b,z7 s4 = some b->b ≠ h.next + 1 + 1:=by
     rintro b hb rfl
     rcases k3 _ hb with e | e
     ·exact hs1 e
     ·omega
    have hA2l:A2.length = a.length + 1:=by rw [<- hA2];simp
    first | (refine s9 ?_;intro Q5 Y5) | have Y5:=oqk
    repeat' (first
     | (replace Y5:=Y5;simp [j3,f42,e4,f43])
     | (refine Y5 _ _ _ ?_;clear Y5 Q5;first | simp only [] | simp [hw] | skip)
     | (refine F6 (by assumption) ?_;(try clear Y5);first | simp only [] | simp [j3,f42,e4,f43,hw] | skip)
     | ((fail_if_success replace Y5:=Y5);(first | refine s9 ?_ | refine A1 ?_ | refine A4 ?_);intro Q5 Y5)
     | refine dF (id:=11) h0R [(1,6),(3,6)] ?_)
    refine ⟨⟨by simp;omega,fun b hb=>?_, ?_,s4,rs1++[(xn,s2)],by simp, ?_, ?_⟩,y0 (by simp)⟩
    ·rw [l0,if_neg (by omega),k2 b (by omega) (fun e=>by have:=(i6.own b e).1;omega),p0 (by omega),j2 b (by omega)];exact i2 b hb
    ·rw [l0,if_neg (by omega),k2 _ (by omega) (fun e=>by have:=(i6.own _ e).1;omega),p0 (by omega),j2 _ (by omega)];exact i3
    ·simp [i5,hA2l]
    ·rw [hmap]
     refine w4.keep (by simp) fun b hb hx=>?_
     rw [l0,if_neg]
     rintro rfl
     rcases hx with e | e
     ·exact hlo4 _ e rfl
     ·have:=(w4.col.lt _ e).1;omega
  ·rintro fr hh ⟨⟨i1,i2,i3,s1,rs1,i4,i5,i6⟩,j,rfl⟩
   first | (refine s9 ?_;intro Q6 Y6) | have Y6:=oqk
   repeat' (first
    | (replace Y6:=Y6;simp [i3,i4])
    | (refine Y6 _ _ _ ?_;clear Y6 Q6;first | simp only [] | simp [i3,i4] | skip)
    | (refine F6 (by assumption) ?_;(try clear Y6);first | simp only [] | simp [i3] | skip)
    | ((fail_if_success replace Y6:=Y6);(first | refine s9 ?_ | refine A1 ?_ | refine A4 ?_);intro Q6 Y6)
    | refine dF (id:=11) h0R [(1,6),(3,6)] ?_)
   exact hP _ _ ⟨s1,rs1,rfl,(i6.keep (by simp) fun b hb hx=>by rw [l0,if_neg];rintro rfl;rcases hx with e | e;{ have:=(i6.own _ e).1;omega };{ have:=(i6.col.lt _ e).1;omega }) |>.weaken (by omega),by simp;omega,fun b hb=>by rw [l0,if_neg (by omega)];exact i2 b hb⟩
theorem cmpS_c (a b:BL) (h:H):W K 64 [.one (.str a),.one (.str b)] h = some (.ret (.one (ii (a0j a b))) h):=by
 have hn:∀ a h,W K 105 [.one (.str a)] h = some (.ret (.one (.bool false)) h):=by
  intro a h
  have he:(a == a) = true:=by simp
  refine zzP func105 rfl ?_
  simp only [f105]
  intro Yb Q1 Y1
  repeat' (first
   | (replace Y1:=Y1;simp [O7])
   | (refine Y1 _ _ _ ?_;clear Y1 Q1;first | simp only [] | simp [A7,A0,z9,c7,u9,Yb]))
  all_goals first | done | (simp_all [-List.isEmpty_iff,-List.isEmpty_eq_false_iff,<- List.isEmpty_iff];done) | (simp_all;first | done | omega) | (simp;omega) | (intros;first | omega | (simp only [oqj] at *;omega) | (simp at *;omega))
 cases h1:Op.bytesLess a b with
 | true =>
  have e:a0j a b = -1:=by simp [a0j,h1]
  rw [e]
  refine zzP func64 rfl ?_
  simp only [f64]
  intro Yb Q2 Y2
  repeat' (first
   | (replace Y2:=Y2;simp [hn,O7,h1,A7,A0,z9,c7,u9,Yb])
   | refine Y2 _ _ _ ?_)
 | false =>
  cases h2:Op.bytesLess b a with
  | true =>
   have hne:(a == b) = false:=by simp;rintro rfl;rw [h1] at h2;cases h2
   have e:a0j a b = 1:=by simp [a0j,h1,hne]
   rw [e]
   have hne2:¬ a = b:=by simpa using hne
   refine zzP func64 rfl ?_
   simp only [f64]
   intro Yb Q3 Y3
   repeat' (first
    | (replace Y3:=Y3;simp [hn,O7,h1,hne,A7,A0,z9,c7,u9,Yb])
    | refine Y3 _ _ _ ?_)
  | false =>
   have e0:=a0a h1 h2
   subst e0
   have e:a0j a a = 0:=by simp [a0j,h1]
   rw [e]
   refine zzP func64 rfl ?_
   simp only [f64]
   intro Yb Q4 Y4
   repeat' (first
    | (replace Y4:=Y4;simp [hn,O7,h1,A7,A0,z9,c7,u9,Yb])
    | refine Y4 _ _ _ ?_)
theorem f0b (a b:BL):a0j a b < 0 ↔ blt a b = true:=by
 unfold a0j blt
 cases h:Op.bytesLess a b <;> simp
 split <;> simp
theorem o0a (a b:BL):(a0j a b == 0) = (a == b):=by
 unfold a0j
 cases h:Op.bytesLess a b with
 | true =>
  have:(a == b) = false:=by simp;rintro rfl;rw [X1] at h;cases h
  simp [this]
 | false=>cases h2:(a == b) <;> simp
theorem y0I (c:Column) (n:BL) (h:H):W K 267 [.agg (l7 c),.one (.str n)] h = some (.ret (.one (ii (a0j c.name n))) h):=by
 obtain ⟨cn,cl⟩:=c
 have hc:=cmpS_c cn n
 simp only [l7]
 refine zzP func267 rfl ?_
 simp only [f267]
 intro Yb Q5 Y5
 repeat' (first
  | (replace Y5:=Y5;simp [hc,A7,A0,z9,c7,u9,Yb])
  | refine Y5 _ _ _ ?_)
theorem z0y {h:H} {s:AS} {l:List Column} (hs:Sees h 2 s (cat l7 l)) (g:Nat) (tgt:AV) (c:Column->Int) (hg:∀ x h,W K g [.agg (l7 x),tgt] h = some (.ret (.one (ii (c x))) h)) (k:Nat) (hk:k <= l.length) (h1:∀ i (hi:i < l.length),i < k ↔ c l[i] < 0) (hl:l.length < 1000000) :
  W K 266 [.one s,tgt,.one (.fn g [] [])] h = some (.ret (.tup [(false,[ii k]),(false,[.bool (match l[k]? with | some x=>c x == 0 | none=>false)])]) h):=by
 have hcl:=A8 a0d l
 have hla:∀ (u:TypeId) (h':H),V9 s (some (.slice u)) h' = some (one (ii l.length) h'):=fun u h'=>U4 h' u hs (by omega) hcl
 have hix:∀ i,i < l.length->U7 prog 79 s i = some (atS 2 s i):=fun i hi=>a0b underlying79 (by simp) hs (by omega) hcl hi
 have hrd:∀ i (hi:i < l.length),K8 h (atS 2 s i) 2 = some (l7 l[i]):=fun i hi=>by rw [a0z hs (by omega) hcl hi,d0F a0d l hi]
 refine zzD func266 rfl ?_
 simp only [f266]
 intro Q6 Y6
 repeat' (first
  | (replace Y6:=Y6;simp [hla])
  | refine Y6 _ _ _ ?_)
 refine b0x hp (fun m fr hh=>hh = h/\∃ (i u:Nat),i <= k/\k <= u/\u <= l.length/\m = u - i/\∃ j:Nat->AV,fr = ((.one s)::(tgt)::(.one (.fn g [] []))::j 3::j 4::j 5::j 6::j 7::(.one (ii l.length))::(.one (ii i))::(.one (ii u))::j 11::j 12::j 13::j 14::j 15::j 16::j 17::j 18::j 19::j 20::j 21::j 22::j 23::j 24::j 25::j 26::j 27::j 28::j 29::j 30::j 31::j 32::j 33::j 34::j 35::j 36::j 37::j 38::j 39::j 40::j 41::j 42::j 43::j 44::j 45::j 46::j 47::j 48::[])) ?_ l.length _ _ ⟨rfl,0,l.length,by omega,hk,by omega,by omega,y0 rfl⟩
 rintro m fr hh ⟨rfl,i,u,q1,q2,q3,rfl,j,rfl⟩
 by_cases hij:i < u
 ·have d1:decide ((i:Int) < u) = true:=by simp;omega
  have hm:(i + u) / 2 < l.length:=by omega
  have w1:IntKind.i64.wrap ((i:Int) + u) = (i:Int) + u:=wrap_i64 (by omega) (by omega)
  have w2:IntKind.u64.wrap ((i:Int) + u) = (i:Int) + u:=c0M (by omega) (by omega)
  have w3:a0Y .shr .u64 ((i:Int) + u) 1 = some (.int .u64 (((i + u) / 2:Nat):Int)):=by
   simp only [a0Y]
   rw [if_neg (by omega)]
   have e:(2:Int) ^ min (1:Int).toNat IntKind.u64.bits = 2:=rfl
   rw [e,Int.fdiv_eq_ediv_of_nonneg _ (by omega)]
   simp
  have w4:IntKind.i64.wrap (((i + u) / 2:Nat):Int) = (((i + u) / 2:Nat):Int):=wrap_i64 (by omega) (by omega)
  have w5:IntKind.i64.wrap ((((i + u) / 2:Nat):Int) + 1) = (((i + u) / 2:Nat):Int) + 1:=wrap_i64 (by omega) (by omega)
  have x1:=hix _ hm
  have x2:=hrd _ hm
  have x3:=h1 _ hm
  generalize hM:(i + u) / 2 = M at *
  generalize hX:l[M] = X at *
  have x4:=hg X
  by_cases hc:c X < 0
  ·have d2:decide (c X < 0) = true:=by simp [hc]
   have hMk:=x3.2 hc
   first | (refine s9 ?_;intro Q7 Y7) | have Y7:=oqk
   repeat' (first
    | (replace Y7:=Y7;simp [hij,w1,w2,w3,w4,w5,x1,x2,x4,hc,B6])
    | (refine Y7 _ _ _ ?_;clear Y7 Q7;first | simp only [] | simp [d1,hij,w1,w2,w3,w4,w5,x1,x2,x4,d2,hc,B6] | skip)
    | (refine F6 (by assumption) ?_;(try clear Y7);first | simp only [] | simp [d1,hij,w1,w2,w3,w4,w5,x1,x2,x4,d2,hc,B6] | skip)
    | ((fail_if_success replace Y7:=Y7);(first | refine s9 ?_ | refine A1 ?_ | refine A4 ?_);intro Q7 Y7))
   all_goals exact ⟨u - (M + 1),by omega,trivial,M + 1,u,by omega,q2,q3,rfl,y0 (by simp)⟩
  ·have d2:decide (c X < 0) = false:=by simp [hc]
   have hMk:¬ M < k:=fun h=>hc (x3.1 h)
   first | (refine s9 ?_;intro Q8 Y8) | have Y8:=oqk
   repeat' (first
    | (replace Y8:=Y8;simp [hij,w1,w2,w3,w4,x1,x2,x4,hc,B6])
    | (refine Y8 _ _ _ ?_;clear Y8 Q8;first | simp only [] | simp [d1,hij,w1,w2,w3,w4,w5,x1,x2,x4,d2,hc,B6] | skip)
    | (refine F6 (by assumption) ?_;(try clear Y8);first | simp only [] | simp [d1,hij,w1,w2,w3,w4,w5,x1,x2,x4,d2,hc,B6] | skip)
    | ((fail_if_success replace Y8:=Y8);(first | refine s9 ?_ | refine A1 ?_ | refine A4 ?_);intro Q8 Y8))
   all_goals exact ⟨M - i,by omega,trivial,i,M,q1,by omega,by omega,rfl,y0 (by simp)⟩
 ·have d1:decide ((i:Int) < u) = false:=by simp;omega
  have hik:i = k:=by omega
  have hjk:u = k:=by omega
  subst hjk hik
  by_cases hkl:i < l.length
  ·have d2:decide ((i:Int) < l.length) = true:=by simp;omega
   have x1:=hix _ hkl
   have x2:=hrd _ hkl
   have x5:l[i]? = some l[i]:=List.getElem?_eq_getElem hkl
   generalize hX:l[i] = X at *
   have x4:=hg X
   first | (refine s9 ?_;intro Q9 Y9) | have Y9:=oqk
   repeat' (first
    | (replace Y9:=Y9;simp [hkl,x1,x2,x4])
    | (refine Y9 _ _ _ ?_;clear Y9 Q9;first | simp only [] | simp [d1,hij,d2,hkl,x1,x2,x4,x5] | skip)
    | (refine F6 (by assumption) ?_;(try clear Y9);first | simp only [] | simp [hkl] | skip)
    | ((fail_if_success replace Y9:=Y9);(first | refine s9 ?_ | refine A1 ?_ | refine A4 ?_);intro Q9 Y9))
   all_goals first | rfl | rw [hX]
  ·have d2:decide ((i:Int) < l.length) = false:=by simp;omega
   have x5:l[i]? = none:=List.getElem?_eq_none (by omega)
   first | (refine s9 ?_;intro Q10 Y10) | have Y10:=oqk
   repeat' (first
    | (replace Y10:=Y10;simp [hkl])
    | (refine Y10 _ _ _ ?_;clear Y10 Q10;first | simp only [] | simp [d1,hij,d2,hkl,x5] | skip)
    | (refine F6 (by assumption) ?_;(try clear Y10);first | simp only [] | simp [hkl] | skip)
    | ((fail_if_success replace Y10:=Y10);(first | refine s9 ?_ | refine A1 ?_ | refine A4 ?_);intro Q10 Y10))
theorem S1 (a b c:BL) (h1:blt a b = true) (h2:blt b c = true):blt a c = true:=h0s h1 h2
theorem x0m {l:List Column} (hs:J5 f0P l = true) (n:BL) (i:Nat) (hi:i < l.length):i < S9 l n ↔ a0j l[i].name n < 0:=by
 rw [f0b]
 induction l generalizing i with
 | nil=>simp at hi
 | cons c l ih =>
  have hall:=c0b (r:=f0P) (fun a b c h1 h2=>S1 _ _ _ h1 h2) hs
  unfold S9
  cases hc:blt c.name n with
  | true =>
   simp only [List.takeWhile_cons,hc,if_true,oqb]
   cases i with
   | zero=>simp [hc]
   | succ i =>
    have:=ih (f0d hs) i (by simpa using hi)
    unfold S9 at this
    simp only [List.getElem_cons_succ]
    rw [<- this];omega
  | false =>
   simp only [List.takeWhile_cons,hc,oqF,if_false,oqc,Nat.not_lt_zero,false_iff]
   cases i with
   | zero=>simp [hc]
   | succ i =>
    simp only [List.getElem_cons_succ]
    intro hx
    have h1:blt c.name (l[i]'(by simpa using hi)).name = true:=hall _ (List.getElem_mem _)
    rw [S1 _ _ _ h1 hx] at hc;cases hc
theorem i0i {α:Type} (p:α->Bool):∀ l:List α,(l.takeWhile p).length <= l.length
 | []=>oqg _
 | a::l=>by
  simp only [List.takeWhile_cons]
  split
  ·have:=i0i p l;simp;exact this
  ·simp
theorem k0x (l:List Column) (n:BL):S9 l n <= l.length:=i0i _ _
theorem find_g (o:Row) (n:BL) (hr:V5 o = true):Fun K 254 [.agg [sl 2 l7 o],.one (.str n)] (fun h=>.ret (.tup [(false,[ii (S9 (ls o) n)]),(false,[.bool (a0f (ls o) n)])]) h):=by
 simp only [V5,oqd,oqj] at hr
 have hb:=fun h=>z0y (h:=h) (s:=sl 2 l7 o) (l:=ls o) (i0l a0d h o) 267 (.one (.str n)) (fun c=>a0j c.name n) (fun x h=>y0I x n h) (S9 (ls o) n) (k0x _ _) (fun i hi=>x0m hr.1.2 n i hi) (by omega)
 have he:(match (ls o)[S9 (ls o) n]? with | some x=>a0j x.name n == 0 | none=>false) = a0f (ls o) n:=by
  unfold a0f;generalize (ls o)[S9 (ls o) n]? = q;cases q <;> simp [o0a]
 rw [he] at hb
 generalize a0f (ls o) n = T at *
 generalize S9 (ls o) n = I at *
 have Yb:a0M S.own 254 = false:=by kernel_rfl
 refine ⟨by simp [M5,c7,v9],fun hh=>N2 rfl rfl (by kernel_rfl) func254 rfl (by simp [f254]) ?_⟩
 simp only [f254]
 refine s9 ?_;intro Q11 Y11
 repeat' (first
  | (replace Y11:=Y11;simp [hb,A7,A0,z9,L9,c7,u9,Yb])
  | refine Y11 _ _ _ ?_)
end Go.Proofs.YtiagcnfmgigllaaGreat.Rw
