/- A part of a proof over the abstract machine. No conditions. -/
import Derived.Test.YtkpmdlcmbemgdaaGreatSeatK
import Derived.Test.YtkpmdlcmbemgdaaGreatAb3
namespace Go.Proofs.YtkpmdlcmbemgdaaGreat
open Go Go.Ab
@[simp] theorem K_seq (a b:Code) (fr:Fr) (h:H) (Q:Ex→Fr→H→Prop):Does K (.seq a b) fr h Q = Does K a fr h (seqQ K b Q):=does_seq5 hp a b fr h Q
@[simp] theorem K_skip (fr:Fr) (h:H) (Q:Ex→Fr→H→Prop):Does K .skip fr h Q = Q .normal fr h:=does_skip5 hp fr h Q
@[simp] theorem K_exit (id:Nat) (fr:Fr) (h:H) (Q:Ex→Fr→H→Prop):Does K (.exit id) fr h Q = Q (.exit id) fr h:=does_exit5 hp id fr h Q
@[simp] theorem K_ret (fr:Fr) (h:H) (Q:Ex→Fr→H→Prop):Does K .ret fr h Q = Q .ret fr h:=does_ret5 hp fr h Q
@[simp] theorem K_region (id:Nat) (l:List Oper) (fr:Fr) (h:H) (Q:Ex→Fr→H→Prop):Does K (.region id l.toArray false) fr h Q = DoesO K l l fr h Q:=does_region5 hp id l fr h Q
@[simp] theorem K_block (id:Nat) (b:Code) (fr:Fr) (h:H) (Q:Ex→Fr→H→Prop):Does K (.block id b) fr h Q = Does K b fr h (blockQ id Q):=does_block5 hp id b fr h Q
@[simp] theorem K_cond (c:Operand) (a b:Code) (fr:Fr) (h:H) (Q:Ex→Fr→H→Prop):Does K (.cond c a b) fr h Q = condK K a b fr h Q (evS fr c):=does_cond5 hp c a b fr h Q
theorem dF {id:Nat} {l:List Oper} {fr:Fr} {h:H} {Q:Ex→Fr→H→Prop} (c:List Nat) (U:List (Nat × Nat)) (hq:DoesF K l U c fr h [] [] Q)
  (hk:(okDraw K.P l && (canon K.P l == c) && (loose K.P l (ancs l []) (canon K.P l) == U) && nodupB c) = true:=by kernel_rfl):Does K (.region id l.toArray true) fr h Q:=doesF_gen hp c U hq hk
@[simp] theorem rep_und (n:Nat):List.replicate (n + 1) AV.undef = AV.undef::List.replicate n AV.undef:=rfl
end Go.Proofs.YtkpmdlcmbemgdaaGreat
