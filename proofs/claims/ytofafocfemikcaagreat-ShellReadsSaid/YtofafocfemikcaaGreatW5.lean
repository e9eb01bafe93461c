/- A part of a proof over the abstract machine. No conditions. -/
import Derived.Test.YtofafocfemikcaaGreatSeatK
import Derived.Test.YtofafocfemikcaaGreatAb3
import Derived.Test.YtofafocfemikcaaGreatAb5
import Derived.Test.YtofafocfemikcaaGreatAb5
namespace Go.Proofs.YtofafocfemikcaaGreat
open Go Go.Ab Wm
@[simp] theorem K_seq (a b:Code) (fr:Fr) (h:H) (Q:Ex→Fr→H→Prop):Does K (.seq a b) fr h Q = Does K a fr h (seqQ K b Q):=does_seq5 hp a b fr h Q
@[simp] theorem K_skip (fr:Fr) (h:H) (Q:Ex→Fr→H→Prop):Does K .skip fr h Q = Q .normal fr h:=does_skip5 hp fr h Q
@[simp] theorem K_exit (id:Nat) (fr:Fr) (h:H) (Q:Ex→Fr→H→Prop):Does K (.exit id) fr h Q = Q (.exit id) fr h:=does_exit5 hp id fr h Q
@[simp] theorem K_ret (fr:Fr) (h:H) (Q:Ex→Fr→H→Prop):Does K .ret fr h Q = Q .ret fr h:=does_ret5 hp fr h Q
@[simp] theorem K_region (id:Nat) (l:List Oper) (fr:Fr) (h:H) (Q:Ex→Fr→H→Prop):Does K (.region id l.toArray false) fr h Q = DoesO K l l fr h Q:=does_region5 hp id l fr h Q
@[simp] theorem K_block (id:Nat) (b:Code) (fr:Fr) (h:H) (Q:Ex→Fr→H→Prop):Does K (.block id b) fr h Q = Does K b fr h (blockQ id Q):=does_block5 hp id b fr h Q
@[simp] theorem K_cond (c:Operand) (a b:Code) (fr:Fr) (h:H) (Q:Ex→Fr→H→Prop):Does K (.cond c a b) fr h Q = condK K a b fr h Q (evS fr c):=does_cond5 hp c a b fr h Q
theorem dF {id:Nat} {l:List Oper} {fr:Fr} {h:H} {Q:Ex→Fr→H→Prop} (c:List Nat) (U:List (Nat × Nat)) (hq:DoesF K l U c fr h [] [] Q)
  (hk:(okDraw K.P l && (canon K.P l == c) && (loose K.P l (ancs l []) (canon K.P l) == U) && nodupB c) = true:=by kernel_rfl):Does K (.region id l.toArray true) fr h Q:=doesF_gen hp c U hq hk
@[simp] theorem rep_und (n:Nat):List.replicate (n + 1) AV.undef = AV.undef::List.replicate n AV.undef:=rfl
theorem aP {f:Nat} {rest:List AV} {y:BL} (ha:Adds K f rest y) {h:H} {s:AS} {l:BL} {kept:List (Nat × Blk)} {Q:AV→H→Prop} {Kp:AS→H→Prop} (hk:∀ s' h',h'.next = h.next + 1→OS h' s' (l++y) kept→keptP h' kept→Q (.one s') h')
  (w:OS h s l kept:=by first | assumption | exact OS.new (by assumption) _ | exact OS.new (OS.new (by assumption) _) _) (hr:rest.mapM (viewV h) = some rest:=by first | rfl | (simp [viewV,viewS,pureS,pureL];done))
  (hl:l.length + y.length ≤ 1099511627776:=by first | assumption | (simp only [List.length_append,List.length_cons,List.length_nil,be_length,textB,encSpn,num4,num8];omega) | (simp only [List.length_append,List.length_cons,List.length_nil,be_length,textB] at *;omega) | (simp at *;omega)):onR ((W K f (.one s::rest) h).bind crO) Q Kp:=call_addsP ha w hr hl hk
theorem aO {f:Nat} {rest:List AV} {y:BL} (ha:Adds K f rest y) {h:H} {o:Option BL} {B:Blk} {Q:AV→H→Prop} {Kp:AS→H→Prop} (hk:∀ s' h',h'.next = h.next + 1→OS h' s' (ls o++y) [(0,B)]→keptP h' [(0,B)]→Q (.one s') h')
  (hk0:keptP h [(0,B)]:=by exact ⟨rfl,trivial⟩) (hl0:∀ e ∈ [(0,B)],e.1 < h.next:=by simp) (hv:rest.all pureV = true:=by simp [pureV,pureS,pureL])
  (hl:(ls o).length + y.length ≤ 1099511627776:=by first | assumption | (simp only [List.length_append,List.length_cons,List.length_nil,be_length,textB,encSpn,num4,num8];omega) | (simp only [List.length_append,List.length_cons,List.length_nil,be_length,textB] at *;omega) | (simp at *;omega)):onR ((W K f (.one (bs o)::rest) h).bind crO) Q Kp:=call_adds0P ha hk0 hl0 hv hl hk
theorem aN {f:Nat} {rest:List AV} {y:BL} (ha:Adds K f rest y) {h:H} {o:Option BL} {Q:AV→H→Prop} {Kp:AS→H→Prop} (hk:∀ s' h',h'.next = h.next + 1→OS h' s' (ls o++y) []→keptP h' []→Q (.one s') h')
  (hv:rest.all pureV = true:=by simp [pureV,pureS,pureL])
  (hl:(ls o).length + y.length ≤ 1099511627776:=by first | assumption | (simp only [List.length_append,List.length_cons,List.length_nil,be_length,textB,encSpn,num4,num8];omega) | (simp only [List.length_append,List.length_cons,List.length_nil,be_length,textB] at *;omega) | (simp at *;omega)):onR ((W K f (.one (bs o)::rest) h).bind crO) Q Kp:=call_adds0P ha (kept:=[]) trivial (by simp) hv hl hk
end Go.Proofs.YtofafocfemikcaaGreat
