/- A function that catches panics; a heap that is known in part; calls that are known; structs that are told apart; the closed facts of a row. No conditions. -/
import Derived.Test.YtkpmdlcmbemgdaaGreatAb1
import Derived.RangeFuncRecord
import Derived.Below
import Derived.Test.YtkpmdlcmbemgdaaGreatAb2
import Derived.RangeFuncIn
import Derived.RangeFuncCalls
import Derived.TacticsIn
import Derived.WalkKit
import Derived.Defers
import Derived.Recover
import Derived.RangeFuncLeaves
import Derived.Laws.StructEq
import Derived.Test.YtkpmdlcmbemgdaaGreatAb3
set_option linter.unusedVariables false
set_option linter.unusedSimpArgs false
set_option linter.unnecessarySimpa false
namespace Go.Ab
open Go.RowKit
def Cellsless (w:World) (k:Nat):Prop:=∀ c e z,w.heap[k]? ≠ some (.cells c e z)
theorem not_own {φ:Phi} {h:H} {w:World} (R:Rel φ h w) {k:Nat} (hc:Cellsless w k):¬ Own φ h k:=by
 rintro ⟨b,kk,v,e,l,h1,h2,h3,h4⟩
 obtain ⟨l',a1,_,_,_,_,c,ty,fz,a6,_⟩:=R.blk b kk v e h1 h2
 rw [h3] at a1
 cases a1
 subst h4
 exact hc c ty fz a6
theorem vr_turn {φ:Phi} {w w':World} (hsz:w.heap.size ≤ w'.heap.size) (hk:∀ k,k < w.heap.size→w'.heap[k]? = w.heap[k]? ∨ (¬ φ.F k∧Cellsless w k)) :
  ∀ k,k < w.heap.size→¬ Nf φ k→w'.heap[k]? = w.heap[k]?:=by
 intro k hl hn
 rcases hk k hl with h | ⟨h,_⟩
 ·exact h
 ·exact absurd h hn
theorem avl_turn {φ:Phi} {w w':World} (hsz:w.heap.size ≤ w'.heap.size) (hk:∀ k,k < w.heap.size→w'.heap[k]? = w.heap[k]? ∨ (¬ φ.F k∧Cellsless w k)) {l:List AV} {vs:List Value} (hl:AVL φ (Nf φ) w l vs):AVL φ (Nf φ) w' l vs :=
 hl.mono rfl (fun _ _ _ h=>h) hsz (vr_turn hsz hk) (fun _ _ h=>h)
theorem rel_turn {φ:Phi} {h:H} {w w':World} (R:Rel φ h w) (hsz:w.heap.size ≤ w'.heap.size) (hk:∀ k,k < w.heap.size→w'.heap[k]? = w.heap[k]? ∨ (¬ φ.F k∧Cellsless w k)):Rel φ h w':=by
 refine ⟨R.lt, ?_,R.sep, ?_,R.ver,fun q hq=>⟨Nat.lt_of_lt_of_le (R.frz q hq).1 hsz,(R.frz q hq).2⟩⟩
 ·intro b k v e hb he
  obtain ⟨l,a1,a2,a3,a4,a5,c,ty,fz,a6,a7,a8,us,a9,a10⟩:=R.blk b k v e hb he
  refine ⟨l,a1,a2,a3,a4,a5,c,ty,fz, ?_,a7,a8,us,a9.mono (fun _ _ _ h=>h) hsz (vr_turn hsz hk) (fun _ _ h=>h),a10⟩
  rcases hk l.blk (R.dom _ _ _ a1).2 with h1 | ⟨_,h1⟩
  ·rw [h1];exact a6
  ·exact absurd a6 (h1 c ty fz)
 ·intro b v l hb
  exact ⟨(R.dom b v l hb).1,Nat.lt_of_lt_of_le (R.dom b v l hb).2 hsz⟩
theorem grow_turn {φ0 φ:Phi} {h0 h:H} {w0 w w':World} (G:Grow φ0 h0 w0 φ h w) (hsz:w.heap.size ≤ w'.heap.size) (hk:∀ k,k < w0.heap.size→w'.heap[k]? = w.heap[k]?)
  (hos:w'.os = w.os) (htape:w'.tape = w.tape) (hout:w'.output = w.output):Grow φ0 h0 w0 φ h w' :=
 ⟨⟨G.sub,G.next,Nat.le_trans G.size hsz,fun k h1 h2=>(hk k h1).trans (G.keep k h1 h2),G.own,hos.trans G.os,htape.trans G.tape,hout.trans G.output,fun k h1 h2=>(hk k h1).trans (G.keepF k h1 h2),G.F,G.fresh,G.q⟩,G.names,G.keepB⟩
structure Side (φ:Phi) (w:World) (D:Nat) (r:Loop):Prop where
 dl:w.heap[D]? = some (.deferred (some []))
 ll:w.heap[D + 1]? = some (.loop r)
 fd:¬ φ.F D
 fl:¬ φ.F (D + 1)
theorem Side.grow {φ φ':Phi} {h h':H} {w w':World} {D:Nat} {r:Loop} (S:Side φ w D r) (R:Rel φ h w) (G:Grow φ h w φ' h' w'):Side φ' w' D r:=by
 have h1:D < w.heap.size:=(Array.getElem?_eq_some_iff.1 S.dl).1
 have h2:D + 1 < w.heap.size:=(Array.getElem?_eq_some_iff.1 S.ll).1
 refine ⟨(G.keep D h1 (not_own R fun c e z hc=>?_)).trans S.dl,(G.keep (D + 1) h2 (not_own R fun c e z hc=>?_)).trans S.ll,fun hF=>S.fd (G.fresh _ h1 hF),fun hF=>S.fl (G.fresh _ h2 hF)⟩
 ·rw [S.dl] at hc;cases hc
 ·rw [S.ll] at hc;cases hc
theorem Side.cl {φ:Phi} {w:World} {D:Nat} {r:Loop} (S:Side φ w D r):Cellsless w (D + 1):=fun c e z hc=>by rw [S.ll] at hc;cases hc
theorem Side.cd {φ:Phi} {w:World} {D:Nat} {r:Loop} (S:Side φ w D r):Cellsless w D:=fun c e z hc=>by rw [S.dl] at hc;cases hc
theorem putObj_other {w:World} {l:Nat} {o:Obj} (k:Nat):(w.putObj l o).heap[k]? = w.heap[k]? ∨ k = l:=by
 by_cases hk:k = l
 ·exact .inr hk
 ·exact .inl (World.putObj_heap_other hk)
theorem Side.put {φ φ0:Phi} {h h0:H} {w w0:World} {D:Nat} {r:Loop} (S:Side φ w D r) (R:Rel φ h w) (G:Grow φ0 h0 w0 φ h w) (hD:w0.heap.size ≤ D) (r':Loop) :
  Rel φ h (w.putObj (D + 1) (.loop r'))∧Grow φ0 h0 w0 φ h (w.putObj (D + 1) (.loop r'))∧Side φ (w.putObj (D + 1) (.loop r')) D r'∧∀ l vs,AVL φ (Nf φ) w l vs→AVL φ (Nf φ) (w.putObj (D + 1) (.loop r')) l vs:=by
 have hsz:w.heap.size ≤ (w.putObj (D + 1) (.loop r')).heap.size:=by simp
 have hk:∀ k,k < w.heap.size→(w.putObj (D + 1) (.loop r')).heap[k]? = w.heap[k]? ∨ (¬ φ.F k∧Cellsless w k):=by
  intro k _
  rcases putObj_other (w:=w) (l:=D + 1) (o:=.loop r') k with h1 | rfl
  ·exact .inl h1
  ·exact .inr ⟨S.fl,S.cl⟩
 have h2:D + 1 < w.heap.size:=(Array.getElem?_eq_some_iff.1 S.ll).1
 refine ⟨rel_turn R hsz hk,grow_turn G hsz (fun k hk0=>World.putObj_heap_other (by omega)) rfl rfl rfl,⟨(World.putObj_heap_other (by omega)).trans S.dl,World.putObj_heap_same h2,S.fd,S.fl⟩,fun l vs hl=>avl_turn hsz hk hl⟩
theorem Side.shut {φ φ0:Phi} {h h0:H} {w w0:World} {D:Nat} {r:Loop} (S:Side φ w D r) (R:Rel φ h w) (G:Grow φ0 h0 w0 φ h w) (hD:w0.heap.size ≤ D) :
  Rel φ h (w.putObj D (.deferred none))∧Grow φ0 h0 w0 φ h (w.putObj D (.deferred none))∧∀ l vs,AVL φ (Nf φ) w l vs→AVL φ (Nf φ) (w.putObj D (.deferred none)) l vs:=by
 have hsz:w.heap.size ≤ (w.putObj D (.deferred none)).heap.size:=by simp
 have hk:∀ k,k < w.heap.size→(w.putObj D (.deferred none)).heap[k]? = w.heap[k]? ∨ (¬ φ.F k∧Cellsless w k):=by
  intro k _
  rcases putObj_other (w:=w) (l:=D) (o:=.deferred none) k with h1 | rfl
  ·exact .inl h1
  ·exact .inr ⟨S.fd,S.cd⟩
 exact ⟨rel_turn R hsz hk,grow_turn G hsz (fun k hk0=>World.putObj_heap_other (by omega)) rfl rfl rfl,fun l vs hl=>avl_turn hsz hk hl⟩
theorem side_new {φ φ0:Phi} {h h0:H} {w w0:World} (R:Rel φ h w) (G:Grow φ0 h0 w0 φ h w) (r:Loop) :
  Rel φ h ((w.alloc (.deferred (some []))).alloc (.loop r))∧Grow φ0 h0 w0 φ h ((w.alloc (.deferred (some []))).alloc (.loop r))∧Side φ ((w.alloc (.deferred (some []))).alloc (.loop r)) w.heap.size r ∧
   ∀ l vs,AVL φ (Nf φ) w l vs→AVL φ (Nf φ) ((w.alloc (.deferred (some []))).alloc (.loop r)) l vs:=by
 have hsz:w.heap.size ≤ ((w.alloc (.deferred (some []))).alloc (.loop r)).heap.size:=by simp;omega
 have hk0:∀ k,k < w.heap.size→((w.alloc (.deferred (some []))).alloc (.loop r)).heap[k]? = w.heap[k]?:=by
  intro k hk
  rw [Below.heap_alloc _ _ k (by simp;omega),Below.heap_alloc _ _ k hk]
 have hk:∀ k,k < w.heap.size→((w.alloc (.deferred (some []))).alloc (.loop r)).heap[k]? = w.heap[k]? ∨ (¬ φ.F k∧Cellsless w k):=fun k hk=>.inl (hk0 k hk)
 refine ⟨rel_turn R hsz hk,grow_turn G hsz (fun k hk1=>hk0 k (Nat.lt_of_lt_of_le hk1 G.size)) rfl rfl rfl,⟨?_, ?_,fun hF=>?_,fun hF=>?_⟩,fun l vs hl=>avl_turn hsz hk hl⟩
 ·exact (Below.heap_alloc _ _ _ (by simp)).trans (World.alloc_heap_new w _)
 ·have:=World.alloc_heap_new (w.alloc (.deferred (some []))) (.loop r);rwa [World.size_alloc] at this
 ·exact absurd (R.frz _ hF).1 (by omega)
 ·exact absurd (R.frz _ hF).1 (by omega)
end Go.Ab
namespace Go.Ab
def isDefer (o:Oper):Bool:=match o.op with | .defer _=>true | _=>false
section
variable {P:Program} {a:Act} {w:World} {l₀ n:Nat}
theorem rows_in {row:String} {args:Array Value} {R:Value→World→Prop} (h:Rows P row args w R):RowsIn (Fence.wide.inRound l₀) n P row args w R:=by
 intro c cs _
 obtain ⟨v,w',hR,hs⟩:=h c cs
 exact ⟨v,w',hR,stepsIn_wide.2 hs⟩
theorem upon_in {o:Oper} {next:Act→World→Prop} {Q:Exit→Act→World→Prop} {r:Result Next} (h:o.upon P a next Q r):o.uponIn (Fence.wide.inRound l₀) n P a next Q r:=by
 cases r with
 | ok x w' =>
  cases x <;> simp only [Oper.upon] at h <;> simp only [Oper.uponIn] <;> first | exact h | exact h.elim | skip
  ·exact ⟨fun hd=>by simp [Fence.wide] at hd,CallsIn.inRound l₀ (callsIn_wide.2 h)⟩
  ·exact ⟨fun hd=>by simp [Fence.wide] at hd,rows_in h⟩
 | halt x w' =>
  cases x <;> simp only [Oper.upon] at h <;> simp only [Oper.uponIn] <;> first | exact h | exact h.elim
theorem opWp_in {o:Oper} {next:Act→World→Prop} {Q:Exit→Act→World→Prop} (h:o.wp P a w next Q) (hd:isDefer o = false):o.wpIn (Fence.wide.inRound l₀) n P a w next Q:=by
 refine ⟨fun _ _=>trivial, ?_⟩
 have e:o.semAt (Fence.wide.inRound l₀).round a.eval = execOp a.eval o:=by
  unfold Oper.semAt
  split
  ·rename_i hop;unfold isDefer at hd;rw [hop] at hd;cases hd
  ·rfl
 rw [e]
 exact upon_in h
theorem wpOps_in {ops:Array Oper} {Q:Exit→Act→World→Prop} (hL:¬ LetsOut Q) (hd:∀ o ∈ ops.toList,isDefer o = false):∀ (l:List Nat) (a:Act) (w:World),wpOps P ops Q l a w→wpOpsIn (Fence.wide.inRound l₀) n P ops Q l a w
 | [],a,w,h=>h
 | i::l,a,w,h=>by
  simp only [wpOps] at h
  simp only [wpOpsIn]
  split
  ·rename_i hi
   rw [hi] at h
   exact wpOps_in hL hd l a w h
  ·rename_i o hi
   rw [hi] at h
   simp only at h
   split
   ·rename_i hw
    rw [if_pos hw] at h
    rcases h with h | ⟨_,h⟩
    ·have hmem:o ∈ ops.toList:=by
      have:ops.toList[i]? = some o:=by simpa using hi
      exact List.mem_of_getElem? this
     exact opWp_in (opWp_mono (fun a w=>wpOps_in hL hd l a w) (fun _ _ _ h=>h) h) (hd o hmem)
    ·exact absurd h hL
   ·rename_i hw
    rw [if_neg hw] at h
    exact ⟨fun _ _=>trivial,wpOps_in hL hd l _ w h⟩
end
end Go.Ab
namespace Go.Ab
section
variable {C:Conf} {calls:Calls'} {l₀ n:Nat}
theorem after_not_out {φ:Phi} {h:H} {w:World} {x:Ex} {fr':Fr} {h':H}:¬ LetsOut (After φ h w x fr' h'):=by
 rintro ⟨a,w',φ',R,G,hd,hm⟩
 cases x <;> exact hm
theorem draw_in (hP:OkT C.P) (hC:∀ t z,C.cmp t = some z→CmpT C.P t z) (hmix:C.P.follows .mixedOrders = true) (hc:CallsOk C.P calls) {id:Nat} {ops:Array Oper} (hnd:∀ o ∈ ops.toList,isDefer o = false) {fr fr':Fr} {h h':H} {x:Ex}
  (hok:okDraw C.P ops.toList = true) (hr:runD C calls ops.toList (ancs ops.toList []) none (canon C.P ops.toList) fr h ⟨[],[]⟩ = some (x,fr',h')) {φ:Phi} {w:World} {a:Act} (R:Rel φ h w) (hf:AVL φ (Nf φ) w fr a.tmps.toList) (hd:a.defers = []) :
  (Code.region id ops true).wpIn (Fence.wide.inRound l₀) n C.P (After φ h w x fr' h') a w :=
 wpIn_region_draw fun t=>wpOps_in after_not_out hnd _ _ _ (draw_all hP hC hmix hc hok hr R hf hd t)
end
end Go.Ab
namespace Go.Ab
open Go.RowKit
structure Me where
 ty:TypeId
 pos:String
 aft:Array Edge
def mkO (dst:Option Nat) (op:Op) (m:Me):Oper:=⟨dst,op,m.ty,m.pos,m.aft,none⟩
structure CM where
 j0:Nat
 j1:Nat
 j3:Nat
 j4:Nat
 j5:Nat
 j2:Nat
 jb:Nat
 m0:Me
 m1:Me
 m2:Me
 m3:Me
 m4:Me
 m5:Me
 m6:Me
 m7:Me
 m8:Me
 m9:Me
 s2:Array Oper
def closCode (ta tp tb:Nat) (m:CM):Code :=
 .seq (.region m.j0 #[mkO (some 3) (.call ⟨.builtin .recover,#[],#[]⟩) m.m0,mkO (some 2) (.assign (.tmp 3)) m.m1] false)
 (.seq (.region m.j1 #[mkO (some 4) (.move (.tmp 2)) m.m2] false)
 (.block m.jb (.seq (.region m.j3 #[mkO (some 7) (.binOp .eql ta (.tmp 4) (.const .nilIface) ta) m.m3,mkO (some 6) (.assign (.tmp 7)) m.m4] false)
 (.cond (.tmp 6) .skip (.seq (.region m.j4 #[mkO (some 9) (.load tp (.tmp 0)) m.m5,mkO (some 10) (.makeInterface tp (.tmp 9)) m.m6,mkO (some 11) (.binOp .eql ta (.tmp 4) (.tmp 10) ta) m.m7,mkO (some 8) (.assign (.tmp 11)) m.m8] false)
 (.cond (.tmp 8) (.region m.j5 #[mkO none (.store tb (.tmp 1) (.const (.bool false))) m.m9] false) (.region m.j2 m.s2 false)))))))
structure ClosOk (P:Program) (g ta tp tb:Nat):Prop where
 fn:∃ gn m,P.funcs[g]? = some gn∧gn.body = some (closCode ta tp tb m)∧gn.ntmps = 12∧gn.results = #[]∧(gn.name == "runtime.NumGoroutine") = false
 any:∃ ms,P.underlying ta = some (.interface ms)
 ptr:∃ el i ie,P.underlying tp = some (.pointer el)∧P.info? tp = some i∧i.comparable = true∧P.info? el = some ie∧ie.size ≠ 0
section
variable {P:Program} {g ta tp tb:Nat}
theorem eql_nil (h:∃ ms,P.underlying ta = some (.interface ms)) (w:World):(Op.equal ta .nilIface .nilIface).run P w = .ok true w:=by
 obtain ⟨ms,hm⟩:=h
 refine (fun (k:∀ d,(Op.equalIn (d + 1) ta .nilIface .nilIface).run P w = .ok true w)=>k 9999) ?_
 intro d
 simp [Op.equalIn,run_underlying hm]
theorem eql_nil2 (h:∃ ms,P.underlying ta = some (.interface ms)) (t:TypeId) (v:Value) (w:World):(Op.equal ta (.iface t v) .nilIface).run P w = .ok false w:=by
 obtain ⟨ms,hm⟩:=h
 refine (fun (k:∀ d,(Op.equalIn (d + 1) ta (.iface t v) .nilIface).run P w = .ok false w)=>k 9999) ?_
 intro d
 simp [Op.equalIn,run_underlying hm]
theorem eql_ptr (h:ClosOk P g ta tp tb) (A:Addr) (w:World):(Op.equal ta (.iface tp (.pointer (some A))) (.iface tp (.pointer (some A)))).run P w = .ok true w:=by
 obtain ⟨ms,hm⟩:=h.any
 obtain ⟨el,i,ie,h1,h2,h3,h4,h5⟩:=h.ptr
 refine (fun (k:∀ d,(Op.equalIn (d + 2) ta (.iface tp (.pointer (some A))) (.iface tp (.pointer (some A)))).run P w = .ok true w)=>k 9998) ?_
 intro d
 simp [Op.equalIn,run_underlying hm,run_underlying h1,typeInfo,h2,h3,sizeOf,h4,h5,sameAddr]
theorem wpOps_val {ops:Array Oper} {Q:Exit→Act→World→Prop} {i:Nat} {rest:List Nat} {a:Act} {w w1:World} {o:Oper} {v:Value} (ho:ops[i]? = some o) (hg:o.guard = none) (hr:(execOp a.eval o).run P w = .ok (.value v) w1)
  (hn:wpOps P ops Q rest (a.put o.dst v) w1):wpOps P ops Q (i::rest) a w:=by
 have hw:Region.wanted o (yielded ops a.tmps) = true:=by unfold Region.wanted;rw [hg]
 simp only [wpOps,ho,hw,if_true]
 left
 simp only [Oper.wp,hr]
 exact hn
theorem wpOps_skip {ops:Array Oper} {Q:Exit→Act→World→Prop} {i:Nat} {rest:List Nat} {a:Act} {w w1:World} {o:Oper} (ho:ops[i]? = some o) (hg:o.guard = none) (hr:(execOp a.eval o).run P w = .ok .skip w1)
  (hn:wpOps P ops Q rest (a.put o.dst undef) w1):wpOps P ops Q (i::rest) a w:=by
 have hw:Region.wanted o (yielded ops a.tmps) = true:=by unfold Region.wanted;rw [hg]
 simp only [wpOps,ho,hw,if_true]
 left
 simp only [Oper.wp,hr]
 exact hn
theorem clos_idle (h:ClosOk P g ta tp tb) (p q:Value) (w:World):CallsD P g #[p,q] .returning w fun e u' w'=>e = .returned (.tuple #[])∧u' = .returning∧w' = w:=by
 obtain ⟨gn,m,h1,h2,h3,h4,_⟩:=h.fn
 refine callsD_of_wpS h1 h2 fun c₀ cs hu=>?_
 have he:=fun w=>eql_nil h.any w
 unfold closCode mkO
 apply wpS_seq
 apply wpS_region
 simp [wpOpsS,go_sem,recoverD,hu,h3,Exit.thenS]
 apply wpS_seq
 apply wpS_region
 simp [wpOpsS,go_sem,Exit.thenS]
 refine wpS_of_wp (wp_block (wp_seq (wp_region ?_)))
 refine wpOps_val (v:=.bool true) (w1:=w) rfl rfl (by simp [execOp,go_sem,eqGuard,binOp,he,Array.replicate]) ?_
 refine wpOps_val (v:=.bool true) (w1:=w) rfl rfl (by simp [execOp,go_sem,Act.eval,Act.put,Array.replicate]) ?_
 refine wp_cond_true (by simp [Act.eval,Act.put,Array.replicate]) (wp_skip ?_)
 cases c₀
 simp_all [bodyPostS,results,Exit.inBlock,Act.put]
theorem clos_caught (h:ClosOk P g ta tp tb) (p q:Value) (A:Addr) (w w2:World) (hl:(Instr.loadAt tp p).run P w = .ok (.pointer (some A)) w) (hs:(Instr.storeAt tb q (.bool false)).run P w = .ok () w2) :
  CallsD P g #[p,q] (.panicking [{ v:=.iface tp (.pointer (some A)),recovered:=false }]) w fun e u' w'=>e = .returned (.tuple #[])∧u' = .panicking [{ v:=.iface tp (.pointer (some A)),recovered:=true }]∧w' = w2:=by
 obtain ⟨gn,m,h1,h2,h3,h4,_⟩:=h.fn
 refine callsD_of_wpS h1 h2 fun c₀ cs hu=>?_
 have he:=fun w=>eql_nil2 h.any tp (.pointer (some A)) w
 have he2:=fun w=>eql_ptr h A w
 obtain ⟨el,i,ie,hp,_⟩:=h.ptr
 unfold closCode mkO
 apply wpS_seq
 apply wpS_region
 simp [wpOpsS,go_sem,recoverD,hu,h3,Exit.thenS]
 apply wpS_seq
 apply wpS_region
 simp [wpOpsS,go_sem,Exit.thenS]
 refine wpS_of_wp (wp_block (wp_seq (wp_region ?_)))
 refine wpOps_val (v:=.bool false) (w1:=w) rfl rfl (by simp [execOp,go_sem,eqGuard,binOp,he,Array.replicate]) ?_
 refine wpOps_val (v:=.bool false) (w1:=w) rfl rfl (by simp [execOp,go_sem,Act.eval,Act.put,Array.replicate]) ?_
 refine wp_cond_false (by simp [Act.eval,Act.put,Array.replicate]) (wp_seq (wp_region ?_))
 refine wpOps_val (v:=.pointer (some A)) (w1:=w) rfl rfl (by simp [execOp,Act.eval,Act.put,Array.replicate,Sem.run_bind,Sem.run_pure,Result.andThen_ok,hl]) ?_
 refine wpOps_val (v:=.iface tp (.pointer (some A))) (w1:=w) rfl rfl (by simp [execOp,go_sem,Act.eval,Act.put,Array.replicate,Instr.makeInterface,run_underlying hp]) ?_
 refine wpOps_val (v:=.bool true) (w1:=w) rfl rfl (by simp [execOp,go_sem,eqGuard,binOp,he2,Act.eval,Act.put,Array.replicate]) ?_
 refine wpOps_val (v:=.bool true) (w1:=w) rfl rfl (by simp [execOp,go_sem,Act.eval,Act.put,Array.replicate]) ?_
 refine wp_cond_true (by simp [Act.eval,Act.put,Array.replicate]) (wp_region ?_)
 refine wpOps_skip (w1:=w2) rfl rfl (by simp [execOp,Act.eval,Act.put,Array.replicate,Sem.run_bind,Sem.run_pure,Result.andThen_ok,hs]) ?_
 cases c₀
 simp_all [bodyPostS,results,Exit.inBlock,Act.put,wpOps]
end
def cFst:Code→Code
 | .seq a _=>a
 | c=>c
def cSnd:Code→Code
 | .seq _ b=>b
 | c=>c
def cOps:Code→Array Oper
 | .region _ o _=>o
 | _=>#[]
def cRid:Code→Nat
 | .region i _ _=>i
 | _=>0
def cYes:Code→Code
 | .cond _ a _=>a
 | c=>c
structure RdFn where
 g:Nat
 tp:Nat
 rs:List ResultVar
 r0:Array Oper
 r1:Array Oper
 r3:Array Oper
 r40:Oper
 r50:Oper
 r51:Oper
 r52:Oper
 r6:Array Oper
def RdFn.of (g tp:Nat) (fn:Func):RdFn :=
 let c:=fn.body.getD .skip
 let l:=cSnd (cSnd c)
 let e:=cOps (cFst (cSnd (cSnd l)))
 ⟨g,tp,fn.results.toList,cOps (cFst c),cOps (cFst (cFst (cSnd c))),cOps (cFst l),(cOps (cFst (cSnd l)))[0]!,e[0]!,e[1]!,e[2]!,cOps (cFst (cSnd (cSnd (cSnd l))))⟩
def readCode (i:Nat→Nat) (F:RdFn) (y:Code) (m:Me):Code :=
 .seq (.region (i 0) F.r0 false) (.seq (.seq (.region (i 1) F.r1 false) (.cond (.tmp 7) y .skip)) (.seq (.region (i 3) F.r3 false)
  (.seq (.region (i 4) #[F.r40,mkO none (.defer ⟨.value (.tmp 14),#[],#[]⟩) m] false) (.seq (.region (i 5) #[F.r50,F.r51,F.r52] false) (.seq (.region (i 6) F.r6 false) .ret)))))
structure ReadOk (P:Program) (f:Nat) (F:RdFn):Prop where
 fn:∃ fn i y m,P.funcs[f]? = some fn∧fn.body = some (readCode i F y m)∧fn.ntmps = 24∧fn.results.toList = F.rs∧(fn.name == "runtime.NumGoroutine") = false
 g40:F.r40.guard = none
 g50:F.r50.guard = none
 g51:F.r51.guard = none
 g52:F.r52.guard = none
 clos:∃ ta tb,ClosOk P F.g ta F.tp tb∧sizeT P tb = some 1∧sizeT P F.tp = some 1∧isAggT P F.tp = some false
section
variable (C:Conf)
def rgn (c:Calls') (ops:Array Oper) (fr:Fr) (h:H):Option (Fr × H) :=
 match runOps C c ops.toList ops.toList fr h with
 | some (.normal,fr',h')=>some (fr',h')
 | _=>none
def op1 (c:Calls') (o:Oper) (fr:Fr) (h:H):Option (Fr × H) :=
 match runOp C c fr h o with
 | some (.normal,fr',h')=>some (fr',h')
 | _=>none
def readEnd (F:RdFn) (c:Calls') (p q:AS) (fr:Fr):CR→Option CR
 | .ret v h=>do
  let fr ← Fr.put fr F.r52.dst v
  let (fr,h) ← rgn C c F.r6 fr h
  some (.ret (← resultA C fr h F.rs) h)
 | .pan v h =>
  match v with
  | .ifc t (.ptr b v o)=>match readC h p 1 with
   | some [.ptr b' v' o']=>if t = F.tp∧b = b'∧v = v'∧o = o' then do
     let h ← writeC h q [.bool false]
     some (.ret (← resultA C fr h F.rs) h)
    else none
   | _=>none
  | _=>none
def readA (F:RdFn) (c:Calls') (args:List AV) (h:H):Option CR :=
 if args.length = 2 then do
  let (fr,h) ← rgn C c F.r0 (args++List.replicate 22 .undef) h
  let (fr,h) ← rgn C c F.r1 fr h
  let .bool false ← evS fr (.tmp 7) | none
  let (fr,h) ← rgn C c F.r3 fr h
  let (fr,h) ← op1 C c F.r40 fr h
  let .fn g [] [p,q] ← evS fr (.tmp 14) | none
  if g = F.g then do
   let (fr,h) ← op1 C c F.r50 fr h
   let (fr,h) ← op1 C c F.r51 fr h
   match opA C.P C.cmp fr h F.r52 with
   | some (.call f' args' _)=>do
    let r ← c f' args' h
    readEnd C F c p q fr r
   | _=>none
  else none
 else none
end
section
variable {C:Conf} {calls:Calls'}
theorem runOps_nd (hP:OkT C.P) (hC:∀ t z,C.cmp t = some z→CmpT C.P t z) (hc:CallsOk C.P calls) {ops:Array Oper} {fr':Fr} {h':H} {Q:Exit→Act→World→Prop} :
  ∀ (l:List Oper) (k:Nat) (φ:Phi) (h:H) (w:World) (fr:Fr) (a:Act),l = ops.toList.drop k→k + l.length = ops.size→Rel φ h w→AVL φ (Nf φ) w fr a.tmps.toList →
   runOps C calls ops.toList l fr h = some (.normal,fr',h')→(∀ φ' a' w',Rel φ' h' w'→Grow φ h w φ' h' w'→AVL φ' (Nf φ') w' fr' a'.tmps.toList→a'.defers = a.defers→Q .normal a' w') →
   wpOps C.P ops Q (List.range' k l.length) a w:=by
 intro l
 induction l with
 | nil =>
  intro k φ h w fr a _ _ R hf hr hn
  simp only [runOps,oqI,oqM] at hr
  obtain ⟨_,rfl,rfl⟩:=hr
  exact hn φ a w R (Grow.refl _ _ _) hf rfl
 | cons o l ih =>
  intro k φ h w fr a hl hlen R hf hr hn
  have hok:ops[k]? = some o:=by
   have:ops.toList[k]? = some o:=by
    have:=congrArg (·[0]?) hl
    simpa using this.symm
   simpa using this
  have hl':l = ops.toList.drop (k + 1):=by
   have:=congrArg List.tail hl
   simpa using this
  simp only [runOps,oqE,oqB] at hr
  obtain ⟨b,hb,hr⟩:=hr
  have hw:=wanted_ok (ops:=ops) hf hb
  simp only [List.length_cons,List.range'_succ,wpOps,hok,hw]
  have hstep:∀ φ1 h1 w1 fr1 a1,Grow φ h w φ1 h1 w1→Rel φ1 h1 w1→AVL φ1 (Nf φ1) w1 fr1 a1.tmps.toList→a1.defers = a.defers→runOps C calls ops.toList l fr1 h1 = some (.normal,fr',h') →
    wpOps C.P ops Q (List.range' (k + 1) l.length) a1 w1:=by
   intro φ1 h1 w1 fr1 a1 G R1 hf1 hd1 hr1
   exact ih (k + 1) φ1 h1 w1 fr1 a1 hl' (by simp at hlen;omega) R1 hf1 hr1 fun φ' a' w' R' G' hf' hd'=>hn φ' a' w' R' (G.trans G') hf' (hd'.trans hd1)
  cases b with
  | true =>
   simp only [if_true] at hr ⊢
   simp only [oqB] at hr
   obtain ⟨⟨x1,fr1,h1⟩,hop,hr⟩:=hr
   left
   refine runOp_ok hP hC hc R hf hop (fun e φ' a' w' R' G hf' hd'=>?_) (fun v e φ' w' cv R' G hv=>?_)
   ·subst e
    exact hstep φ' h1 w' fr1 a' G R' hf' hd' hr
   ·subst e
    simp at hr
  | false =>
   simp only [oqF,if_false,oqB] at hr ⊢
   obtain ⟨fr1,hput,hr⟩:=hr
   refine hstep φ h w fr1 _ (Grow.refl _ _ _) R (put_ok hf .undef hput) ?_ hr
   cases o.dst <;> rfl
theorem rgn_ok (hP:OkT C.P) (hC:∀ t z,C.cmp t = some z→CmpT C.P t z) (hc:CallsOk C.P calls) {id:Nat} {ops:Array Oper} {fr fr':Fr} {h h':H} {Q:Exit→Act→World→Prop} {φ:Phi} {w:World} {a:Act}
  (R:Rel φ h w) (hf:AVL φ (Nf φ) w fr a.tmps.toList) (hr:rgn C calls ops fr h = some (fr',h'))
  (hn:∀ φ' a' w',Rel φ' h' w'→Grow φ h w φ' h' w'→AVL φ' (Nf φ') w' fr' a'.tmps.toList→a'.defers = a.defers→Q .normal a' w'):(Code.region id ops false).wp C.P Q a w:=by
 unfold rgn at hr
 split at hr
 ·rename_i fr1 h1 he
  simp only [oqI,oqM] at hr
  obtain ⟨rfl,rfl⟩:=hr
  refine wp_region ?_
  have:=runOps_nd hP hC hc (ops:=ops) (Q:=Q) ops.toList 0 φ h w fr a (by simp) (by simp) R hf he hn
  rw [List.range_eq_range']
  simpa using this
 ·cases hr
theorem op1_ok (hP:OkT C.P) (hC:∀ t z,C.cmp t = some z→CmpT C.P t z) (hc:CallsOk C.P calls) {ops:Array Oper} {i:Nat} {rest:List Nat} {o:Oper} (ho:ops[i]? = some o) (hg:o.guard = none) {fr fr':Fr} {h h':H} {Q:Exit→Act→World→Prop} {φ:Phi} {w:World} {a:Act}
  (R:Rel φ h w) (hf:AVL φ (Nf φ) w fr a.tmps.toList) (hr:op1 C calls o fr h = some (fr',h'))
  (hn:∀ φ' a' w',Rel φ' h' w'→Grow φ h w φ' h' w'→AVL φ' (Nf φ') w' fr' a'.tmps.toList→a'.defers = a.defers→wpOps C.P ops Q rest a' w'):wpOps C.P ops Q (i::rest) a w:=by
 unfold op1 at hr
 split at hr
 ·rename_i fr1 h1 he
  simp only [oqI,oqM] at hr
  obtain ⟨rfl,rfl⟩:=hr
  have hw:Region.wanted o (yielded ops a.tmps) = true:=by unfold Region.wanted;rw [hg]
  simp only [wpOps,ho,hw,if_true]
  left
  exact runOp_ok hP hC hc R hf he (fun _ φ' a' w' R' G hf' hd'=>hn φ' a' w' R' G hf' hd') (fun v e=>by cases e)
 ·cases hr
theorem results_eq_of {fn:Func} {F:RdFn} (h:fn.results.toList = F.rs) {fr:Fr} {h':H} {v:AV} (hv:resultA C fr h' F.rs = some v):resultA C fr h' fn.results.toList = some v:=by rw [h];exact hv
theorem invoke_clos {P:Program} {g:Nat} {gn:Func} {c:Code} (h1:P.funcs[g]? = some gn) (h2:gn.body = some c) (h3:(gn.name == "runtime.NumGoroutine") = false) (vs:Array Value) (w:World):(invoke (.fn (.func g) vs) #[]).run P w = .ok (.enter g vs) w:=by
 have hn:¬ gn.name = "runtime.NumGoroutine" := by simpa using h3
 simp [invoke,callFunc,h1,h2,hn]
theorem ptr_same {φ φ':Phi} {O O':Nat→Prop} {w w':World} {b v o:Nat} {x y:Value} (hs:∀ b v l,φ b v = some l→φ' b v = some l) (hx:VR φ O w (.ptr b v o) x) (hy:VR φ' O' w' (.ptr b v o) y):∃ A,x = .pointer (some A)∧y = .pointer (some A):=by
 cases hx with
 | ptr _ _ _ l h1 =>
  cases hy with
  | ptr _ _ _ l' h2 =>
   rw [hs _ _ _ h1] at h2
   cases h2
   exact ⟨_,rfl,rfl⟩
theorem readA_ok (hP:OkT C.P) (hC:∀ t z,C.cmp t = some z→CmpT C.P t z) {f:Nat} {F:RdFn} (hF:ReadOk C.P f F) (hc:CallsOk C.P calls) {args:List AV} {h:H} {r:CR} (hr:readA C F calls args h = some r) {φ:Phi} {w:World} {cargs:List Value}
  (R:Rel φ h w) (ha:AVL φ (Nf φ) w args cargs):CallR C.P φ h w f cargs r:=by
 obtain ⟨fn,i,y,m,hfn,hb,hnt,hrs,hnm⟩:=hF.fn
 obtain ⟨ta,tb,hcl,hst,hsp,hap⟩:=hF.clos
 unfold readA at hr
 split at hr
 ·rename_i hlen
  simp only [oqE,oqB] at hr
  obtain ⟨⟨fr0,h0⟩,e0,⟨fr1,h1⟩,e1,q7,e7,hr⟩:=hr
  split at hr
  ·simp only [oqB] at hr
   obtain ⟨⟨fr3,h3⟩,e3,⟨fr4,h4⟩,e4,q14,e14,hr⟩:=hr
   split at hr
   ·rename_i g p q
    split at hr
    ·rename_i hg
     subst hg
     simp only [oqB] at hr
     obtain ⟨⟨fr5,h5⟩,e5,⟨fr6,h6⟩,e6,hr⟩:=hr
     split at hr
     ·rename_i f' args' h6' eop
      simp only [oqB] at hr
      obtain ⟨cr,ec,hr⟩:=hr
      right
      have hnm':¬ fn.name = "runtime.NumGoroutine" := by simpa using hnm
      refine ⟨by simp [callFunc,hfn,hnm',hb],calls_of_wp_defers hfn hb ?_⟩
      have hl:=ha.length
      have hf0:AVL φ (Nf φ) w (args++List.replicate 22 .undef) ((cargs.toArray++Array.replicate (fn.ntmps - cargs.toArray.size) Go.undef).toList):=by
       rw [Array.toList_append,Array.toList_replicate,List.size_toArray,← hl,hnt,hlen]
       exact ha.append (undefs_ok _)
      unfold readCode
      refine wp_seq (rgn_ok hP hC hc R hf0 e0 fun φ0 a0 w0 R0 G0 hf0 hd0=>?_)
      refine wp_seq (wp_seq (rgn_ok hP hC hc R0 hf0 e1 fun φ1 a1 w1 R1 G1 hf1 hd1=>?_))
      refine wp_cond_false ?_ (wp_skip ?_)
      ·exact (evS_ok hf1 e7).bool_inv
      refine wp_seq (rgn_ok hP hC hc R1 hf1 e3 fun φ3 a3 w3 R3 G3 hf3 hd3=>?_)
      refine wp_seq (wp_region ?_)
      refine op1_ok hP hC hc (rest:=[1]) rfl hF.g40 R3 hf3 e4 fun φ4 a4 w4 R4 G4 hf4 hd4=>?_
      have hd4':a4.defers = []:=by rw [hd4,hd3,hd1,hd0]
      have hv14:=evS_ok hf4 e14
      generalize hx14:a4.eval (.tmp 14) = x14 at hv14
      cases hv14 with
      | fn _ _ _ vs1 vs2 hv1 hv2 =>
      cases hv1
      cases hv2 with
      | cons _ pv _ vs2' hpv hv2 =>
      cases hv2 with
      | cons _ qv _ vs3 hqv hv2 =>
      cases hv2
      have hdf:(execOp a4.eval (mkO none (.defer ⟨.value (.tmp 14),#[],#[]⟩) m)).run C.P w4 = .ok (.defer ⟨.fn (.func F.g) #[pv,qv],#[]⟩) w4:=by
       simp [execOp,mkO,resolve,hx14,Deferred.ofValue]
      have hgd:Region.wanted (mkO none (.defer ⟨.value (.tmp 14),#[],#[]⟩) m) (yielded #[F.r40,mkO none (.defer ⟨.value (.tmp 14),#[],#[]⟩) m] a4.tmps) = true:=by unfold Region.wanted;rfl
      simp only [wpOps,List.getElem?_toArray,List.getElem?_cons_succ,List.getElem?_cons_zero,hgd,if_true]
      left
      simp only [Oper.wp,hdf,Oper.upon_defer]
      generalize hA:({ a4 with defers:=⟨.fn (.func F.g) #[pv,qv],#[]⟩::a4.defers }:Act).put (mkO none (.defer ⟨.value (.tmp 14),#[],#[]⟩) m).dst Go.undef = a4'
      have hA1:a4'.tmps = a4.tmps:=by subst hA;rfl
      have hA2:a4'.defers = [⟨.fn (.func F.g) #[pv,qv],#[]⟩]:=by subst hA;simp [Act.put,mkO,hd4']
      have hf4':AVL φ4 (Nf φ4) w4 fr4 a4'.tmps.toList:=by rw [hA1];exact hf4
      refine wp_seq (wp_region ?_)
      refine op1_ok hP hC hc (rest:=[1,2]) rfl hF.g50 R4 hf4' e5 fun φ5 a5 w5 R5 G5 hf5 hd5=>?_
      refine op1_ok hP hC hc (rest:=[2]) rfl hF.g51 R5 hf5 e6 fun φ6 a6 w6 R6 G6 hf6 hd6=>?_
      have hdd:a6.defers = [⟨.fn (.func F.g) #[pv,qv],#[]⟩]:=by rw [hd6,hd5,hA2]
      have hgd2:Region.wanted F.r52 (yielded #[F.r50,F.r51,F.r52] a6.tmps) = true:=by unfold Region.wanted;rw [hF.g52]
      simp only [wpOps,List.getElem?_toArray,List.getElem?_cons_succ,List.getElem?_cons_zero,hgd2,if_true]
      left
      unfold Oper.wp
      obtain ⟨_,cargs',hargs',e'⟩:=op_ok hP hC R6 hf6 eop
      rw [e']
      have G06:Grow φ h w φ6 h6 w6:=G0.trans (G1.trans (G3.trans (G4.trans (G5.trans G6))))
      have hpv6:VR φ6 (Nf φ6) w6 p pv:=(G5.trans G6).vr hpv
      have hqv6:VR φ6 (Nf φ6) w6 q qv:=(G5.trans G6).vr hqv
      obtain ⟨gn,cm,hg1,hg2,hg3,hg4,hg5⟩:=hcl.fn
      have hinv:=fun w=>invoke_clos hg1 hg2 hg5 #[pv,qv] w
      unfold readEnd at hr
      refine (hc f' args' _ cr ec φ6 w6 cargs' R6 hargs').upon ?_ ?_
      ·rintro cv w7 ⟨v,h7,φ7,rfl,R7,G7,hv⟩
       simp only [oqE,oqB,oqI] at hr
       obtain ⟨fr7,hput,⟨fr8,h8⟩,e8,v8,hv8,rfl⟩:=hr
       have hf7:=put_ok (G7.avl hf6) hv hput
       have hd7:(a6.put F.r52.dst cv).defers = a6.defers:=by cases F.r52.dst <;> rfl
       refine wp_seq (rgn_ok hP hC hc R7 hf7 e8 fun φ8 a8 w8 R8 G8 hf8 hd8=>wp_ret ?_)
       simp only [bodyPostD,hd8,hd7,hdd]
       refine leaves_cons (by simp) (hinv w8) ?_
       refine (clos_idle hcl pv qv w8).mono ?_
       rintro e u' w9 ⟨rfl,rfl,rfl⟩
       obtain ⟨cv8,hres,hav⟩:=resultA_ok R8 hf8 (results_eq_of hrs hv8)
       exact ⟨cv8,hres,v8,h8,φ8,rfl,R8,G06.trans (G7.trans G8),hav⟩
      ·rintro ch w7 ⟨v,h7,φ7,cv,rfl,R7,G7,hv,rfl⟩
       simp only at hr
       split at hr
       ·rename_i t b v o
        split at hr
        ·rename_i b' v' o' hrd
         split at hr
         ·rename_i hcond
          obtain ⟨rfl,rfl,rfl,rfl⟩:=hcond
          simp only [oqE,oqB,oqI] at hr
          obtain ⟨h8,hw8,v8,hv8,rfl⟩:=hr
          cases hv with
          | ifc _ _ x hx =>
          have hpv7:=G7.vr hpv6
          have hqv7:=G7.vr hqv6
          obtain ⟨bb,qq,lv,hpe,hload,hlv⟩:=loadVar_ok (P:=C.P) (t:=F.tp) R7 hpv7 hsp hap hrd rfl
          have hlv1:=hlv.one_inv
          obtain ⟨A,rfl,rfl⟩:=ptr_same (φ:=φ7) (φ':=φ7) (fun _ _ _ h=>h) hx hlv1
          obtain ⟨b2,q2,w8,hqe,hrun,R8,G8⟩:=write_ok (P:=C.P) R7 hqv7 (.cons _ (.bool false) _ _ (.bool false) .nil) hw8
          have hl:(Instr.loadAt F.tp pv).run C.P w7 = .ok (.pointer (some A)) w7:=by
           simp only [Instr.loadAt,hpe,Instr.sureAddr,Sem.run_bind,Sem.run_pure,Result.andThen_ok,hload]
          have hs:(Instr.storeAt tb qv (.bool false)).run C.P w7 = .ok () w8:=by
           simp [Instr.storeAt,hqe,Instr.sureAddr,storeVar,sizeT_run hst,hrun,Value.cells]
          simp only [Exit.then,bodyPostD,hdd]
          refine leaves_cons (by simp) (hinv w7) ?_
          refine (clos_caught hcl pv qv A w7 w8 hl hs).mono ?_
          rintro e u' w9 ⟨rfl,rfl,rfl⟩
          obtain ⟨cv8,hres,hav⟩:=resultA_ok R8 (G8.avl (G7.avl hf6)) (results_eq_of hrs hv8)
          exact ⟨cv8,hres,v8,h8,_,rfl,R8,G06.trans (G7.trans G8),hav⟩
         ·cases hr
        ·cases hr
       ·cases hr
     ·cases hr
    ·cases hr
   ·cases hr
  ·cases hr
 ·cases hr
end
section
variable {C:Conf}
theorem rgn_mono {c d:Calls'} (hl:Le c d) {ops:Array Oper} {fr:Fr} {h:H} {r:Fr × H} (hr:rgn C c ops fr h = some r):rgn C d ops fr h = some r:=by
 unfold rgn at hr ⊢
 split at hr
 ·rename_i fr1 h1 he
  rw [runOps_mono hl he];exact hr
 ·cases hr
theorem op1_mono {c d:Calls'} (hl:Le c d) {o:Oper} {fr:Fr} {h:H} {r:Fr × H} (hr:op1 C c o fr h = some r):op1 C d o fr h = some r:=by
 unfold op1 at hr ⊢
 split at hr
 ·rename_i fr1 h1 he
  rw [runOp_mono hl he];exact hr
 ·cases hr
theorem readEnd_mono {c d:Calls'} (hl:Le c d) {F:RdFn} {p q:AS} {fr:Fr} {cr r:CR} (hr:readEnd C F c p q fr cr = some r):readEnd C F d p q fr cr = some r:=by
 unfold readEnd at hr ⊢
 split at hr
 ·simp only [oqE,oqB] at hr ⊢
  obtain ⟨a,h1,b,h2,hr⟩:=hr
  exact ⟨a,h1,b,rgn_mono hl h2,hr⟩
 ·exact hr
theorem readA_mono {c d:Calls'} (hl:Le c d) {F:RdFn} {args:List AV} {h:H} {r:CR} (hr:readA C F c args h = some r):readA C F d args h = some r:=by
 unfold readA at hr ⊢
 split at hr
 ·rename_i hlen
  rw [if_pos hlen]
  simp only [oqE,oqB] at hr ⊢
  obtain ⟨a0,e0,a1,e1,q7,e7,hr⟩:=hr
  refine ⟨a0,rgn_mono hl e0,a1,rgn_mono hl e1,q7,e7, ?_⟩
  split at hr
  ·simp only [oqB] at hr ⊢
   obtain ⟨a3,e3,a4,e4,q14,e14,hr⟩:=hr
   refine ⟨a3,rgn_mono hl e3,a4,op1_mono hl e4,q14,e14, ?_⟩
   split at hr
   ·split at hr
    ·rename_i hg
     simp only [hg,if_true]
     simp only [oqB] at hr ⊢
     obtain ⟨a5,e5,a6,e6,hr⟩:=hr
     refine ⟨a5,op1_mono hl e5,a6,op1_mono hl e6, ?_⟩
     split at hr
     ·simp only [oqB] at hr ⊢
      obtain ⟨cr,ec,hr⟩:=hr
      exact ⟨cr,hl _ _ _ _ ec,readEnd_mono hl hr⟩
     ·cases hr
    ·cases hr
   ·cases hr
  ·cases hr
 ·cases hr
theorem runOp_c {c:Nat→Calls'} {w:Calls'} (hw:∀ f args h r,w f args h = some r→∃ n,c n f args h = some r) {fr:Fr} {h:H} {o:Oper} {r:Ex × Fr × H} (hr:runOp C w fr h o = some r):∃ n,runOp C (c n) fr h o = some r:=by
 simp only [runOp,runO,oqE,oqB] at hr ⊢
 obtain ⟨ro,⟨x,hx,hro⟩,hr⟩:=hr
 cases x with
 | call f args h' =>
  simp only [oqB] at hro
  obtain ⟨cr,hc,hro⟩:=hro
  obtain ⟨n,hn⟩:=hw _ _ _ _ hc
  exact ⟨n,ro,⟨_,hx,by simp only [oqB];exact ⟨cr,hn,hro⟩⟩,hr⟩
 | _=>exact ⟨0,ro,⟨_,hx,hro⟩,hr⟩
theorem op1_c {c:Nat→Calls'} {w:Calls'} (hw:∀ f args h r,w f args h = some r→∃ n,c n f args h = some r) {o:Oper} {fr:Fr} {h:H} {r:Fr × H} (hr:op1 C w o fr h = some r):∃ n,op1 C (c n) o fr h = some r:=by
 unfold op1 at hr ⊢
 split at hr
 ·rename_i fr1 h1 he
  obtain ⟨n,hn⟩:=runOp_c hw he
  exact ⟨n,by rw [hn];exact hr⟩
 ·cases hr
theorem runOps_c {c:Nat→Calls'} {w:Calls'} (hm:∀ m n,m ≤ n→Le (c m) (c n)) (hw:∀ f args h r,w f args h = some r→∃ n,c n f args h = some r) {ops:List Oper}:∀ {l:List Oper} {fr:Fr} {h:H} {r:Ex × Fr × H},runOps C w ops l fr h = some r→∃ n,runOps C (c n) ops l fr h = some r
 | [],_,_,_,hr=>⟨0,hr⟩
 | o::l,fr,h,r,hr=>by
  simp only [runOps,oqE,oqB] at hr ⊢
  obtain ⟨b,hb,hr⟩:=hr
  cases b with
  | true =>
   simp only [if_true,oqB] at hr
   obtain ⟨⟨x,fr',h'⟩,hop,hr⟩:=hr
   obtain ⟨n,hn⟩:=runOp_c hw hop
   cases x with
   | normal =>
    obtain ⟨k,hk⟩:=runOps_c hm hw hr
    exact ⟨max n k,true,hb,by
     simp only [if_true,oqB]
     exact ⟨_,runOp_mono (hm _ _ (Nat.le_max_left n k)) hn,runOps_mono (hm _ _ (Nat.le_max_right n k)) hk⟩⟩
   | _=>exact ⟨n,true,hb,by simp only [if_true,oqB];exact ⟨_,hn,hr⟩⟩
  | false =>
   simp only [oqF,if_false,oqB] at hr
   obtain ⟨fr',hp,hr⟩:=hr
   obtain ⟨k,hk⟩:=runOps_c hm hw hr
   exact ⟨k,false,hb,by simp only [oqF,if_false,oqB];exact ⟨fr',hp,hk⟩⟩
theorem rgn_c {c:Nat→Calls'} {w:Calls'} (hm:∀ m n,m ≤ n→Le (c m) (c n)) (hw:∀ f args h r,w f args h = some r→∃ n,c n f args h = some r) {ops:Array Oper} {fr:Fr} {h:H} {r:Fr × H} (hr:rgn C w ops fr h = some r):∃ n,rgn C (c n) ops fr h = some r:=by
 unfold rgn at hr ⊢
 split at hr
 ·rename_i fr1 h1 he
  obtain ⟨n,hn⟩:=runOps_c hm hw he
  exact ⟨n,by rw [hn];exact hr⟩
 ·cases hr
theorem readEnd_c {c:Nat→Calls'} {w:Calls'} (hm:∀ m n,m ≤ n→Le (c m) (c n)) (hw:∀ f args h r,w f args h = some r→∃ n,c n f args h = some r) {F:RdFn} {p q:AS} {fr:Fr} {cr r:CR} (hr:readEnd C F w p q fr cr = some r):∃ n,readEnd C F (c n) p q fr cr = some r:=by
 unfold readEnd at hr ⊢
 split at hr
 ·simp only [oqE,oqB] at hr ⊢
  obtain ⟨a,h1,b,h2,hr⟩:=hr
  obtain ⟨n,hn⟩:=rgn_c hm hw h2
  exact ⟨n,a,h1,b,hn,hr⟩
 ·exact ⟨0,hr⟩
theorem readA_c {c:Nat→Calls'} {w:Calls'} (hm:∀ m n,m ≤ n→Le (c m) (c n)) (hw:∀ f args h r,w f args h = some r→∃ n,c n f args h = some r) {F:RdFn} {args:List AV} {h:H} {r:CR} (hr:readA C F w args h = some r):∃ n,readA C F (c n) args h = some r:=by
 unfold readA at hr ⊢
 split at hr
 ·rename_i hlen
  simp only [hlen,if_true]
  simp only [oqE,oqB] at hr ⊢
  obtain ⟨a0,e0,a1,e1,q7,e7,hr⟩:=hr
  obtain ⟨n0,f0⟩:=rgn_c hm hw e0
  obtain ⟨n1,f1⟩:=rgn_c hm hw e1
  split at hr
  ·simp only [oqB] at hr
   obtain ⟨a3,e3,a4,e4,q14,e14,hr⟩:=hr
   obtain ⟨n3,f3⟩:=rgn_c hm hw e3
   obtain ⟨n4,f4⟩:=op1_c hw e4
   split at hr
   ·split at hr
    ·rename_i hg
     simp only [oqB] at hr
     obtain ⟨a5,e5,a6,e6,hr⟩:=hr
     obtain ⟨n5,f5⟩:=op1_c hw e5
     obtain ⟨n6,f6⟩:=op1_c hw e6
     split at hr
     ·rename_i f' args' h' hop
      simp only [oqB] at hr
      obtain ⟨cr,ec,hr⟩:=hr
      obtain ⟨n7,f7⟩:=hw _ _ _ _ ec
      obtain ⟨n8,f8⟩:=readEnd_c hm hw hr
      have hle:∀ k,k ≤ n0 + n1 + n3 + n4 + n5 + n6 + n7 + n8→Le (c k) (c (n0 + n1 + n3 + n4 + n5 + n6 + n7 + n8)):=fun k hk=>hm _ _ hk
      refine ⟨n0 + n1 + n3 + n4 + n5 + n6 + n7 + n8,a0,rgn_mono (hle n0 (by omega)) f0,a1,rgn_mono (hle n1 (by omega)) f1,_,e7, ?_⟩
      simp only [oqB]
      refine ⟨a3,rgn_mono (hle n3 (by omega)) f3,a4,op1_mono (hle n4 (by omega)) f4,_,e14, ?_⟩
      simp only [hg,if_true,oqB]
      refine ⟨a5,op1_mono (hle n5 (by omega)) f5,a6,op1_mono (hle n6 (by omega)) f6, ?_⟩
      simp only [hop,oqB]
      exact ⟨cr,hle n7 (by omega) _ _ _ _ f7,readEnd_mono (hle n8 (by omega)) f8⟩
     ·cases hr
    ·cases hr
   ·cases hr
  ·cases hr
 ·cases hr
end
def Me.of (o:Oper):Me:=⟨o.type,o.pos,o.after⟩
def cNo:Code→Code
 | .cond _ _ b=>b
 | c=>c
def cBlk:Code→Code
 | .block _ b=>b
 | c=>c
def cBid:Code→Nat
 | .block i _=>i
 | _=>0
def CM.of (c:Code):CM :=
 let b:=cBlk (cSnd (cSnd c))
 let n:=cNo (cSnd b)
 let s0:=cOps (cFst c)
 let s3:=cOps (cFst b)
 let s4:=cOps (cFst n)
 let s5:=cYes (cSnd n)
 ⟨cRid (cFst c),cRid (cFst (cSnd c)),cRid (cFst b),cRid (cFst n),cRid s5,cRid (cNo (cSnd n)),cBid (cSnd (cSnd c)),Me.of s0[0]!,Me.of s0[1]!,Me.of (cOps (cFst (cSnd c)))[0]!,Me.of s3[0]!,Me.of s3[1]!,Me.of s4[0]!,Me.of s4[1]!,Me.of s4[2]!,Me.of s4[3]!,Me.of (cOps s5)[0]!,cOps (cNo (cSnd n))⟩
def readIds (c:Code):Nat→Nat:=fun k =>
 if k = 0 then cRid (cFst c) else if k = 1 then cRid (cFst (cFst (cSnd c))) else
 let l:=cSnd (cSnd c)
 if k = 3 then cRid (cFst l) else if k = 4 then cRid (cFst (cSnd l)) else if k = 5 then cRid (cFst (cSnd (cSnd l))) else cRid (cFst (cSnd (cSnd (cSnd l))))
theorem readOk_of {P:Program} {f g tp ta tb el:Nat} {fn gn:Func} {c d:Code} {i ie:TypeInfo} {ms:Array (String × TypeId)} (hf:P.funcs[f]? = some fn) (hg:P.funcs[g]? = some gn) (hb:fn.body = some c) (hd:gn.body = some d)
  (h1:c = readCode (readIds c) (RdFn.of g tp fn) (cYes (cSnd (cFst (cSnd c)))) (Me.of (cOps (cFst (cSnd (cSnd (cSnd c)))))[1]!)) (h2:fn.ntmps = 24) (h3:(fn.name == "runtime.NumGoroutine") = false)
  (h4:d = closCode ta tp tb (CM.of d)) (h5:gn.ntmps = 12) (h6:gn.results = #[]) (h7:(gn.name == "runtime.NumGoroutine") = false)
  (g1:(RdFn.of g tp fn).r40.guard = none) (g2:(RdFn.of g tp fn).r50.guard = none) (g3:(RdFn.of g tp fn).r51.guard = none) (g4:(RdFn.of g tp fn).r52.guard = none)
  (hany:P.underlying ta = some (.interface ms)) (hptr:P.underlying tp = some (.pointer el)) (hi:P.info? tp = some i) (hcm:i.comparable = true) (hie:P.info? el = some ie) (hsz:Nat.blt 0 ie.size = true)
  (hs1:sizeT P tb = some 1) (hs2:sizeT P tp = some 1) (hs3:isAggT P tp = some false):ReadOk P f (RdFn.of g tp fn):=by
 exact ⟨⟨fn,_,_,_,hf,hb.trans (congrArg some h1),h2,rfl,h3⟩,g1,g2,g3,g4,ta,tb,⟨⟨gn,_,hg,hd.trans (congrArg some h4),h5,h6,h7⟩,⟨ms,hany⟩,⟨el,i,ie,hptr,hi,hcm,hie,by
  intro h0;rw [h0] at hsz;cases hsz⟩⟩,hs1,hs2,hs3⟩
end Go.Ab
namespace Go.Ab
structure Frm where
 D:Nat→Prop
 f:Nat→Option Blk
structure Hle (R:Frm) (h h':H):Prop where
 next:h.next = h'.next
 f:∀ b k,h.f b = some k→h'.f b = some k
 top:∀ b,h.next ≤ b→h.f b = none
 fr:∀ b,R.D b→b < h.next∧h.f b = none∧h'.f b = R.f b
section
variable {R:Frm}
theorem Hle.set {h h':H} (L:Hle R h h') {b:Nat} {k0:Blk} (hk:h.f b = some k0) (k:Blk):Hle R (h.set b k) (h'.set b k):=by
 refine ⟨L.next,fun c q hq=>?_,fun c hc=>?_,fun c hc=>?_⟩
 ·simp only [H.set] at hq ⊢
  by_cases hc:c = b
  ·rw [if_pos hc] at hq ⊢;exact hq
  ·rw [if_neg hc] at hq ⊢;exact L.f c q hq
 ·have h1:=L.top c hc
  have hne:c ≠ b:=by rintro rfl;rw [hk] at h1;cases h1
  simp only [H.set,if_neg hne];exact h1
 ·obtain ⟨h1,h2,h3⟩:=L.fr c hc
  have hne:c ≠ b:=by rintro rfl;rw [hk] at h2;cases h2
  simp only [H.set,if_neg hne];exact ⟨h1,h2,h3⟩
theorem Hle.new {h h':H} (L:Hle R h h') (k:Blk):Hle R (h.new k) (h'.new k):=by
 refine ⟨by simp only [H.new,L.next],fun c q hq=>?_,fun c hc=>?_,fun c hc=>?_⟩
 ·simp only [H.new,← L.next] at hq ⊢
  by_cases hc:c = h.next
  ·rw [if_pos hc] at hq ⊢;exact hq
  ·rw [if_neg hc] at hq ⊢;exact L.f c q hq
 ·simp only [H.new] at hc ⊢
  rw [if_neg (by omega)];exact L.top c (by omega)
 ·obtain ⟨h1,h2,h3⟩:=L.fr c hc
  simp only [H.new,← L.next]
  rw [if_neg (by omega),if_neg (by omega)]
  exact ⟨by omega,h2,h3⟩
end
section
variable {R:Frm}
end
section
variable {R:Frm} {P:Program} {h h':H}
end
end Go.Ab
namespace Go.Ab
def CRle (R:Frm):CR→CR→Prop
 | .ret v h,.ret v' h'=>v = v'∧Hle R h h'
 | .pan v h,.pan v' h'=>v = v'∧Hle R h h'
 | _,_=>False
def CallsSim (R:Frm) (c d:Calls'):Prop:=∀ f args h h' r,Hle R h h'→c f args h = some r→∃ r',d f args h' = some r'∧CRle R r r'
section
variable {R:Frm} {C:Conf} {c d:Calls'}
inductive EffsLe (R:Frm):List (Nat × H × H)→List (Nat × H × H)→Prop
 | nil:EffsLe R [] []
 | cons (i:Nat) (a b a' b':H) (l l':List (Nat × H × H)):Hle R a a'→Hle R b b'→EffsLe R l l'→EffsLe R ((i,a,b)::l) ((i,a',b')::l')
structure SeenLe (R:Frm) (s s':Seen):Prop where
 effs:EffsLe R s.effs s'.effs
 rds:s'.rds = s.rds
 mono:∀ r ∈ s.rds,∀ h h',Hle R h h'→∀ v,r.2.1 h = some v→r.2.1 h' = some v
theorem Hle.ghost {e e' h h' h1 h1':H} (L:Hle R e e') (L0:Hle R h h') (L1:Hle R h1 h1'):Hle R (e.ghost h h1) (e'.ghost h' h1'):=by
 unfold H.ghost
 rw [← L0.next,← L1.next]
 split
 ·rename_i hlt
  refine ⟨by simp only [L.next],fun b k hk=>?_,fun b hb=>?_,fun b hb=>?_⟩
  ·simp only at hk ⊢
   split at hk
   ·rename_i hb;rw [if_pos hb];exact L1.f b k hk
   ·rename_i hb;rw [if_neg hb];exact L.f b k hk
  ·simp only at hb ⊢
   rw [if_neg (by omega)];exact L.top b (by omega)
  ·obtain ⟨h1,h2,h3⟩:=L.fr b hb
   have hb0:=(L0.fr b hb).1
   simp only
   rw [if_neg (by omega),if_neg (by omega)]
   exact ⟨by omega,h2,h3⟩
 ·exact L
theorem EffsLe.ghost {h h' h1 h1':H} (L0:Hle R h h') (L1:Hle R h1 h1'):∀ {l l':List (Nat × H × H)},EffsLe R l l'→EffsLe R (l.map fun e=>(e.1,e.2.1,e.2.2.ghost h h1)) (l'.map fun e=>(e.1,e.2.1,e.2.2.ghost h' h1'))
 | _,_,.nil=>.nil
 | _,_,.cons j a b a' b' l l' g1 g2 g3=>.cons _ _ _ _ _ _ _ g1 (g2.ghost L0 L1) (EffsLe.ghost L0 L1 g3)
theorem SeenLe.ghost {h h' h1 h1':H} (L0:Hle R h h') (L1:Hle R h1 h1') {s s':Seen} (S:SeenLe R s s'):SeenLe R (s.ghost h h1) (s'.ghost h' h1'):=⟨S.effs.ghost L0 L1,S.rds,S.mono⟩
theorem runD_N {ops:List Oper} {A:List Nat} {dead:Option (Nat × AS × Fr × H)} {i:Nat} {l:List Nat} {fr:Fr} {h:H} {s:Seen} (hd:(match dead with | some (e,_)=>isAnc A e i | none=>false) = false) :
  runD C c ops A dead (i::l) fr h s = runN C c ops A dead i l fr h s:=by
 rcases dead with _ | ⟨e,v,fr',h'⟩
 ·rw [runD];unfold runN;rw [if_neg (by simp)];rfl
 ·rw [runD];unfold runN;rw [if_neg (by simpa using hd)];rfl
theorem runD_skip {ops:List Oper} {A:List Nat} {dead:Option (Nat × AS × Fr × H)} {i:Nat} {l:List Nat} {fr:Fr} {h:H} {s:Seen} (hd:(match dead with | some (e,_)=>isAnc A e i | none=>false) = true) :
  runD C c ops A dead (i::l) fr h s = runD C c ops A dead l fr h s:=by
 rcases dead with _ | ⟨e,v,fr',h'⟩
 ·cases hd
 ·rw [runD];rw [if_pos hd]
def ancD (A:List Nat) (i:Nat):Option (Nat × AS × Fr × H)→Bool
 | some (e,_)=>isAnc A e i
 | none=>false
structure PrimLe (C:Conf):Prop where
 prim:∀ f g,C.prim f = some g→∀ (R:Frm) c d,CallsSim R c d→∀ args h h' r,Hle R h h'→g c args h = some r→∃ r',g d args h' = some r'∧CRle R r r'
 frz:∀ f,C.frz f = false
section
variable {p:Nat→Option ((Nat→List AV→H→Option CR)→List AV→H→Option CR)}
end
structure Oracles (C:Conf) (p:Nat→Option ((Nat→List AV→H→Option CR)→List AV→H→Option CR)):Prop where
 sim:∀ f g,p f = some g→∀ (R:Frm) c,CallsSim R c (W C)→∀ args h h' r,Hle R h h'→g c args h = some r→∃ r',W C f args h' = some r'∧CRle R r r'
 none:∀ f,p f = none→C.prim f = none
end
end Go.Ab
namespace Go.Ab
open Go.RowKit
structure LayFn where
 g:Nat
 rs:List ResultVar
 r0:Array Oper
 r1:Array Oper
 r2:Array Oper
 ra:Array Oper
 rb:Array Oper
 r5:Array Oper
 c0:Array Oper
 c1:Array Oper
 c3:Array Oper
 c4:List Oper
 o11:Oper
 c2:Array Oper
def layBody (i:Nat→Nat) (F:LayFn):Code:=.block (i 5) (.region (i 6) F.rb true)
def layCode (i:Nat→Nat) (F:LayFn):Code :=
 .seq (.region (i 0) F.r0 false) (.seq (.region (i 1) F.r1 false) (.seq (.seq (.region (i 2) F.r2 false) (.block (i 3) (.rangeFunc (.tmp 8) #[9] (.region (i 4) F.ra false) (layBody i F)))) (.seq (.region (i 7) F.r5 false) .ret)))
def callOp (tys:Array TypeId) (m:Me):Oper:=mkO (some 29) (.call ⟨.value (.tmp 19),#[.tmp 28],tys⟩) m
def callOps (F:LayFn) (tys:Array TypeId) (m:Me):Array Oper:=(F.c4++[callOp tys m,F.o11]).toArray
def chunkBody (i:Nat→Nat) (F:LayFn) (tys:Array TypeId) (m:Me):Code :=
 .seq (.seq (.region (i 2) F.c1 false) (.cond (.tmp 9) .skip (.exit (i 1)))) (.seq (.block (i 3) (.seq (.region (i 4) F.c3 true) (.seq (.region (i 5) (callOps F tys m) false) (.cond (.tmp 30) .ret .skip)))) (.region (i 6) F.c2 false))
def chunkCode (i:Nat→Nat) (F:LayFn) (tys:Array TypeId) (m:Me):Code:=.seq (.region (i 0) F.c0 false) (.block (i 1) (.loop (chunkBody i F tys m)))
def noDefer (ops:Array Oper):Bool:=ops.toList.all fun o=>!isDefer o
theorem noDefer_ok {ops:Array Oper} (h:noDefer ops = true):∀ o ∈ ops.toList,isDefer o = false:=by
 intro o ho
 have:=List.all_eq_true.1 h o ho
 simpa using this
structure LayOk (P:Program) (f:Nat) (F:LayFn):Prop where
 fn:∃ fn i,P.funcs[f]? = some fn∧fn.body = some (layCode i F)∧fn.ntmps = 22∧fn.results.toList = F.rs∧(fn.name == "runtime.NumGoroutine") = false
 gn:∃ gn i tys m,P.funcs[F.g]? = some gn∧gn.body = some (chunkCode i F tys m)∧gn.ntmps = 31∧gn.results = #[]∧(gn.name == "runtime.NumGoroutine") = false
 ga:noDefer F.ra = true
 gb:noDefer F.rb = true
 g4:F.c4.length = 10
 h4:(F.c4.all fun o=>o.guard.isNone) = true
 h11:F.o11.guard = none
 kb:okDraw P F.rb.toList = true
 k3:okDraw P F.c3.toList = true
section
variable (C:Conf)
noncomputable def rgnD (c:Calls') (ops:Array Oper) (fr:Fr) (h:H):Option (Fr × H) :=
 match runD C c ops.toList (ancs ops.toList []) none (canon C.P ops.toList) fr h ⟨[],[]⟩ with
 | some (.normal,fr',h')=>some (fr',h')
 | _=>none
def opsL (c:Calls'):List Oper→Fr→H→Option (Fr × H)
 | [],fr,h=>some (fr,h)
 | o::l,fr,h=>(op1 C c o fr h).bind fun p=>opsL c l p.1 p.2
def noOpq:Fr→Bool
 | []=>true
 | .opq::_=>false
 | _::l=>noOpq l
noncomputable def roundA (F:LayFn) (c:Calls') (lf:Fr) (q:AV) (h:H):Option H :=
 (rgn C c F.ra (lf.set 9 q) h).bind fun p=>(rgnD C c F.rb p.1 p.2).bind fun p=>some p.2
def isB (b:Bool):Option AS→Bool
 | some (.bool a)=>a == b
 | _=>false
theorem isB_ok {b:Bool} {x:Option AS} (h:isB b x = true):x = some (.bool b):=by
 unfold isB at h
 split at h
 ·rename_i a
  have:=eq_of_beq h
  subst this;rfl
 ·cases h
def isOpq:Option AV→Bool
 | some .opq=>true
 | _=>false
theorem isOpq_ok {x:Option AV} (h:isOpq x = true):x = some .opq:=by
 unfold isOpq at h
 split at h
 ·rfl
 ·cases h
noncomputable def chunkA (F:LayFn) (c:Calls') (lf:Fr):Nat→Fr→H→Option (Fr × H)
 | 0,_,_=>none
 | n + 1,fr,h =>
  (rgn C c F.c1 fr h).bind fun p =>
   if isB true (evS p.1 (.tmp 9)) then
    (rgnD C c F.c3 p.1 p.2).bind fun p=>(opsL C c F.c4 p.1 p.2).bind fun p =>
     if isOpq (ev p.1 (.tmp 19)) then
      (ev p.1 (.tmp 28)).bind fun q=>(roundA C F c lf q p.2).bind fun h=>(Fr.put p.1 (some 29) (.one (.bool true))).bind fun fr=>(op1 C c F.o11 fr h).bind fun p =>
       if isB false (evS p.1 (.tmp 30)) then (rgn C c F.c2 p.1 p.2).bind fun p=>chunkA F c lf n p.1 p.2 else none
     else none
   else if isB false (evS p.1 (.tmp 9)) then some p else none
def fnOf (g:Nat):Option AS→Option (AS × AS)
 | some (.fn g' [] [p,q])=>if g' = g then some (p,q) else none
 | _=>none
theorem fnOf_ok {g:Nat} {x:Option AS} {p:AS × AS} (h:fnOf g x = some p):x = some (.fn g [] [p.1,p.2]):=by
 unfold fnOf at h
 split at h
 ·split at h
  ·rename_i hg
   simp only [oqI] at h
   subst hg;subst h;rfl
  ·cases h
 ·cases h
noncomputable def layA (F:LayFn) (c:Calls') (args:List AV) (h:H):Option CR :=
 if args.length = 1 then
  (rgn C c F.r0 (args++List.replicate 21 .undef) h).bind fun p=>(rgn C c F.r1 p.1 p.2).bind fun p=>(rgn C c F.r2 p.1 p.2).bind fun p =>
   (fnOf F.g (evS p.1 (.tmp 8))).bind fun q =>
    if noOpq p.1 then
     (rgn C c F.c0 ([.opq,.one q.1,.one q.2]++List.replicate 28 .undef) p.2).bind fun r=>(chunkA C F c p.1 1000 r.1 r.2).bind fun r =>
      (rgn C c F.r5 p.1 r.2).bind fun p=>(resultA C p.1 p.2 F.rs).bind fun v=>some (.ret v p.2)
    else none
 else none
end
theorem least {p:Nat→Prop} (h:∃ n,p n):∃ n,p n∧∀ m,p m→n ≤ m:=by
 obtain ⟨n,hn⟩:=h
 induction n using Nat.strongRecOn with
 | _ n ih =>
  by_cases h:∃ m,m < n∧p m
  ·obtain ⟨m,h1,h2⟩:=h;exact ih m h1 h2
  ·exact ⟨n,hn,fun m hm=>by
    rcases Nat.lt_or_ge m n with h1 | h1
    ·exact absurd ⟨m,h1,hm⟩ h
    ·exact h1⟩
open Classical in
noncomputable def rank (J:Nat→Act→World→Prop) (a:Act) (w:World):Nat:=if h:∃ k,J k a w then Classical.choose (least h) else 0
theorem rank_ok {J:Nat→Act→World→Prop} {a:Act} {w:World} (h:∃ k,J k a w):J (rank J a w) a w:=by
 unfold rank;rw [dif_pos h];exact (Classical.choose_spec (least h)).1
theorem rank_le {J:Nat→Act→World→Prop} {a:Act} {w:World} {k:Nat} (h:J k a w):rank J a w ≤ k:=by
 unfold rank;rw [dif_pos ⟨k,h⟩];exact (Classical.choose_spec (least (p:=fun k=>J k a w) ⟨k,h⟩)).2 k h
theorem wpIn_loop_n {G:Fence} {n:Nat} {P:Program} {Q:Exit→Act→World→Prop} {a:Act} {w:World} {c:Code} (J:Nat→Act→World→Prop) (k0:Nat) (h₀:J k0 a w)
  (round:∀ k a w,J k a w→c.wpIn G n P (Exit.then (fun a' w'=>∃ j,j < k∧J j a' w') Q) a w):(Code.loop c).wpIn G n P Q a w:=by
 refine wpIn_loop (fun a w=>∃ k,J k a w) (rank J) ⟨k0,h₀⟩ fun a w hi=>?_
 refine wpIn_mono (round _ a w (rank_ok hi)) fun e a' w' hq=>?_
 cases e <;> first | exact hq | skip
 obtain ⟨j,hj,hJ⟩:=hq
 exact ⟨⟨j,hJ⟩,Nat.lt_of_le_of_lt (rank_le hJ) hj⟩
section
variable {P:Program} {a:Act} {w:World} {n:Nat}
theorem rows_wide {row:String} {args:Array Value} {R:Value→World→Prop} (h:Rows P row args w R):RowsIn Fence.wide n P row args w R:=by
 intro c cs _
 obtain ⟨v,w',hR,hs⟩:=h c cs
 exact ⟨v,w',hR,stepsIn_wide.2 hs⟩
theorem upon_wide {o:Oper} {next:Act→World→Prop} {Q:Exit→Act→World→Prop} {r:Result Next} (h:o.upon P a next Q r):o.uponIn Fence.wide n P a next Q r:=by
 cases r with
 | ok x w' =>
  cases x <;> simp only [Oper.upon] at h <;> simp only [Oper.uponIn] <;> first | exact h | exact h.elim | skip
  ·exact ⟨fun hd=>by simp [Fence.wide] at hd,callsIn_wide.2 h⟩
  ·exact ⟨fun hd=>by simp [Fence.wide] at hd,rows_wide h⟩
 | halt x w' =>
  cases x <;> simp only [Oper.upon] at h <;> simp only [Oper.uponIn] <;> first | exact h | exact h.elim
theorem opWp_wide {o:Oper} {next:Act→World→Prop} {Q:Exit→Act→World→Prop} (h:o.wp P a w next Q):o.wpIn Fence.wide n P a w next Q :=
 ⟨fun _ _=>trivial,upon_wide h⟩
end
section
variable {C:Conf} {calls:Calls'} {n:Nat}
theorem rgn_w (hP:OkT C.P) (hC:∀ t z,C.cmp t = some z→CmpT C.P t z) (hc:CallsOk C.P calls) {id:Nat} {ops:Array Oper} {fr fr':Fr} {h h':H} {Q:Exit→Act→World→Prop} {φ:Phi} {w:World} {a:Act}
  (R:Rel φ h w) (hf:AVL φ (Nf φ) w fr a.tmps.toList) (hr:rgn C calls ops fr h = some (fr',h'))
  (hn:∀ φ' a' w',Rel φ' h' w'→Grow φ h w φ' h' w'→AVL φ' (Nf φ') w' fr' a'.tmps.toList→a'.defers = a.defers→Q .normal a' w'):(Code.region id ops false).wpIn Fence.wide n C.P Q a w :=
 wpIn_wide.2 (rgn_ok hP hC hc R hf hr hn)
theorem rgnD_run {ops:Array Oper} {fr fr':Fr} {h h':H} (hr:rgnD C calls ops fr h = some (fr',h')):runD C calls ops.toList (ancs ops.toList []) none (canon C.P ops.toList) fr h ⟨[],[]⟩ = some (.normal,fr',h'):=by
 unfold rgnD at hr
 split at hr
 ·rename_i fr1 h1 he
  simp only [oqI,oqM] at hr
  obtain ⟨rfl,rfl⟩:=hr
  exact he
 ·cases hr
theorem rgnD_w (hP:OkT C.P) (hC:∀ t z,C.cmp t = some z→CmpT C.P t z) (hmix:C.P.follows .mixedOrders = true) (hc:CallsOk C.P calls) {id:Nat} {ops:Array Oper} (hok:okDraw C.P ops.toList = true) {fr fr':Fr} {h h':H} {Q:Exit→Act→World→Prop} {φ:Phi} {w:World} {a:Act}
  (R:Rel φ h w) (hf:AVL φ (Nf φ) w fr a.tmps.toList) (hd:a.defers = []) (hr:rgnD C calls ops fr h = some (fr',h'))
  (hn:∀ φ' a' w',Rel φ' h' w'→Grow φ h w φ' h' w'→AVL φ' (Nf φ') w' fr' a'.tmps.toList→a'.defers = []→Q .normal a' w'):(Code.region id ops true).wpIn Fence.wide n C.P Q a w:=by
 refine wpIn_mono (wpIn_wide.2 (draw_ok hP hC hmix hc id ops fr h _ fr' h' hok (rgnD_run hr) φ w a R hf hd)) ?_
 rintro e a' w' ⟨φ',R',G',hd',hm⟩
 cases e <;> first | exact hm.elim | exact hn φ' a' w' R' G' hm hd'
theorem op1_w (hP:OkT C.P) (hC:∀ t z,C.cmp t = some z→CmpT C.P t z) (hc:CallsOk C.P calls) {ops:Array Oper} {i:Nat} {rest:List Nat} {o:Oper} (ho:ops[i]? = some o) (hg:o.guard = none) {fr fr':Fr} {h h':H} {Q:Exit→Act→World→Prop} {φ:Phi} {w:World} {a:Act}
  (R:Rel φ h w) (hf:AVL φ (Nf φ) w fr a.tmps.toList) (hr:op1 C calls o fr h = some (fr',h'))
  (hn:∀ φ' a' w',Rel φ' h' w'→Grow φ h w φ' h' w'→AVL φ' (Nf φ') w' fr' a'.tmps.toList→a'.defers = a.defers→wpOpsIn Fence.wide n C.P ops Q rest a' w'):wpOpsIn Fence.wide n C.P ops Q (i::rest) a w:=by
 unfold op1 at hr
 split at hr
 ·rename_i fr1 h1 he
  simp only [oqI,oqM] at hr
  obtain ⟨rfl,rfl⟩:=hr
  have hw:Region.wanted o (yielded ops a.tmps) = true:=by unfold Region.wanted;rw [hg]
  simp only [wpOpsIn,ho,hw,if_true]
  exact opWp_wide (runOp_ok hP hC hc R hf he (fun _ φ' a' w' R' G hf' hd'=>hn φ' a' w' R' G hf' hd') (fun v e=>by cases e))
 ·cases hr
theorem opsL_w (hP:OkT C.P) (hC:∀ t z,C.cmp t = some z→CmpT C.P t z) (hc:CallsOk C.P calls) {ops:Array Oper} {rest:List Nat} {fr':Fr} {h':H} {Q:Exit→Act→World→Prop} :
  ∀ (l:List Oper) (k:Nat) (φ:Phi) (h:H) (w:World) (fr:Fr) (a:Act),(∀ j,j < l.length→ops[k + j]? = l[j]?)→(l.all fun o=>o.guard.isNone) = true→Rel φ h w→AVL φ (Nf φ) w fr a.tmps.toList→opsL C calls l fr h = some (fr',h') →
   (∀ φ' a' w',Rel φ' h' w'→Grow φ h w φ' h' w'→AVL φ' (Nf φ') w' fr' a'.tmps.toList→a'.defers = a.defers→wpOpsIn Fence.wide n C.P ops Q rest a' w')→wpOpsIn Fence.wide n C.P ops Q (List.range' k l.length++rest) a w
 | [],k,φ,h,w,fr,a,hl,hg,R,hf,hr,hn=>by
  simp only [opsL,oqI,oqM] at hr
  obtain ⟨rfl,rfl⟩:=hr
  exact hn φ a w R (Grow.refl _ _ _) hf rfl
 | o::l,k,φ,h,w,fr,a,hl,hg,R,hf,hr,hn=>by
  simp only [opsL,oqB] at hr
  obtain ⟨⟨fr1,h1⟩,h2,h3⟩:=hr
  simp only [List.all_cons,Bool.and_eq_true] at hg
  have ho:ops[k]? = some o:=by have:=hl 0 (by simp);simpa using this
  rw [List.length_cons,List.range'_succ,List.cons_append]
  refine op1_w hP hC hc ho (by have:=hg.1;cases hq:o.guard <;> simp_all) R hf h2 fun φ1 a1 w1 R1 G1 hf1 hd1=>?_
  refine opsL_w hP hC hc l (k + 1) φ1 h1 w1 fr1 a1 (fun j hj=>by have:=hl (j + 1) (by simp;omega);simpa [Nat.add_assoc,Nat.add_comm 1 j] using this) hg.2 R1 hf1 h3 fun φ2 a2 w2 R2 G2 hf2 hd2=>hn φ2 a2 w2 R2 (G1.trans G2) hf2 (hd2.trans hd1)
theorem rgn_in {l₀:Nat} (hP:OkT C.P) (hC:∀ t z,C.cmp t = some z→CmpT C.P t z) (hc:CallsOk C.P calls) {id:Nat} {ops:Array Oper} (hnd:∀ o ∈ ops.toList,isDefer o = false) {fr fr':Fr} {h h':H} {Q:Exit→Act→World→Prop} (hL:¬ LetsOut Q) {φ:Phi} {w:World} {a:Act}
  (R:Rel φ h w) (hf:AVL φ (Nf φ) w fr a.tmps.toList) (hr:rgn C calls ops fr h = some (fr',h'))
  (hn:∀ φ' a' w',Rel φ' h' w'→Grow φ h w φ' h' w'→AVL φ' (Nf φ') w' fr' a'.tmps.toList→a'.defers = a.defers→Q .normal a' w'):(Code.region id ops false).wpIn (Fence.wide.inRound l₀) n C.P Q a w:=by
 unfold rgn at hr
 split at hr
 ·rename_i fr1 h1 he
  simp only [oqI,oqM] at hr
  obtain ⟨rfl,rfl⟩:=hr
  refine wpIn_region (wpOps_in hL hnd _ _ _ ?_)
  have:=runOps_nd hP hC hc (ops:=ops) (Q:=Q) ops.toList 0 φ h w fr a (by simp) (by simp) R hf he hn
  rw [List.range_eq_range']
  simpa using this
 ·cases hr
def Phi.withQ (φ:Phi) (y:Value):Phi:=⟨φ.m,φ.F,y⟩
end
section
variable {φ φ0:Phi} {h h0:H} {w w0:World}
theorem vr_q (y:Value) {a:AS} {v:Value} (h:VR φ (Nf φ) w a v):VR (φ.withQ y) (Nf (φ.withQ y)) w a v :=
 VR.mono (φ:=φ) (O:=Nf φ) (w:=w) (φ':=φ.withQ y) (O':=Nf (φ.withQ y)) (w':=w) (fun _ _ _ h=>h) (Nat.le_refl _) (fun _ _ _=>rfl) (fun _ _ h=>h) h
theorem vrl_q (y:Value) {a:List AS} {v:List Value} (h:VRL φ (Nf φ) w a v):VRL (φ.withQ y) (Nf (φ.withQ y)) w a v :=
 VRL.mono (φ:=φ) (O:=Nf φ) (w:=w) (φ':=φ.withQ y) (O':=Nf (φ.withQ y)) (w':=w) (fun _ _ _ h=>h) (Nat.le_refl _) (fun _ _ _=>rfl) (fun _ _ h=>h) h
theorem prl_q (y:Value) {a:List (Bool × List AS)} {v:List Value} (h:PRL φ (Nf φ) w a v):PRL (φ.withQ y) (Nf (φ.withQ y)) w a v :=
 PRL.mono (φ:=φ) (O:=Nf φ) (w:=w) (φ':=φ.withQ y) (O':=Nf (φ.withQ y)) (w':=w) (fun _ _ _ h=>h) (Nat.le_refl _) (fun _ _ _=>rfl) (fun _ _ h=>h) h
theorem rel_q (R:Rel φ h w) (y:Value):Rel (φ.withQ y) h w:=by
 refine ⟨R.lt, ?_,R.sep,R.dom,R.ver,R.frz⟩
 intro b k v e hb he
 obtain ⟨l,a1,a2,a3,a4,a5,c,ty,fz,a6,a7,a8,us,a9,a10⟩:=R.blk b k v e hb he
 exact ⟨l,a1,a2,a3,a4,a5,c,ty,fz,a6,a7,a8,us,vrl_q y a9,a10⟩
theorem grow_q (G:Grow φ0 h0 w0 φ h w) (y:Value):Grow (φ0.withQ y) h0 w0 (φ.withQ y) h w :=
 ⟨⟨G.sub,G.next,G.size,G.keep,G.own,G.os,G.tape,G.output,G.keepF,G.F,G.fresh,rfl⟩,G.names,G.keepB⟩
theorem side_q {D:Nat} {r:Loop} (S:Side φ w D r) (y:Value):Side (φ.withQ y) w D r:=⟨S.dl,S.ll,S.fd,S.fl⟩
theorem avl_q (y:Value):∀ {l:List AV} {vs:List Value},AVL φ (Nf φ) w l vs→noOpq l = true→AVL (φ.withQ y) (Nf (φ.withQ y)) w l vs:=by
 intro l vs hl
 induction hl with
 | nil=>intro _;exact .nil
 | cons a v l vs h t ih =>
  intro hn
  cases h with
  | opq=>cases hn
  | undef=>exact .cons _ _ _ _ .undef (ih hn)
  | one a v h=>exact .cons _ _ _ _ (.one _ _ (vr_q y h)) (ih hn)
  | agg l vs h=>exact .cons _ _ _ _ (.agg _ _ (vrl_q y h)) (ih hn)
  | tup l vs h=>exact .cons _ _ _ _ (.tup _ _ (prl_q y h)) (ih hn)
end
def recOf (fn:FuncId) (lt:Array Value) (as body:Code) (D:Nat) (st:LoopState) (pe:Option Code):Loop:={ state:=st,pending:=pe,fn,tmps:=lt,params:=#[9],assign:=as,body,defers:=D }
section
variable {C:Conf} {calls:Calls'} {n:Nat}
theorem not_out_then {K:Act→World→Prop}:¬ LetsOut (Exit.then K (fun _ _ _=>False)):=by
 rintro ⟨a,w,h⟩;exact h
theorem round_ok (hP:OkT C.P) (hC:∀ t z,C.cmp t = some z→CmpT C.P t z) (hmix:C.P.follows .mixedOrders = true) (hc:CallsOk C.P calls) {f:Nat} {F:LayFn} (hL:LayOk C.P f F)
  {i:Nat→Nat} {fn:FuncId} {lt:Array Value} {lf:Fr} {q:AV} {x:Value} {φ φ0:Phi} {h h' h0:H} {W w0:World} {D:Nat} (R:Rel φ h W) (G0:Grow φ0 h0 w0 φ h W) (hD:w0.heap.size ≤ D)
  (S:Side φ W D (recOf fn lt (.region (i 4) F.ra false) (layBody i F) D .ready none)) (hlf:AVL φ (Nf φ) W lf lt.toList) (hq:AVR φ (Nf φ) W q x) (hr:roundA C F calls lf q h = some h') :
  RoundIn Fence.wide n C.P (D + 1) fn (lt.setIfInBounds 9 x) (.region (i 4) F.ra false) (layBody i F) W fun e W'=>e = .returned (.bool true)∧∃ φ',Rel φ' h' W'∧Grow φ0 h0 w0 φ' h' W' ∧
   Side φ' W' D (recOf fn lt (.region (i 4) F.ra false) (layBody i F) D .ready none)∧φ'.q = φ.q∧∀ l vs,AVL φ (Nf φ) W l vs→AVL φ' (Nf φ') W' l vs:=by
 unfold roundA at hr
 simp only [oqB,oqI] at hr
 obtain ⟨⟨f1,h1⟩,e1,⟨f2,h2⟩,e2,rfl⟩:=hr
 refine roundIn_of_wpIn trivial ?_
 have hf0:AVL φ (Nf φ) W (lf.set 9 q) (lt.setIfInBounds 9 x).toList:=by rw [Array.toList_setIfInBounds];exact hlf.set 9 hq
 refine rgn_in hP hC hc (noDefer_ok hL.ga) not_out_then R hf0 e1 fun φ1 a1 w1 R1 G1 hf1 hd1=>?_
 have S1:=S.grow R G1
 refine ⟨_,run_beginRound S1.ll rfl, ?_⟩
 obtain ⟨R2,G2,S2,T2⟩:=S1.put R1 (G0.trans G1) hD (recOf fn lt (.region (i 4) F.ra false) (layBody i F) D .busy none)
 refine wpIn_block (wpIn_mono (draw_in hP hC hmix hc (noDefer_ok hL.gb) hL.kb (rgnD_run e2) R2 (T2 _ _ hf1) hd1) ?_)
 rintro e a3 W3 ⟨φ3,R3,G3,hd3,hm⟩
 cases e <;> first | exact hm.elim | skip
 have S3:=S2.grow R2 G3
 obtain ⟨R4,G4,S4,T4⟩:=S3.put R3 (G2.trans G3) hD (recOf fn lt (.region (i 4) F.ra false) (layBody i F) D .ready none)
 exact ⟨_,_,run_endRound none S3.ll,rfl,φ3,R4,G4,S4,(G3.q).trans G1.q,fun l vs hl=>T4 _ _ (G3.avl (T2 _ _ (G1.avl hl)))⟩
theorem callOps_get {F:LayFn} (h4:F.c4.length = 10) (tys:Array TypeId) (m:Me):(callOps F tys m).size = 12∧(∀ j,j < F.c4.length→(callOps F tys m)[0 + j]? = F.c4[j]?)∧(callOps F tys m)[10]? = some (callOp tys m)∧(callOps F tys m)[11]? = some F.o11:=by
 unfold callOps
 refine ⟨by simp [h4],fun j hj=>?_, ?_, ?_⟩
 ·simp only [List.getElem?_toArray,Nat.zero_add]
  rw [List.getElem?_append_left hj]
 ·simp only [List.getElem?_toArray]
  rw [List.getElem?_append_right (by omega),h4];rfl
 ·simp only [List.getElem?_toArray]
  rw [List.getElem?_append_right (by omega),h4];rfl
theorem exec_yield {P:Program} {a:Act} {w:World} {l:Nat} {x:Value} {tys:Array TypeId} {m:Me} (h1:a.eval (.tmp 19) = .func (.yield l) #[] #[]) (h2:a.eval (.tmp 28) = x) :
  (execOp a.eval (callOp tys m)).run P w = (Instr.yield l #[x]).run P w:=by
 simp [execOp,callOp,mkO,resolve,h1,h2,invoke,Deferred.ofValue,Sem.run_bind,Sem.run_pure,Result.andThen_ok]
theorem wpOps_cons_w {ops:Array Oper} {i:Nat} {rest:List Nat} {o:Oper} {Q:Exit→Act→World→Prop} {a:Act} {w:World} {P:Program} (ho:ops[i]? = some o) (hg:o.guard = none) (h:o.wpIn Fence.wide n P a w (wpOpsIn Fence.wide n P ops Q rest) Q) :
  wpOpsIn Fence.wide n P ops Q (i::rest) a w:=by
 have hw:Region.wanted o (yielded ops a.tmps) = true:=by unfold Region.wanted;rw [hg]
 simp only [wpOpsIn,ho,hw,if_true];exact h
theorem zip_one (lt:Array Value) (x:Value):((#[9]:Array Tmp).zip #[x]).foldl (fun tmps (t,a)=>tmps.setIfInBounds t a) lt = lt.setIfInBounds 9 x:=by simp
theorem opq_inv {φ:Phi} {O:Nat→Prop} {w:World} {v:Value} (h:AVR φ O w .opq v):v = φ.q:=by cases h;rfl
theorem chunk_ok (hP:OkT C.P) (hC:∀ t z,C.cmp t = some z→CmpT C.P t z) (hmix:C.P.follows .mixedOrders = true) (hc:CallsOk C.P calls) {f:Nat} {F:LayFn} (hL:LayOk C.P f F)
  {i ib:Nat→Nat} {fn:FuncId} {lt:Array Value} {lf frE:Fr} {φ0:Phi} {h0 hE:H} {w0:World} {D:Nat} {tys:Array TypeId} {m:Me} (hD:w0.heap.size ≤ D)
  {k:Nat} {a:Act} {w:World} {fr:Fr} {h:H} {φ:Phi} (hr:chunkA C F calls lf k fr h = some (frE,hE)) (R:Rel φ h w) (G:Grow φ0 h0 w0 φ h w)
  (S:Side φ w D (recOf fn lt (.region (ib 4) F.ra false) (layBody ib F) D .ready none)) (hq:φ.q = .func (.yield (D + 1)) #[] #[]) (hl:AVL φ (Nf φ) w lf lt.toList) (hf:AVL φ (Nf φ) w fr a.tmps.toList) (hd:a.defers = []) :
  (Code.loop (chunkBody i F tys m)).wpIn Fence.wide n C.P (fun e a' w'=>e = .exit (i 1)∧a'.defers = []∧∃ φ',Rel φ' hE w'∧Grow φ0 h0 w0 φ' hE w' ∧
   Side φ' w' D (recOf fn lt (.region (ib 4) F.ra false) (layBody ib F) D .ready none)∧AVL φ' (Nf φ') w' lf lt.toList) a w:=by
 refine wpIn_loop_n (fun k a w=>∃ fr h φ,chunkA C F calls lf k fr h = some (frE,hE)∧Rel φ h w∧Grow φ0 h0 w0 φ h w∧Side φ w D (recOf fn lt (.region (ib 4) F.ra false) (layBody ib F) D .ready none) ∧
  φ.q = .func (.yield (D + 1)) #[] #[]∧AVL φ (Nf φ) w lf lt.toList∧AVL φ (Nf φ) w fr a.tmps.toList∧a.defers = []) k ⟨fr,h,φ,hr,R,G,S,hq,hl,hf,hd⟩ ?_
 clear hr R G S hq hl hf hd
 rintro k a w ⟨fr,h,φ,hr,R,G,S,hq,hl,hf,hd⟩
 cases k with
 | zero=>simp [chunkA] at hr
 | succ k =>
 rw [chunkA] at hr
 simp only [oqB] at hr
 obtain ⟨⟨fr1,h1⟩,e1,hr⟩:=hr
 unfold chunkBody
 refine wpIn_seq (wpIn_seq (rgn_w hP hC hc R hf e1 fun φ1 a1 w1 R1 G1 hf1 hd1=>?_))
 split at hr
 ·rename_i hb
  refine wpIn_cond_true (evS_ok hf1 (isB_ok hb)).bool_inv (wpIn_skip ?_)
  simp only [oqB] at hr
  obtain ⟨⟨fr3,h3⟩,e3,⟨fr4,h4⟩,e4,hr⟩:=hr
  split at hr
  ·rename_i hopq
   simp only [oqB] at hr
   obtain ⟨q,e28,h5,e5,fr6,e6,⟨fr7,h7⟩,e7,hr⟩:=hr
   split at hr
   ·rename_i h30
    simp only [oqB] at hr
    obtain ⟨⟨fr8,h8⟩,e8,hr⟩:=hr
    refine wpIn_seq (wpIn_block (wpIn_seq (rgnD_w hP hC hmix hc hL.k3 R1 hf1 (hd1.trans hd) e3 fun φ3 a3 w3 R3 G3 hf3 hd3=>wpIn_seq (wpIn_region ?_))))
    obtain ⟨hsz,hg,h10,h11⟩:=callOps_get hL.g4 tys m
    have hrange:List.range (callOps F tys m).size = List.range' 0 F.c4.length++[10,11]:=by rw [hsz,hL.g4];rfl
    rw [hrange]
    refine opsL_w hP hC hc F.c4 0 φ3 h3 w3 fr3 a3 hg hL.h4 R3 hf3 e4 fun φ4 a4 w4 R4 G4 hf4 hd4=>?_
    have hq4:φ4.q = .func (.yield (D + 1)) #[] #[]:=((G4.q.trans G3.q).trans G1.q).trans hq
    have hy4:a4.eval (.tmp 19) = .func (.yield (D + 1)) #[] #[]:=(opq_inv (ev_ok hf4 (isOpq_ok hopq))).trans hq4
    have S4:=((S.grow R G1).grow R1 G3).grow R3 G4
    have hl4:=G4.avl (G3.avl (G1.avl hl))
    have hy:=run_yield (P:=C.P) (args:=#[a4.eval (.tmp 28)]) S4.ll (by simp [recOf])
    have hx:=exec_yield (P:=C.P) (w:=w4) (tys:=tys) (m:=m) hy4 rfl
    refine wpOps_cons_w h10 rfl ⟨fun _ _=>trivial, ?_⟩
    show Oper.uponIn _ _ _ _ _ _ _ ((execOp a4.eval (callOp tys m)).run C.P w4)
    rw [hx,hy,Oper.uponIn_round]
    refine ⟨fun hd=>by simp [Fence.wide] at hd, ?_⟩
    have hz:=zip_one lt (a4.eval (.tmp 28))
    show RoundIn Fence.wide _ C.P (D + 1) fn (((#[9]:Array Tmp).zip #[a4.eval (.tmp 28)]).foldl (fun tmps (t,a)=>tmps.setIfInBounds t a) lt) _ _ w4 _
    rw [hz]
    refine (round_ok hP hC hmix hc hL (i:=ib) (fn:=fn) R4 (((G.trans G1).trans G3).trans G4) hD S4 hl4 (ev_ok hf4 e28) e5).mono ?_
    rintro e W' ⟨rfl,φ5,R5,G5,S5,hq5,T5⟩
    have hf6:=put_ok (T5 _ _ hf4) (.one _ _ (.bool true)) e6
    refine op1_w hP hC hc h11 hL.h11 R5 hf6 e7 fun φ7 a7 w7 R7 G7 hf7 hd7=>?_
    refine wpIn_cond_false (evS_ok hf7 (isB_ok h30)).bool_inv (wpIn_skip ?_)
    refine rgn_w hP hC hc R7 hf7 e8 fun φ8 a8 w8 R8 G8 hf8 hd8=>?_
    have hdd:a8.defers = []:=by
     rw [hd8,hd7]
     show a4.defers = []
     rw [hd4,hd3]
    exact ⟨k,Nat.lt_succ_self k,fr8,h8,φ8,hr,R8,(G5.trans G7).trans G8,(S5.grow R5 G7).grow R7 G8,(((G8.q.trans G7.q).trans hq5).trans hq4),G8.avl (G7.avl (T5 _ _ hl4)),hf8,hdd⟩
   ·cases hr
  ·cases hr
 ·split at hr
  ·rename_i hb
   simp only [oqI,oqM] at hr
   obtain ⟨rfl,rfl⟩:=hr
   refine wpIn_cond_false (evS_ok hf1 (isB_ok hb)).bool_inv (wpIn_exit ⟨rfl,hd1.trans hd,φ1,R1,G.trans G1,S.grow R G1,G1.avl hl⟩)
  ·cases hr
theorem avl_one {φ:Phi} {O:Nat→Prop} {w:World} {p:AS} {v:Value} (h:AVL φ O w [.one p] [v]):VR φ O w p v:=by
 cases h with
 | cons _ _ _ _ h _=>exact h.one_inv
theorem layA_ok (hP:OkT C.P) (hC:∀ t z,C.cmp t = some z→CmpT C.P t z) (hmix:C.P.follows .mixedOrders = true) {f:Nat} {F:LayFn} (hL:LayOk C.P f F) (hc:CallsOk C.P calls) {args:List AV} {h:H} {r:CR} (hr:layA C F calls args h = some r) {φ:Phi} {w:World} {cargs:List Value}
  (R:Rel φ h w) (ha:AVL φ (Nf φ) w args cargs):CallR C.P φ h w f cargs r:=by
 obtain ⟨fn,i,hfn,hb,hnt,hrs,hnm⟩:=hL.fn
 obtain ⟨gn,ig,tys,m,hgn,hgb,hgt,hgr,hgm⟩:=hL.gn
 unfold layA at hr
 split at hr
 ·rename_i hlen
  simp only [oqB] at hr
  obtain ⟨⟨f0,h0⟩,e0,⟨f1,h1⟩,e1,⟨f2,h2⟩,e2,⟨p,q⟩,e8,hr⟩:=hr
  split at hr
  ·rename_i hno
   simp only [oqB,oqI] at hr
   obtain ⟨⟨c0,k0⟩,ec0,⟨c1,k1⟩,ec1,⟨f5,h5⟩,e5,v,ev5,rfl⟩:=hr
   right
   have hnm':¬ fn.name = "runtime.NumGoroutine" := by simpa using hnm
   refine ⟨by simp [callFunc,hfn,hnm',hb],(callsIn_wide (n:=3)).1 (callsIn_of_wp_marks hfn hb trivial ?_)⟩
   have hl:=ha.length
   have hf0:AVL φ (Nf φ) w (args++List.replicate 21 .undef) ((cargs.toArray++Array.replicate (fn.ntmps - cargs.toArray.size) Go.undef).toList):=by
    rw [Array.toList_append,Array.toList_replicate,List.size_toArray,← hl,hnt,hlen]
    exact ha.append (undefs_ok _)
   unfold layCode
   refine wpIn_seq (rgn_w hP hC hc R hf0 e0 fun φ0 a0 w0 R0 G0 hf0 hd0=>?_)
   refine wpIn_seq (rgn_w hP hC hc R0 hf0 e1 fun φ1 a1 w1 R1 G1 hf1 hd1=>?_)
   refine wpIn_seq (wpIn_seq (rgn_w hP hC hc R1 hf1 e2 fun φ2 a2 w2 R2 G2 hf2 hd2=>?_))
   have hd2':a2.defers = []:=by rw [hd2,hd1,hd0]
   refine wpIn_block (wpIn_rangeFunc ?_)
   intro fid _
   have hv8:=evS_ok hf2 (fnOf_ok e8)
   generalize hx8:a2.eval (.tmp 8) = x8 at hv8
   cases hv8 with
   | fn _ _ _ vs1 vs2 hv1 hv2 =>
   cases hv1
   cases hv2 with
   | cons _ pv _ vs2' hpv hv2 =>
   cases hv2 with
   | cons _ qv _ vs3 hqv hv2 =>
   cases hv2
   obtain ⟨R3,G3,S3,T3⟩:=side_new R2 ((G0.trans G1).trans G2) (recOf fid a2.tmps (.region (i 4) F.ra false) (layBody i F) w2.heap.size .ready none)
   generalize hW3:(w2.alloc (.deferred (some []))).alloc (.loop (recOf fid a2.tmps (.region (i 4) F.ra false) (layBody i F) w2.heap.size .ready none)) = w3 at R3 G3 S3 T3
   have hD:w.heap.size ≤ w2.heap.size:=((G0.trans G1).trans G2).size
   refine ⟨w2.heap.size + 1,[{ target:=.collected w2.heap.size,args:=#[] }],w3,{ target:=.fn (.func F.g) #[pv,qv],args:=#[.func (.yield (w2.heap.size + 1)) #[] #[]] },w3,F.g,
    #[.func (.yield (w2.heap.size + 1)) #[] #[],pv,qv],w3, ?_, ?_,fun _ _=>trivial, ?_,fun hd=>by simp [Fence.wide] at hd, ?_⟩
   ·rw [← hW3];exact run_enterLoop_outer _ _ _ _ _
   ·simp [resolve,hx8,Deferred.ofValue];rfl
   ·have hgm':¬ gn.name = "runtime.NumGoroutine" := by simpa using hgm
    simp [invoke,callFunc,hgn,hgb,hgm']
   ·refine callsIn_of_wp hgn hgb trivial ?_
    let y:Value:=.func (.yield (w2.heap.size + 1)) #[] #[]
    have hpv3:=vr_q y (avl_one (T3 [.one p] [pv] (.cons _ _ _ _ (.one _ _ hpv) .nil)))
    have hqv3:=vr_q y (avl_one (T3 [.one q] [qv] (.cons _ _ _ _ (.one _ _ hqv) .nil)))
    have hfc:AVL (φ2.withQ y) (Nf (φ2.withQ y)) w3 ([.opq,.one p,.one q]++List.replicate 28 .undef) ((#[.func (.yield (w2.heap.size + 1)) #[] #[],pv,qv]++Array.replicate (gn.ntmps - #[Value.func (.yield (w2.heap.size + 1)) #[] #[],pv,qv].size) Go.undef).toList):=by
     rw [Array.toList_append,Array.toList_replicate,hgt]
     refine AVL.append ?_ (undefs_ok _)
     exact .cons _ _ _ _ .opq (.cons _ _ _ _ (.one _ _ hpv3) (.cons _ _ _ _ (.one _ _ hqv3) .nil))
    unfold chunkCode
    refine wpIn_seq (rgn_w hP hC hc (rel_q R3 y) hfc ec0 fun φ4 a4 w4 R4 G4 hf4 hd4=>?_)
    refine wpIn_block (wpIn_mono (chunk_ok hP hC hmix hc hL (i:=ig) (ib:=i) (fn:=fid) (lt:=a2.tmps) (lf:=f2) (φ0:=φ.withQ y) (h0:=h) (w0:=w) (D:=w2.heap.size) (tys:=tys) (m:=m) hD ec1 R4 ((grow_q G3 y).trans G4)
     ((side_q S3 y).grow (rel_q R3 y) G4) G4.q (G4.avl (avl_q y (T3 _ _ hf2) hno)) hf4 hd4) ?_)
    rintro e a5 w5 ⟨rfl,hd5,φ5,R5,G5,S5,hl5⟩
    simp only [Exit.inBlock,if_true]
    refine ⟨hd5,.tuple #[],by simp [results,hgr], ?_⟩
    obtain ⟨R6,G6,S6,T6⟩:=S5.put R5 G5 hD (recOf fid a2.tmps (.region (i 4) F.ra false) (layBody i F) w2.heap.size .exhausted none)
    refine ⟨none,_,run_endLoop S5.ll (by simp [recOf]), ?_⟩
    have R7:=rel_q R6 φ.q
    have G7:Grow φ h w (φ5.withQ φ.q) k1 _:=grow_q G6 φ.q
    have hl7:=avl_q φ.q (T6 _ _ hl5) hno
    have S7:=side_q S6 φ.q
    refine wpIn_seq (rgn_w hP hC hc R7 hl7 e5 fun φ8 a8 w8 R8 G8 hf8 hd8=>wpIn_ret ?_)
    have S8:=S7.grow R7 G8
    obtain ⟨R9,G9,T9⟩:=S8.shut R8 (G7.trans G8) hD
    have hdd:a8.defers = [{ target:=.collected w2.heap.size,args:=#[] }]:=by rw [hd8];simp [hd2']
    simp only [bodyPostM,hdd]
    refine ⟨by simp,.inl ⟨_,_,rfl,run_takeDeferred S8.dl, ?_⟩⟩
    obtain ⟨cv,hres,hav⟩:=resultA_ok R9 (T9 _ _ hf8) (v:=v) (by rw [hrs];exact ev5)
    exact ⟨cv,hres,v,h5,φ8,rfl,R9,G9,hav⟩
  ·cases hr
 ·cases hr
end
end Go.Ab
namespace Go.Ab
section
variable {C:Conf} {c d:Calls'}
theorem rgnD_of {ops:Array Oper} {fr:Fr} {h:H} {r:Fr × H} (hr:runD C c ops.toList (ancs ops.toList []) none (canon C.P ops.toList) fr h ⟨[],[]⟩ = some (.normal,r.1,r.2)):rgnD C c ops fr h = some r:=by
 unfold rgnD;rw [hr]
theorem rgnD_mono (hl:Le c d) {ops:Array Oper} {fr:Fr} {h:H} {r:Fr × H} (hr:rgnD C c ops fr h = some r):rgnD C d ops fr h = some r:=rgnD_of (runD_mono hl (rgnD_run hr))
theorem opsL_mono (hl:Le c d):∀ {l:List Oper} {fr:Fr} {h:H} {r:Fr × H},opsL C c l fr h = some r→opsL C d l fr h = some r
 | [],_,_,_,hr=>hr
 | o::l,fr,h,r,hr=>by
  simp only [opsL,oqB] at hr ⊢
  obtain ⟨p,h1,h2⟩:=hr
  exact ⟨p,op1_mono hl h1,opsL_mono hl h2⟩
theorem roundA_mono (hl:Le c d) {F:LayFn} {lf:Fr} {q:AV} {h h':H} (hr:roundA C F c lf q h = some h'):roundA C F d lf q h = some h':=by
 simp only [roundA,oqB] at hr ⊢
 obtain ⟨p,h1,p2,h2,h3⟩:=hr
 exact ⟨p,rgn_mono hl h1,p2,rgnD_mono hl h2,h3⟩
theorem chunkA_mono (hl:Le c d) {F:LayFn} {lf:Fr}:∀ {k:Nat} {fr:Fr} {h:H} {r:Fr × H},chunkA C F c lf k fr h = some r→chunkA C F d lf k fr h = some r
 | 0,_,_,_,hr=>by simp [chunkA] at hr
 | k + 1,fr,h,r,hr=>by
  rw [chunkA] at hr ⊢
  simp only [oqB] at hr ⊢
  obtain ⟨p,h1,hr⟩:=hr
  refine ⟨p,rgn_mono hl h1, ?_⟩
  split at hr
  ·rename_i hb
   rw [if_pos hb]
   simp only [oqB] at hr ⊢
   obtain ⟨p3,h3,p4,h4,hr⟩:=hr
   refine ⟨p3,rgnD_mono hl h3,p4,opsL_mono hl h4, ?_⟩
   split at hr
   ·rename_i ho
    rw [if_pos ho]
    simp only [oqB] at hr ⊢
    obtain ⟨q,hq,h5,hr5,fr6,h6,p7,h7,hr⟩:=hr
    refine ⟨q,hq,h5,roundA_mono hl hr5,fr6,h6,p7,op1_mono hl h7, ?_⟩
    split at hr
    ·rename_i h30
     rw [if_pos h30]
     simp only [oqB] at hr ⊢
     obtain ⟨p8,h8,hr⟩:=hr
     exact ⟨p8,rgn_mono hl h8,chunkA_mono hl hr⟩
    ·cases hr
   ·cases hr
  ·rename_i hb
   rw [if_neg hb];exact hr
theorem layA_mono (hl:Le c d) {F:LayFn} {args:List AV} {h:H} {r:CR} (hr:layA C F c args h = some r):layA C F d args h = some r:=by
 unfold layA at hr ⊢
 split at hr
 ·rename_i hlen
  rw [if_pos hlen]
  simp only [oqB] at hr ⊢
  obtain ⟨p0,h0,p1,h1,p2,h2,q,hq,hr⟩:=hr
  refine ⟨p0,rgn_mono hl h0,p1,rgn_mono hl h1,p2,rgn_mono hl h2,q,hq, ?_⟩
  split at hr
  ·rename_i hno
   rw [if_pos hno]
   simp only [oqB] at hr ⊢
   obtain ⟨p3,h3,p4,h4,p5,h5,hr⟩:=hr
   exact ⟨p3,rgn_mono hl h3,p4,chunkA_mono hl h4,p5,rgn_mono hl h5,hr⟩
  ·cases hr
 ·cases hr
end
def Evt (p:Nat→Prop):Prop:=∃ n,∀ m,n ≤ m→p m
theorem Evt.and {p q:Nat→Prop} (h1:Evt p) (h2:Evt q):Evt fun m=>p m∧q m:=by
 obtain ⟨a,ha⟩:=h1
 obtain ⟨b,hb⟩:=h2
 exact ⟨max a b,fun m hm=>⟨ha m (by omega),hb m (by omega)⟩⟩
theorem Evt.imp {p q:Nat→Prop} (h1:Evt p) (h:∀ m,p m→q m):Evt q:=by
 obtain ⟨a,ha⟩:=h1
 exact ⟨a,fun m hm=>h m (ha m hm)⟩
theorem Evt.of {p:Nat→Prop} (h:∀ m,p m):Evt p:=⟨0,fun m _=>h m⟩
theorem Evt.bind {α β:Type} {x:Nat→Option α} {y:Nat→α→Option β} {a:α} {b:β} (h1:Evt fun m=>x m = some a) (h2:Evt fun m=>y m a = some b):Evt fun m=>(x m).bind (y m) = some b :=
 (h1.and h2).imp fun m ⟨e1,e2⟩=>by rw [e1];exact e2
section
variable {C:Conf} {c:Nat→Calls'} {w:Calls'}
theorem rgn_e (hm:∀ m n,m ≤ n→Le (c m) (c n)) (hw:∀ f args h r,w f args h = some r→∃ n,c n f args h = some r) {ops:Array Oper} {fr:Fr} {h:H} {r:Fr × H} (hr:rgn C w ops fr h = some r):Evt fun n=>rgn C (c n) ops fr h = some r:=by
 obtain ⟨n,hn⟩:=rgn_c hm hw hr
 exact ⟨n,fun m h=>rgn_mono (hm n m h) hn⟩
theorem op1_e (hm:∀ m n,m ≤ n→Le (c m) (c n)) (hw:∀ f args h r,w f args h = some r→∃ n,c n f args h = some r) {o:Oper} {fr:Fr} {h:H} {r:Fr × H} (hr:op1 C w o fr h = some r):Evt fun n=>op1 C (c n) o fr h = some r:=by
 obtain ⟨n,hn⟩:=op1_c hw hr
 exact ⟨n,fun m h=>op1_mono (hm n m h) hn⟩
theorem runO_c (hw:∀ f args h r,w f args h = some r→∃ n,c n f args h = some r) {fr:Fr} {h:H} {o:Oper} {r:RO} (hr:runO C w fr h o = some r):∃ n,runO C (c n) fr h o = some r:=by
 simp only [runO,oqE,oqB] at hr ⊢
 obtain ⟨x,hx,hr⟩:=hr
 cases x with
 | call f args h' =>
  simp only [oqB] at hr
  obtain ⟨cr,hc,hr⟩:=hr
  obtain ⟨n,hn⟩:=hw _ _ _ _ hc
  exact ⟨n,_,hx,by simp only [oqB];exact ⟨cr,hn,hr⟩⟩
 | _=>exact ⟨0,_,hx,hr⟩
theorem runD_c (hm:∀ m n,m ≤ n→Le (c m) (c n)) (hw:∀ f args h r,w f args h = some r→∃ n,c n f args h = some r) {ops:List Oper} {A:List Nat}:∀ {l:List Nat} {dead:Option (Nat × AS × Fr × H)} {fr:Fr} {h:H} {s:Seen} {r:Ex × Fr × H},runD C w ops A dead l fr h s = some r→∃ n,runD C (c n) ops A dead l fr h s = some r
 | [],dead,fr,h,s,r,hr=>by
  cases dead with
  | none=>exact ⟨0,by simpa [runD] using hr⟩
  | some e=>obtain ⟨_,v,fr',h'⟩:=e;exact ⟨0,by simpa [runD] using hr⟩
 | i::l,dead,fr,h,s,r,hr=>by
  have hgo:∀ (hc:(match dead with | some (e,_)=>isAnc A e i | none=>false) = false),∃ n,runD C (c n) ops A dead (i::l) fr h s = some r:=by
   intro hc
   have hunf:∀ c:Calls',runD C c ops A dead (i::l) fr h s = runN C c ops A dead i l fr h s:=by
    intro c
    rcases dead with _ | ⟨e,v,fr',h'⟩
    ·rw [runD];simp only [oqF,if_false];rfl
    ·have hc':¬ isAnc A e i = true:=by simp only at hc;simp [hc]
     rw [runD,if_neg hc'];rfl
   rw [hunf] at hr
   simp only [hunf]
   unfold runN at hr ⊢
   simp only [oqE,oqB] at hr ⊢
   obtain ⟨o,ho,b,hb,hr⟩:=hr
   cases b with
   | false =>
    simp only [oqF,if_false,oqB] at hr
    obtain ⟨fr',hp,hr⟩:=hr
    obtain ⟨n,hn⟩:=runD_c hm hw hr
    exact ⟨n,o,ho,false,hb,by simp only [oqF,if_false,oqB];exact ⟨fr',hp,hn⟩⟩
   | true =>
    simp only [if_true] at hr
    split at hr
    ·rename_i hcls
     split at hr
     ·cases hr
     ·rename_i hds
      simp only [oqB] at hr
      obtain ⟨ro,hop,hr⟩:=hr
      obtain ⟨n1,hn1⟩:=runO_c hw hop
      cases ro with
      | ok v h' =>
       simp only at hr
       split at hr
       ·rename_i hall
        simp only [oqB] at hr
        obtain ⟨fr',hp,hr⟩:=hr
        obtain ⟨n2,hn2⟩:=runD_c hm hw hr
        refine ⟨max n1 n2,o,ho,true,hb, ?_⟩
        simp only [if_true,hcls,if_neg hds,oqB]
        refine ⟨_,runO_mono (hm _ _ (Nat.le_max_left _ _)) hn1, ?_⟩
        simp only [if_pos hall,oqB]
        exact ⟨fr',hp,runD_mono (hm _ _ (Nat.le_max_right _ _)) hn2⟩
       ·cases hr
      | pan v h' =>
       obtain ⟨n2,hn2⟩:=runD_c hm hw hr
       refine ⟨max n1 n2,o,ho,true,hb, ?_⟩
       simp only [if_true,hcls,if_neg hds,oqB]
       exact ⟨_,runO_mono (hm _ _ (Nat.le_max_left _ _)) hn1,runD_mono (hm _ _ (Nat.le_max_right _ _)) hn2⟩
    ·rename_i hcls
     simp only [oqB] at hr
     obtain ⟨v,hv,hr⟩:=hr
     split at hr
     ·rename_i hall
      simp only [oqB] at hr
      obtain ⟨fr',hp,hr⟩:=hr
      obtain ⟨n2,hn2⟩:=runD_c hm hw hr
      refine ⟨n2,o,ho,true,hb, ?_⟩
      simp only [if_true,hcls,oqB]
      exact ⟨v,hv,by simp only [if_pos hall,oqB];exact ⟨fr',hp,hn2⟩⟩
     ·cases hr
    ·rename_i hne hnr
     simp only [oqB] at hr
     obtain ⟨ro,hop,hr⟩:=hr
     obtain ⟨n1,hn1⟩:=runO_c hw hop
     cases ro with
     | ok v h' =>
      simp only [oqB] at hr
      obtain ⟨fr',hp,hr⟩:=hr
      obtain ⟨n2,hn2⟩:=runD_c hm hw hr
      refine ⟨max n1 n2,o,ho,true,hb, ?_⟩
      simp only [if_true,oqB]
      ·exact ⟨_,runO_mono (hm _ _ (Nat.le_max_left _ _)) hn1,by simp only [oqB];exact ⟨fr',hp,runD_mono (hm _ _ (Nat.le_max_right _ _)) hn2⟩⟩
     | pan v h'=>cases hr
  rcases dead with _ | ⟨e,v,fr',h'⟩
  ·exact hgo rfl
  ·by_cases hd:isAnc A e i = true
   ·rw [runD,if_pos hd] at hr
    obtain ⟨n,hn⟩:=runD_c hm hw hr
    exact ⟨n,by rw [runD,if_pos hd];exact hn⟩
   ·exact hgo (by simpa using hd)
theorem rgnD_e (hm:∀ m n,m ≤ n→Le (c m) (c n)) (hw:∀ f args h r,w f args h = some r→∃ n,c n f args h = some r) {ops:Array Oper} {fr:Fr} {h:H} {r:Fr × H} (hr:rgnD C w ops fr h = some r):Evt fun n=>rgnD C (c n) ops fr h = some r:=by
 obtain ⟨n,hn⟩:=runD_c hm hw (rgnD_run (fr':=r.1) (h':=r.2) hr)
 exact ⟨n,fun m h=>rgnD_mono (hm n m h) (rgnD_of hn)⟩
theorem opsL_e (hm:∀ m n,m ≤ n→Le (c m) (c n)) (hw:∀ f args h r,w f args h = some r→∃ n,c n f args h = some r):∀ {l:List Oper} {fr:Fr} {h:H} {r:Fr × H},opsL C w l fr h = some r→Evt fun n=>opsL C (c n) l fr h = some r
 | [],_,_,_,hr=>Evt.of fun _=>hr
 | o::l,fr,h,r,hr=>by
  simp only [opsL,oqB] at hr ⊢
  obtain ⟨p,h1,h2⟩:=hr
  exact ((op1_e hm hw h1).and (opsL_e hm hw h2)).imp fun m e=>⟨p,e.1,e.2⟩
theorem roundA_e (hm:∀ m n,m ≤ n→Le (c m) (c n)) (hw:∀ f args h r,w f args h = some r→∃ n,c n f args h = some r) {F:LayFn} {lf:Fr} {q:AV} {h h':H} (hr:roundA C F w lf q h = some h'):Evt fun n=>roundA C F (c n) lf q h = some h':=by
 simp only [roundA,oqB] at hr ⊢
 obtain ⟨p,h1,p2,h2,h3⟩:=hr
 exact ((rgn_e hm hw h1).and (rgnD_e hm hw h2)).imp fun m e=>⟨p,e.1,p2,e.2,h3⟩
theorem chunkA_e (hm:∀ m n,m ≤ n→Le (c m) (c n)) (hw:∀ f args h r,w f args h = some r→∃ n,c n f args h = some r) {F:LayFn} {lf:Fr}:∀ {k:Nat} {fr:Fr} {h:H} {r:Fr × H},chunkA C F w lf k fr h = some r→Evt fun n=>chunkA C F (c n) lf k fr h = some r
 | 0,_,_,_,hr=>by simp [chunkA] at hr
 | k + 1,fr,h,r,hr=>by
  rw [chunkA] at hr
  simp only [oqB] at hr
  obtain ⟨p,h1,hr⟩:=hr
  have E1:=rgn_e hm hw h1
  split at hr
  ·rename_i hb
   simp only [oqB] at hr
   obtain ⟨p3,h3,p4,h4,hr⟩:=hr
   have E3:=rgnD_e hm hw h3
   have E4:=opsL_e hm hw h4
   split at hr
   ·rename_i ho
    simp only [oqB] at hr
    obtain ⟨q,hq,h5,hr5,fr6,h6,p7,h7,hr⟩:=hr
    have E5:=roundA_e hm hw hr5
    have E7:=op1_e hm hw h7
    split at hr
    ·rename_i h30
     simp only [oqB] at hr
     obtain ⟨p8,h8,hr⟩:=hr
     have E8:=rgn_e hm hw h8
     have E9:=chunkA_e hm hw hr
     refine (E1.and (E3.and (E4.and (E5.and (E7.and (E8.and E9)))))).imp fun m ⟨e1,e3,e4,e5,e7,e8,e9⟩=>?_
     rw [chunkA]
     simp only [e1,oqS,hb,if_true,e3,e4,ho,hq,e5,h6,e7,h30,e8,e9]
    ·cases hr
   ·cases hr
  ·rename_i hb
   refine E1.imp fun m e1=>?_
   rw [chunkA]
   simp only [e1,oqS,hb,oqF,if_false]
   exact hr
theorem layA_c (hm:∀ m n,m ≤ n→Le (c m) (c n)) (hw:∀ f args h r,w f args h = some r→∃ n,c n f args h = some r) {F:LayFn} {args:List AV} {h:H} {r:CR} (hr:layA C F w args h = some r):∃ n,layA C F (c n) args h = some r:=by
 unfold layA at hr
 split at hr
 ·rename_i hlen
  simp only [oqB] at hr
  obtain ⟨p0,h0,p1,h1,p2,h2,q,hq,hr⟩:=hr
  split at hr
  ·rename_i hno
   simp only [oqB] at hr
   obtain ⟨p3,h3,p4,h4,p5,h5,v,hv,hr⟩:=hr
   obtain ⟨n,hn⟩:=(rgn_e hm hw h0).and ((rgn_e hm hw h1).and ((rgn_e hm hw h2).and ((rgn_e hm hw h3).and ((chunkA_e hm hw h4).and (rgn_e hm hw h5)))))
   obtain ⟨e0,e1,e2,e3,e4,e5⟩:=hn n (Nat.le_refl n)
   refine ⟨n, ?_⟩
   unfold layA
   rw [if_pos hlen]
   simp only [e0,oqS,e1,e2,hq,hno,if_true,e3,e4,e5,hv]
   exact hr
  ·cases hr
 ·cases hr
end
section
variable {C:Conf} {c d:Calls'} {R:Frm}
end
def cLoop:Code→Code
 | .loop b=>b
 | c=>c
def cRfA:Code→Code
 | .rangeFunc _ _ a _=>a
 | c=>c
def cRfB:Code→Code
 | .rangeFunc _ _ _ b=>b
 | c=>c
def oTys (o:Oper):Array TypeId:=match o.op with
 | .call c=>c.argTypes
 | _=>#[]
def cC4 (e:Code):Array Oper:=cOps (cFst (cSnd (cBlk (cFst (cSnd (cLoop (cBlk (cSnd e))))))))
def LayFn.of (g:Nat) (fn gn:Func):LayFn :=
 let c:=fn.body.getD .skip
 let d:=cSnd (cSnd c)
 let rf:=cBlk (cSnd (cFst d))
 let e:=gn.body.getD .skip
 let l:=cLoop (cBlk (cSnd e))
 ⟨g,fn.results.toList,cOps (cFst c),cOps (cFst (cSnd c)),cOps (cFst (cFst d)),cOps (cRfA rf),cOps (cBlk (cRfB rf)),cOps (cFst (cSnd d)),
  cOps (cFst e),cOps (cFst (cFst l)),cOps (cFst (cBlk (cFst (cSnd l)))),(cC4 e).toList.take 10,(cC4 e)[11]!,cOps (cSnd (cSnd l))⟩
def layIds (c:Code):Nat→Nat:=fun k =>
 let d:=cSnd (cSnd c)
 let rf:=cBlk (cSnd (cFst d))
 if k = 0 then cRid (cFst c) else if k = 1 then cRid (cFst (cSnd c)) else if k = 2 then cRid (cFst (cFst d)) else if k = 3 then cBid (cSnd (cFst d)) else if k = 4 then cRid (cRfA rf) else if k = 5 then cBid (cRfB rf) else if k = 6 then cRid (cBlk (cRfB rf)) else cRid (cFst (cSnd d))
def chunkIds (e:Code):Nat→Nat:=fun k =>
 let l:=cLoop (cBlk (cSnd e))
 let b:=cBlk (cFst (cSnd l))
 if k = 0 then cRid (cFst e) else if k = 1 then cBid (cSnd e) else if k = 2 then cRid (cFst (cFst l)) else if k = 3 then cBid (cFst (cSnd l)) else if k = 4 then cRid (cFst b) else if k = 5 then cRid (cFst (cSnd b)) else cRid (cSnd (cSnd l))
theorem layOk_of {P:Program} {f g:Nat} {fn gn:Func} {c d:Code} (hf:P.funcs[f]? = some fn) (hg:P.funcs[g]? = some gn) (hb:fn.body = some c) (hd:gn.body = some d)
  (h1:c = layCode (layIds c) (LayFn.of g fn gn)) (h2:fn.ntmps = 22) (h3:(fn.name == "runtime.NumGoroutine") = false)
  (h4:d = chunkCode (chunkIds d) (LayFn.of g fn gn) (oTys (cC4 d)[10]!) (Me.of (cC4 d)[10]!)) (h5:gn.ntmps = 31) (h6:gn.results = #[]) (h7:(gn.name == "runtime.NumGoroutine") = false)
  (k1:noDefer (LayFn.of g fn gn).ra = true) (k2:noDefer (LayFn.of g fn gn).rb = true) (k3:(LayFn.of g fn gn).c4.length = 10) (k4:((LayFn.of g fn gn).c4.all fun o=>o.guard.isNone) = true)
  (k5:(LayFn.of g fn gn).o11.guard = none) (k6:okDraw P (LayFn.of g fn gn).rb.toList = true) (k7:okDraw P (LayFn.of g fn gn).c3.toList = true):LayOk P f (LayFn.of g fn gn) :=
 ⟨⟨fn,_,hf,hb.trans (congrArg some h1),h2,rfl,h3⟩,⟨gn,_,_,_,hg,hd.trans (congrArg some h4),h5,h6,h7⟩,k1,k2,k3,k4,k5,k6,k7⟩
end Go.Ab
namespace Go.Ab
theorem band {a b:Bool} (h:(bif a then b else false) = true):a = true∧b = true:=by
 cases a with
 | true=>exact ⟨rfl,h⟩
 | false=>cases h
def sameAl (f:AS→AS→Bool):List AS→List AS→Bool
 | [],[]=>true
 | a::x,b::y=>bif f a b then sameAl f x y else false
 | _,_=>false
def sameNo:Option Nat→Option Nat→Bool
 | none,none=>true
 | some a,some b=>Nat.beq a b
 | _,_=>false
def sameA:Nat→AS→AS→Bool
 | 0,_,_=>false
 | d + 1,x,y=>match x,y with
  | .bool a,.bool b=>a == b
  | .int k a,.int k' b=>decide (k = k') && decide (a = b)
  | .flt a,.flt b=>Nat.beq a b
  | .nan,.nan=>true
  | .nanb,.nanb=>true
  | .nanf,.nanf=>true
  | .str a,.str b=>decide (a = b)
  | .nilptr,.nilptr=>true
  | .ptr a b c,.ptr a' b' c'=>Nat.beq a a' && (Nat.beq b b' && Nat.beq c c')
  | .rp a o,.rp a' o'=>Nat.beq o o' && sameAl (sameA d) a a'
  | .nilslc,.nilslc=>true
  | .slc a b c n s e,.slc a' b' c' n' s' e'=>Nat.beq a a' && (Nat.beq b b' && (Nat.beq c c' && (Nat.beq n n' && (Nat.beq s s' && sameNo e e'))))
  | .vs n s a,.vs n' s' a'=>Nat.beq n n' && (Nat.beq s s' && sameAl (sameA d) a a')
  | .fn f a b,.fn f' a' b'=>Nat.beq f f' && (sameAl (sameA d) a a' && sameAl (sameA d) b b')
  | .nilfn,.nilfn=>true
  | .ifc t v,.ifc t' v'=>Nat.beq t t' && sameA d v v'
  | .nilifc,.nilifc=>true
  | _,_=>false
theorem sameAl_ok {f:AS→AS→Bool} (hf:∀ a b,f a b = true→a = b):∀ {l m:List AS},sameAl f l m = true→l = m
 | [],[],_=>rfl
 | a::x,b::y,h=>by
  rw [sameAl] at h
  obtain ⟨h1,h2⟩:=band h
  rw [hf _ _ h1,sameAl_ok hf h2]
 | [],_::_,h=>by cases h
 | _::_,[],h=>by cases h
theorem sameNo_ok:∀ {a b:Option Nat},sameNo a b = true→a = b
 | none,none,_=>rfl
 | some a,some b,h=>by rw [oqN h]
 | none,some _,h=>by cases h
 | some _,none,h=>by cases h
theorem beqN {a b:Nat} (h:Nat.beq a b = true):a = b:=oqN h
theorem sameA_ok:∀ (d:Nat) (x y:AS),sameA d x y = true→x = y
 | 0,_,_,h=>by cases h
 | d + 1,x,y,h=>by
  have ih:=sameA_ok d
  unfold sameA at h
  split at h <;> first
   | rfl
   | (cases h;done)
   | skip
  ·rw [eq_of_beq h]
  ·simp only [Bool.and_eq_true,decide_eq_true_eq] at h;rw [h.1,h.2]
  ·rw [beqN h]
  ·simp only [decide_eq_true_eq] at h;rw [h]
  ·simp only [Bool.and_eq_true] at h;rw [beqN h.1,beqN h.2.1,beqN h.2.2]
  ·simp only [Bool.and_eq_true] at h;rw [beqN h.1,sameAl_ok ih h.2]
  ·simp only [Bool.and_eq_true] at h;rw [beqN h.1,beqN h.2.1,beqN h.2.2.1,beqN h.2.2.2.1,beqN h.2.2.2.2.1,sameNo_ok h.2.2.2.2.2]
  ·simp only [Bool.and_eq_true] at h;rw [beqN h.1,beqN h.2.1,sameAl_ok ih h.2.2]
  ·simp only [Bool.and_eq_true] at h;rw [beqN h.1,sameAl_ok ih h.2.1,sameAl_ok ih h.2.2]
  ·simp only [Bool.and_eq_true] at h;rw [beqN h.1,ih _ _ h.2]
def sameS:AS→AS→Bool:=sameA 64
def sameSL:List AS→List AS→Bool:=sameAl sameS
theorem sameSL_ok {l m:List AS} (h:sameSL l m = true):l = m:=sameAl_ok (fun a b=>sameA_ok 64 a b) h
def sameP:List (Bool × List AS)→List (Bool × List AS)→Bool
 | [],[]=>true
 | a::x,b::y=>bif a.1 == b.1 then bif sameSL a.2 b.2 then sameP x y else false else false
 | _,_=>false
theorem sameP_ok:∀ {l m:List (Bool × List AS)},sameP l m = true→l = m
 | [],[],_=>rfl
 | (a,a')::x,(b,b')::y,h=>by
  rw [sameP] at h
  obtain ⟨h1,h⟩:=band h
  obtain ⟨h2,h3⟩:=band h
  have h1:=eq_of_beq h1
  have h2:=sameSL_ok h2
  simp only at h1 h2
  rw [h1,h2,sameP_ok h3]
 | [],_::_,h=>by cases h
 | _::_,[],h=>by cases h
def sameV:AV→AV→Bool
 | .undef,.undef=>true
 | .one a,.one b=>sameS a b
 | .agg a,.agg b=>sameSL a b
 | .tup a,.tup b=>sameP a b
 | _,_=>false
theorem sameV_ok {x y:AV} (h:sameV x y = true):x = y:=by
 unfold sameV at h
 split at h
 ·rfl
 ·rw [sameA_ok 64 _ _ h]
 ·rw [sameSL_ok h]
 ·rw [sameP_ok h]
 ·cases h
def sameVL:List AV→List AV→Bool
 | [],[]=>true
 | a::x,b::y=>bif sameV a b then sameVL x y else false
 | _,_=>false
theorem sameVL_ok:∀ {l m:List AV},sameVL l m = true→l = m
 | [],[],_=>rfl
 | a::x,b::y,h=>by
  rw [sameVL] at h
  obtain ⟨h1,h2⟩:=band h
  rw [sameV_ok h1,sameVL_ok h2]
 | [],_::_,h=>by cases h
 | _::_,[],h=>by cases h
end Go.Ab
namespace Go.Ab
structure View where
 next:Nat
 l:List (Nat × Blk)
 deriving Inhabited
def findB:List (Nat × Blk)→Nat→Option Blk
 | [],_=>none
 | a::l,b=>if b = a.1 then some a.2 else findB l b
def View.h (v:View):H:=⟨v.next,findB v.l⟩
def overB (l:List (Nat × Blk)) (f:Nat→Option Blk) (b:Nat):Option Blk:=match findB l b with | some k=>some k | none=>f b
def H.over (h:H) (w:View):H:=⟨w.next,overB w.l h.f⟩
structure Entry where
 args:List AV
 v:View
 x:AV
 w:View
 deriving Inhabited
structure EntryOk (C:Conf) (f:Nat) (e:Entry):Prop where
 run:∃ hw,W C f e.args e.v.h = some (.ret e.x hw)∧hw.next = e.w.next∧∀ b k,findB e.w.l b = some k→hw.f b = some k
 covers:∀ b k,findB e.v.l b = some k→∃ k',findB e.w.l b = some k'
 top:∀ b,e.v.next ≤ b→findB e.v.l b = none
 rise:e.v.next ≤ e.w.next
abbrev Orc:=List (Nat × List Entry)
def findO:Orc→Nat→Option (List Entry)
 | [],_=>none
 | a::l,f=>bif Nat.beq f a.1 then some a.2 else findO l f
def eqNL:List Nat→List Nat→Bool
 | [],[]=>true
 | a::x,b::y=>bif Nat.beq a b then eqNL x y else false
 | _,_=>false
theorem eqNL_ok:∀ {l m:List Nat},eqNL l m = true→l = m
 | [],[],_=>rfl
 | a::x,b::y,h=>by
  rw [eqNL] at h
  obtain ⟨h1,h2⟩:=band h
  rw [beqN h1,eqNL_ok h2]
 | [],_::_,h=>by cases h
 | _::_,[],h=>by cases h
def eqBB (k B:Blk):Bool:=bif Nat.beq B.ver k.ver then bif eqNL B.exts k.exts then bif B.fixed == k.fixed then sameSL k.cells B.cells else false else false else false
def subH (h:H):List (Nat × Blk)→Bool
 | []=>true
 | a::l=>match h.f a.1 with
  | some k=>bif eqBB k a.2 then subH h l else false
  | none=>false
def Fits (e:Entry) (args:List AV) (h:H):Prop:=sameVL args e.args = true∧h.next = e.v.next∧subH h e.v.l = true
open Classical in
noncomputable def askE:List Entry→List AV→H→Option CR→Option CR
 | [],_,_,k=>k
 | e::l,args,h,k=>if Fits e args h then some (.ret e.x (h.over e.w)) else askE l args h k
section
variable {C:Conf} {c d:Calls'}
end
noncomputable def pOf (C:Conf) (t:Orc) (f:Nat):Option ((Nat→List AV→H→Option CR)→List AV→H→Option CR) :=
 match findO t f with
 | some es=>some fun c args h=>askE es args h (callF C c (XX C c) f args h)
 | none=>C.prim f
section
variable {C:Conf}
theorem Hle.self {h:H} (ht:∀ b,h.next ≤ b→h.f b = none):Hle ⟨fun _=>False,fun _=>none⟩ h h:=⟨rfl,fun _ _ h=>h,ht,fun b hb=>hb.elim⟩
end
end Go.Ab
namespace Go.Ab
section
variable (P:Program)
def flatFs (fl:Nat→Option (List AS)):List Field→Nat→Option (List AS)
 | [],_=>some []
 | f::l,off =>
  if f.name ≠ "_" ∧ f.offset = off then
   match fl f.type with
   | some z=>if sizeT P f.type = some z.length then
     match flatFs fl l (off + z.length) with
     | some y=>some (z++y)
     | none=>none
    else none
   | none=>none
  else none
def flatAt:Nat→Nat→Option (List AS)
 | 0,_=>none
 | d + 1,t =>
  match P.underlying t with
  | some .bool=>some [.bool false]
  | some (.int k)=>some [.int k 0]
  | some .string=>some [.str []]
  | some (.struct fs)=>if P.stoodInHeld t = false then flatFs P (flatAt d) fs.toList 0 else none
  | _=>none
end
section
variable {P:Program} {φ:Phi} {O:Nat→Prop} {w:World}
theorem kindsA_len:∀ {z l:List AS},kindsA z l = true→z.length = l.length
 | [],[],_=>rfl
 | [],_::_,h=>by simp [kindsA] at h
 | a::z,[],h=>by cases a <;> simp [kindsA] at h
 | a::z,b::l,h=>by
  cases a <;> cases b <;> simp [kindsA] at h
  ·simp [kindsA_len h]
  ·simp [kindsA_len h.2]
  ·simp [kindsA_len h]
theorem kindsA_app:∀ {z y l:List AS},kindsA (z++y) l = true→∃ l1 l2,l = l1++l2∧kindsA z l1 = true∧kindsA y l2 = true
 | [],y,l,h=>⟨[],l,rfl,rfl,h⟩
 | a::z,y,[],h=>by cases a <;> simp [kindsA] at h
 | a::z,y,b::l,h=>by
  cases a <;> cases b <;> simp [kindsA] at h
  ·obtain ⟨l1,l2,rfl,h1,h2⟩:=kindsA_app h
   exact ⟨_::l1,l2,rfl,by simp [kindsA,h1],h2⟩
  ·obtain ⟨h0,h⟩:=h
   obtain ⟨l1,l2,rfl,h1,h2⟩:=kindsA_app h
   exact ⟨_::l1,l2,rfl,by simp [kindsA,h1,h0],h2⟩
  ·obtain ⟨l1,l2,rfl,h1,h2⟩:=kindsA_app h
   exact ⟨_::l1,l2,rfl,by simp [kindsA,h1],h2⟩
theorem eqL_app:∀ {l1 m1 l2 m2:List AS} {r:Bool},l1.length = m1.length→eqL (l1++l2) (m1++m2) = some r→∃ a b,eqL l1 m1 = some a∧eqL l2 m2 = some b∧r = (a && b)
 | [],[],l2,m2,r,_,h=>⟨true,r,rfl,h,by simp⟩
 | [],_::_,_,_,_,h,_=>by simp at h
 | _::_,[],_,_,_,h,_=>by simp at h
 | x::l1,y::m1,l2,m2,r,hl,h=>by
  simp only [List.cons_append,eqL,oqE,oqB,oqI] at h ⊢
  obtain ⟨a,ha,b,hb,rfl⟩:=h
  obtain ⟨c,d,h1,h2,rfl⟩:=eqL_app (by simpa using hl) hb
  exact ⟨a && c,d,⟨a,ha,c,h1,rfl⟩,h2,by rw [Bool.and_assoc]⟩
theorem vrl_app:∀ {l1 l2:List AS} {xs:List Value},VRL φ O w (l1++l2) xs→∃ x1 x2,xs = x1++x2∧VRL φ O w l1 x1∧VRL φ O w l2 x2
 | [],l2,xs,h=>⟨[],xs,rfl,.nil,h⟩
 | a::l1,l2,_,.cons _ v _ vs h1 h2=>by
  obtain ⟨x1,x2,rfl,h3,h4⟩:=vrl_app h2
  exact ⟨v::x1,x2,rfl,.cons _ _ _ _ h1 h3,h4⟩
def ofC (P:Program) (t:Nat) (xs:List Value):Value:=match P.underlying t with
 | some (.struct _)=>.agg xs.toArray
 | _=>xs.headD Go.undef
theorem isAgg_run (t:Nat) (b:Bool) (h:(match P.underlying t with | some (.struct _)=>b = true | some .bool | some (.int _) | some .string=>b = false | _=>False)):(isAgg t).run P w = .ok b w:=by
 cases hu:P.underlying t with
 | none=>rw [hu] at h;exact h.elim
 | some u =>
  rw [hu] at h
  cases u <;> simp only at h <;> first | (subst h;simp [isAgg,run_underlying hu]) | exact h.elim
def EqT (P:Program) (D:Nat) (t:Nat) (z:List AS):Prop :=
 ∀ (w:World) (φ:Phi) (O:Nat→Prop) (l m:List AS) (xs ys:List Value) (r:Bool),VRL φ O w l xs→VRL φ O w m ys→kindsA z l = true→kindsA z m = true→eqL l m = some r→(Op.equalIn D t (ofC P t xs) (ofC P t ys)).run P w = .ok r w
theorem part_run {t:Nat} {z:List AS} {d:Nat} (hz:flatAt P d t = some z) (hs:sizeT P t = some z.length) {pre x1 x2:List Value} (hl:x1.length = z.length):(part t (pre++(x1++x2)).toArray pre.length).run P w = .ok (ofC P t x1) w:=by
 have hsz:=sizeT_run (w:=w) hs
 have scalar:(match P.underlying t with | some (.struct _)=>False | some .bool | some (.int _) | some .string=>True | _=>False)→z.length = 1→(part t (pre++(x1++x2)).toArray pre.length).run P w = .ok (ofC P t x1) w:=by
  intro hk h1
  have ha:(isAgg t).run P w = .ok false w:=by
   refine isAgg_run t false ?_
   cases hu:P.underlying t with
   | none=>rw [hu] at hk;exact hk.elim
   | some u=>rw [hu] at hk;cases u <;> simp only at hk ⊢
  rw [h1] at hl
  match x1,hl with
  | [v],_ =>
   have hg:(pre++([v]++x2))[pre.length]? = some v:=by
    rw [List.getElem?_append_right (Nat.le_refl _)];simp
   have ho:ofC P t [v] = v:=by
    unfold ofC
    cases hu:P.underlying t with
    | none=>rfl
    | some u=>rw [hu] at hk;cases u <;> simp only at hk <;> rfl
   rw [ho]
   unfold part
   simp only [Sem.run_bind,ha,Result.andThen_ok,oqF,if_false,List.getElem?_toArray,hg,Sem.run_pure]
 cases d with
 | zero=>cases hz
 | succ d =>
  rw [flatAt] at hz
  split at hz
  ·rename_i hu;simp only [oqI] at hz;subst hz;exact scalar (by rw [hu];trivial) rfl
  ·rename_i hu;simp only [oqI] at hz;subst hz;exact scalar (by rw [hu];trivial) rfl
  ·rename_i hu;simp only [oqI] at hz;subst hz;exact scalar (by rw [hu];trivial) rfl
  ·rename_i fs hu
   have ha:(isAgg t).run P w = .ok true w:=isAgg_run t true (by rw [hu])
   have ho:ofC P t x1 = .agg x1.toArray:=by unfold ofC;rw [hu]
   unfold part
   simp only [Sem.run_bind,ha,Result.andThen_ok,if_true,hsz,Sem.run_pure,ho]
   congr 2
   apply Array.toList_inj.1
   simp [List.extract,← hl]
  ·cases hz
theorem fields_ok {D d:Nat} (ih:∀ t z,flatAt P d t = some z→EqT P D t z):∀ (fs:List Field) (off:Nat) (z:List AS),flatFs P (flatAt P d) fs off = some z →
  ∀ (w:World) (φ:Phi) (O:Nat→Prop) (l m:List AS) (px py xs ys:List Value) (r:Bool),px.length = off→py.length = off→VRL φ O w l xs→VRL φ O w m ys→kindsA z l = true→kindsA z m = true→eqL l m = some r →
   (Op.eqFields D (px++xs).toArray (py++ys).toArray fs).run P w = .ok r w
 | [],off,z,hz,w,φ,O,l,m,px,py,xs,ys,r,hx,hy,h1,h2,h3,h4,h5=>by
  simp only [flatFs,oqI] at hz;subst hz
  have e1:=kindsA_len h3
  have e2:=kindsA_len h4
  have e3:l = []:=List.length_eq_zero_iff.1 e1.symm
  have e4:m = []:=List.length_eq_zero_iff.1 e2.symm
  subst e3;subst e4
  simp only [eqL,oqI] at h5;subst h5
  simp [Op.eqFields]
 | f::fs,off,z,hz,w,φ,O,l,m,px,py,xs,ys,r,hx,hy,h1,h2,h3,h4,h5=>by
  rw [flatFs] at hz
  split at hz
  ·rename_i hn
   obtain ⟨hn,ho⟩:=hn
   split at hz
   ·rename_i zf hzf
    split at hz
    ·rename_i hs
     split at hz
     ·rename_i y hy'
      simp only [oqI] at hz;subst hz
      obtain ⟨l1,l2,rfl,k1,k2⟩:=kindsA_app h3
      obtain ⟨m1,m2,rfl,k3,k4⟩:=kindsA_app h4
      have n1:=kindsA_len k1
      have n3:=kindsA_len k3
      obtain ⟨a,b,g1,g2,rfl⟩:=eqL_app (by rw [← n1,← n3]) h5
      obtain ⟨x1,x2,rfl,v1,v2⟩:=vrl_app h1
      obtain ⟨y1,y2,rfl,u1,u2⟩:=vrl_app h2
      have p1:=part_run (w:=w) hzf hs (pre:=px) (x1:=x1) (x2:=x2) (by rw [← v1.length,← n1])
      have p2:=part_run (w:=w) hzf hs (pre:=py) (x1:=y1) (x2:=y2) (by rw [← u1.length,← n3])
      rw [hx,← ho] at p1
      rw [hy,← ho] at p2
      have p3:=ih f.type zf hzf w φ O l1 m1 x1 y1 a v1 u1 k1 k3 g1
      have rest:=fields_ok ih fs (off + zf.length) y hy' w φ O l2 m2 (px++x1) (py++y1) x2 y2 b (by rw [List.length_append,hx,← v1.length,← n1]) (by rw [List.length_append,hy,← u1.length,← n3]) v2 u2 k2 k4 g2
      rw [List.append_assoc,List.append_assoc] at rest
      rw [Op.eqFields,if_pos hn]
      simp only [Sem.run_bind,p1,Result.andThen_ok,p2,p3]
      cases a with
      | false=>simp
      | true=>simp only [Bool.not_true,oqF,if_false,Bool.true_and];exact rest
     ·cases hz
    ·cases hz
   ·cases hz
  ·cases hz
theorem kinds_int {k:IntKind} {l:List AS} (h:kindsA [.int k 0] l = true):∃ a,l = [.int k a]:=by
 cases l with
 | nil=>simp [kindsA] at h
 | cons x l =>
  cases x <;> simp [kindsA] at h
  obtain ⟨rfl,h⟩:=h
  cases l with
  | nil=>exact ⟨_,rfl⟩
  | cons y l=>simp [kindsA] at h
theorem flat_ok:∀ (d t:Nat) (z:List AS),flatAt P d t = some z→∀ D,EqT P (D + d) t z
 | 0,t,z,h,D=>by cases h
 | d + 1,t,z,h,D=>by
  intro w φ O l m xs ys r h1 h2 h3 h4 h5
  rw [flatAt] at h
  split at h
  ·rename_i hu
   simp only [oqI] at h;subst h
   have eo:∀ xs,ofC P t xs = xs.headD Go.undef:=fun xs=>by unfold ofC;rw [hu]
   match l,m,h3,h4,h1,h2,h5 with
   | [.bool a],[.bool b],_,_,.cons _ _ _ _ v1 .nil,.cons _ _ _ _ v2 .nil,h5 =>
    have e1:=v1.bool_inv;have e2:=v2.bool_inv;subst e1;subst e2
    simp only [eqL,eqS,oqE,oqS,oqI,Bool.and_true] at h5;subst h5
    rw [eo,eo]
    show (Op.equalIn (D + d + 1) t _ _).run P w = _
    simp [Op.equalIn,run_underlying hu]
  ·rename_i k hu
   simp only [oqI] at h;subst h
   have eo:∀ xs,ofC P t xs = xs.headD Go.undef:=fun xs=>by unfold ofC;rw [hu]
   obtain ⟨a,rfl⟩:=kinds_int h3
   obtain ⟨b,rfl⟩:=kinds_int h4
   match h1,h2,h5 with
   | .cons _ _ _ _ v1 .nil,.cons _ _ _ _ v2 .nil,h5 =>
    have e1:=v1.int_inv;have e2:=v2.int_inv;subst e1;subst e2
    simp only [eqL,eqS,if_true,oqE,oqS,oqI,Bool.and_true] at h5;subst h5
    rw [eo,eo]
    show (Op.equalIn (D + d + 1) t _ _).run P w = _
    simp [Op.equalIn,run_underlying hu]
  ·rename_i hu
   simp only [oqI] at h;subst h
   have eo:∀ xs,ofC P t xs = xs.headD Go.undef:=fun xs=>by unfold ofC;rw [hu]
   match l,m,h3,h4,h1,h2,h5 with
   | [.str a],[.str b],_,_,.cons _ _ _ _ v1 .nil,.cons _ _ _ _ v2 .nil,h5 =>
    have e1:=v1.str_inv;have e2:=v2.str_inv;subst e1;subst e2
    simp only [eqL,eqS,oqE,oqS,oqI,Bool.and_true] at h5;subst h5
    rw [eo,eo]
    show (Op.equalIn (D + d + 1) t _ _).run P w = _
    rw [List.headD_cons,List.headD_cons,run_equalIn_string _ _ _ _ _ hu,ByteArray.toList_eq,ByteArray.toList_eq]
  ·rename_i fs hu
   split at h
   ·rename_i hst
    have ef:P.fieldsOf t = fs:=by simp [Program.fieldsOf,hu]
    have eo:∀ xs,ofC P t xs = .agg xs.toArray:=fun xs=>by unfold ofC;rw [hu]
    rw [eo,eo]
    show (Op.equalIn (D + d + 1) t _ _).run P w = _
    rw [run_equalIn_struct w (D + d) t _ _ (by rw [ef];exact hu) hst,ef]
    have:=fields_ok (D:=D + d) (d:=d) (fun t z hz=>flat_ok d t z hz D) fs.toList 0 z h w φ O l m [] [] xs ys r rfl rfl h1 h2 h3 h4 h5
    simpa using this
   ·cases h
  ·cases h
theorem cmp_ok {t:Nat} {z:List AS} {fs:Array Field} (h:flatAt P 8 t = some z) (hs:P.underlying t = some (.struct fs)) (hg:P.eqGuardType P.depth t = false):CmpT P t z:=by
 refine ⟨hg,fun w φ O l m xs ys r h1 h2 h3 h4 h5=>?_⟩
 have:=flat_ok 8 t z h 9992 w φ O l m xs ys r h1 h2 h3 h4 h5
 have eo:∀ xs,ofC P t xs = .agg xs.toArray:=fun xs=>by unfold ofC;rw [hs]
 rw [eo,eo] at this
 exact this
end
end Go.Ab
namespace Go.Ab
theorem joined_of {P:Program} {f:FuncId} {fn:Func} {s:ChangeSpec} {c:OpenClaim}
  (k1:c.wf (OpenSpec.ofChange s) = true) (k2:laidOutB P = true) (k3:mapsRowed P = true) (k4:(fn.params.all (P.readableRec ·)) = true) (k5:namedTie P c.named s.vars = true)
  (k6:(c.stops == []) = true) (k7:(P.stops == []) = true) (k8:(c.knobs == []) = true) (k9:(P.stopKnobs == []) = true)
  (k10:(c.inPlace == P.inPlace f) = true) (k11:(c.unfollowed == P.unfollowed f) = true) (k12:(c.recurses == P.recurses f) = true) (k13:(c.named == P.varsNamed f) = true)
  (k14:(c.maps == (fn.params.toList++s.plain.varTypes P).any (P.mapsRec ·)) = true) (k15:(c.ifaces == (fn.params.toList++s.plain.varTypes P).any (P.ifacesRec ·)) = true) (k16:(c.mapsOut == P.mapsAmong fn.resultTypes.toList) = true)
  (k17:(c.loops == (fn.params.toList++s.plain.varTypes P).any (P.loopsFrom ·)) = true) (k17b:(c.wideKeys == (fn.params.toList++s.plain.varTypes P++fn.resultTypes.toList).any (P.wideKeysFrom ·)) = true)
  (k18:s.vars.all (P.varReadable ·) = true) (k19:fn.resultTypes.all (fun t=>P.readableRec t && decide (t < P.types.size)) = true) (k20:(c.ifacesOut == fn.resultTypes.toList.any (P.ifacesRec ·)) = true) (k21:(c.loopsOut == fn.resultTypes.toList.any (P.loopsFrom ·)) = true) (k22:(c.plainKeys == P.plainKeys) = true) (k23:c.shortTexts.isNone = true) (k23b:P.stopsHeard = true) (k24:P.mayEnter = true) (k24b:(c.lifted == P.liftsFinal) = true) (k24c:(P.make == some c.make) = true)
  (k25:(c.kinds == (if c.domain.isEmpty then [] else fn.params.toList.map fun t=>match P.underlying t with | some (.int k)=>some k | _=>none)) = true) (k26:(c.pinned == c.pinnedBy) = true)
  (k27:(c.veiled == (fn.params.toList++s.plain.varTypes P++fn.resultTypes.toList).any (P.veiledRec ·)) = true) (k28:c.veiledFits P fn.params.toList (fn.params.toList++s.plain.varTypes P++fn.resultTypes.toList) = true):joinedFacts P f fn s c = true:=by
 unfold joinedFacts
 rw [k1,k2,k3,k4,k5,k6,k7,k8,k9,k10,k11,k12,k13,k14,k15,k16,k17,k17b,k18,k19,k20,k21,k22,k23,k23b,k24,k24b,k24c,k26,k27,k28]
 simp only [Bool.true_and,Bool.and_true]
 exact k25
end Go.Ab
