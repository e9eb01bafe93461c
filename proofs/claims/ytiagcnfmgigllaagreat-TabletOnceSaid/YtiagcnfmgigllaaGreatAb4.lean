/- A function that catches panics; structs that are told apart; the closed facts of a row. No conditions. -/
import Derived.Test.YtiagcnfmgigllaaGreatAb2
import Derived.WalkKit
import Derived.Defers
import Derived.Recover
import Derived.Test.YtiagcnfmgigllaaGreatAb1
import Derived.Laws.StructEq
import Derived.Test.YtiagcnfmgigllaaGreatAb3
set_option linter.all false
namespace Go.Ab
open Go.RowKit
structure Me where
 ty:TypeId
 pos:String
 aft:Array Edge
def mkO (dst:Option Nat) (op:Op) (m:Me):Oper:=⟨dst,op,m.ty,m.pos,m.aft,none⟩
structure CM where
 j0:Nat
 j1:Nat
 j3:Nat
 j4:Nat
 j5:Nat
 j2:Nat
 jb:Nat
 m0:Me
 m1:Me
 m2:Me
 m3:Me
 m4:Me
 m5:Me
 m6:Me
 m7:Me
 m8:Me
 m9:Me
 s2:Array Oper
def i0h (ta tp tb:Nat) (m:CM):Code :=
 .seq (.region m.j0 #[mkO (some 3) (.call ⟨.builtin .recover,#[],#[]⟩) m.m0,mkO (some 2) (.assign (.tmp 3)) m.m1] false)
 (.seq (.region m.j1 #[mkO (some 4) (.move (.tmp 2)) m.m2] false)
 (.block m.jb (.seq (.region m.j3 #[mkO (some 7) (.binOp .eql ta (.tmp 4) (.const .nilIface) ta) m.m3,mkO (some 6) (.assign (.tmp 7)) m.m4] false)
 (.cond (.tmp 6) .skip (.seq (.region m.j4 #[mkO (some 9) (.load tp (.tmp 0)) m.m5,mkO (some 10) (.makeInterface tp (.tmp 9)) m.m6,mkO (some 11) (.binOp .eql ta (.tmp 4) (.tmp 10) ta) m.m7,mkO (some 8) (.assign (.tmp 11)) m.m8] false)
 (.cond (.tmp 8) (.region m.j5 #[mkO none (.store tb (.tmp 1) (.const (.bool false))) m.m9] false) (.region m.j2 m.s2 false)))))))
structure ClosOk (P:Program) (g ta tp tb:Nat):Prop where
 fn:∃ gn m,P.funcs[g]? = some gn/\gn.body = some (i0h ta tp tb m)/\gn.ntmps = 12/\gn.results = #[]/\(gn.name == "runtime.NumGoroutine") = false
 any:∃ ms,P.underlying ta = some (.interface ms)
 ptr:∃ el i ie,P.underlying tp = some (.pointer el)/\P.info? tp = some i/\i.comparable = true/\P.info? el = some ie/\ie.size ≠ 0
section
variable {P:Program} {g ta tp tb:Nat}
theorem y0y (h:∃ ms,P.underlying ta = some (.interface ms)) (w:World):(Op.equal ta .nilIface .nilIface).run P w = .ok true w:=by
 obtain ⟨ms,hm⟩:=h
 refine (fun (k:∀ d,(Op.equalIn (d + 1) ta .nilIface .nilIface).run P w = .ok true w)=>k 9999) ?_
 intro d
 simp [Op.equalIn,run_underlying hm]
theorem w0D (h:∃ ms,P.underlying ta = some (.interface ms)) (t:TypeId) (v:Value) (w:World):(Op.equal ta (.iface t v) .nilIface).run P w = .ok false w:=by
 obtain ⟨ms,hm⟩:=h
 refine (fun (k:∀ d,(Op.equalIn (d + 1) ta (.iface t v) .nilIface).run P w = .ok false w)=>k 9999) ?_
 intro d
 simp [Op.equalIn,run_underlying hm]
theorem z0k (h:ClosOk P g ta tp tb) (A:Addr) (w:World):(Op.equal ta (.iface tp (.pointer (some A))) (.iface tp (.pointer (some A)))).run P w = .ok true w:=by
 obtain ⟨ms,hm⟩:=h.any
 obtain ⟨el,i,ie,h1,h2,h3,h4,h5⟩:=h.ptr
 refine (fun (k:∀ d,(Op.equalIn (d + 2) ta (.iface tp (.pointer (some A))) (.iface tp (.pointer (some A)))).run P w = .ok true w)=>k 9998) ?_
 intro d
 simp [Op.equalIn,run_underlying hm,run_underlying h1,typeInfo,h2,h3,sizeOf,h4,h5,sameAddr]
theorem b0v {ops:Array Oper} {Q:Exit->Act->World->Prop} {i:Nat} {rest:List Nat} {a:Act} {w w1:World} {o:Oper} {v:Value} (ho:ops[i]? = some o) (hg:o.guard = none) (hr:(execOp a.eval o).run P w = .ok (.value v) w1)
  (hn:wpOps P ops Q rest (a.put o.dst v) w1):wpOps P ops Q (i::rest) a w:=by
 have hw:Region.wanted o (yielded ops a.tmps) = true:=by unfold Region.wanted;rw [hg]
 simp only [wpOps,ho,hw,if_true]
 left
 simp only [Oper.wp,hr]
 exact hn
theorem q0K {ops:Array Oper} {Q:Exit->Act->World->Prop} {i:Nat} {rest:List Nat} {a:Act} {w w1:World} {o:Oper} (ho:ops[i]? = some o) (hg:o.guard = none) (hr:(execOp a.eval o).run P w = .ok .skip w1)
  (hn:wpOps P ops Q rest (a.put o.dst undef) w1):wpOps P ops Q (i::rest) a w:=by
 have hw:Region.wanted o (yielded ops a.tmps) = true:=by unfold Region.wanted;rw [hg]
 simp only [wpOps,ho,hw,if_true]
 left
 simp only [Oper.wp,hr]
 exact hn
theorem u0I (h:ClosOk P g ta tp tb) (p q:Value) (w:World):CallsD P g #[p,q] .returning w fun e u' w'=>e = .returned (.tuple #[])/\u' = .returning/\w' = w:=by
 obtain ⟨gn,m,h1,h2,h3,h4,_⟩:=h.fn
 refine callsD_of_wpS h1 h2 fun c₀ cs hu=>?_
 have he:=fun w=>y0y h.any w
 unfold i0h mkO
 apply wpS_seq
 apply wpS_region
 simp [wpOpsS,go_sem,recoverD,hu,h3,Exit.thenS]
 apply wpS_seq
 apply wpS_region
 simp [wpOpsS,go_sem,Exit.thenS]
 refine wpS_of_wp (wp_block (wp_seq (wp_region ?_)))
 refine b0v (v:=.bool true) (w1:=w) rfl rfl (by simp [execOp,go_sem,eqGuard,binOp,he,Array.replicate]) ?_
 refine b0v (v:=.bool true) (w1:=w) rfl rfl (by simp [execOp,go_sem,Act.eval,Act.put,Array.replicate]) ?_
 refine wp_cond_true (by simp [Act.eval,Act.put,Array.replicate]) (wp_skip ?_)
 cases c₀
 simp_all [bodyPostS,results,Exit.inBlock,Act.put]
theorem o0W (h:ClosOk P g ta tp tb) (p q:Value) (A:Addr) (w w2:World) (hl:(Instr.loadAt tp p).run P w = .ok (.pointer (some A)) w) (hs:(Instr.storeAt tb q (.bool false)).run P w = .ok () w2) :
  CallsD P g #[p,q] (.panicking [{ v:=.iface tp (.pointer (some A)),recovered:=false }]) w fun e u' w'=>e = .returned (.tuple #[])/\u' = .panicking [{ v:=.iface tp (.pointer (some A)),recovered:=true }]/\w' = w2:=by
 obtain ⟨gn,m,h1,h2,h3,h4,_⟩:=h.fn
 refine callsD_of_wpS h1 h2 fun c₀ cs hu=>?_
 have he:=fun w=>w0D h.any tp (.pointer (some A)) w
 have he2:=fun w=>z0k h A w
 obtain ⟨el,i,ie,hp,_⟩:=h.ptr
 unfold i0h mkO
 apply wpS_seq
 apply wpS_region
 simp [wpOpsS,go_sem,recoverD,hu,h3,Exit.thenS]
 apply wpS_seq
 apply wpS_region
 simp [wpOpsS,go_sem,Exit.thenS]
 refine wpS_of_wp (wp_block (wp_seq (wp_region ?_)))
 refine b0v (v:=.bool false) (w1:=w) rfl rfl (by simp [execOp,go_sem,eqGuard,binOp,he,Array.replicate]) ?_
 refine b0v (v:=.bool false) (w1:=w) rfl rfl (by simp [execOp,go_sem,Act.eval,Act.put,Array.replicate]) ?_
 refine wp_cond_false (by simp [Act.eval,Act.put,Array.replicate]) (wp_seq (wp_region ?_))
 refine b0v (v:=.pointer (some A)) (w1:=w) rfl rfl (by simp [execOp,Act.eval,Act.put,Array.replicate,Sem.run_bind,Sem.run_pure,Result.andThen_ok,hl]) ?_
 refine b0v (v:=.iface tp (.pointer (some A))) (w1:=w) rfl rfl (by simp [execOp,go_sem,Act.eval,Act.put,Array.replicate,Instr.makeInterface,run_underlying hp]) ?_
 refine b0v (v:=.bool true) (w1:=w) rfl rfl (by simp [execOp,go_sem,eqGuard,binOp,he2,Act.eval,Act.put,Array.replicate]) ?_
 refine b0v (v:=.bool true) (w1:=w) rfl rfl (by simp [execOp,go_sem,Act.eval,Act.put,Array.replicate]) ?_
 refine wp_cond_true (by simp [Act.eval,Act.put,Array.replicate]) (wp_region ?_)
 refine q0K (w1:=w2) rfl rfl (by simp [execOp,Act.eval,Act.put,Array.replicate,Sem.run_bind,Sem.run_pure,Result.andThen_ok,hs]) ?_
 cases c₀
 simp_all [bodyPostS,results,Exit.inBlock,Act.put,wpOps]
end
def c0p:Code->Code
 | .seq a _=>a
 | c=>c
def a0P:Code->Code
 | .seq _ b=>b
 | c=>c
def i0g:Code->Array Oper
 | .region _ o _=>o
 | _=>#[]
def j0v:Code->Nat
 | .region i _ _=>i
 | _=>0
def F0k:Code->Code
 | .cond _ a _=>a
 | c=>c
structure RdFn where
 g:Nat
 tp:Nat
 rs:List ResultVar
 r0:Array Oper
 r1:Array Oper
 r3:Array Oper
 r40:Oper
 r50:Oper
 r51:Oper
 r52:Oper
 r6:Array Oper
def RdFn.of (g tp:Nat) (fn:Func):RdFn :=
 let c:=fn.body.getD .skip
 let l:=a0P (a0P c)
 let e:=i0g (c0p (a0P (a0P l)))
 ⟨g,tp,fn.results.toList,i0g (c0p c),i0g (c0p (c0p (a0P c))),i0g (c0p l),(i0g (c0p (a0P l)))[0]!,e[0]!,e[1]!,e[2]!,i0g (c0p (a0P (a0P (a0P l))))⟩
def k0p (i:Nat->Nat) (F:RdFn) (y:Code) (m:Me):Code :=
 .seq (.region (i 0) F.r0 false) (.seq (.seq (.region (i 1) F.r1 false) (.cond (.tmp 7) y .skip)) (.seq (.region (i 3) F.r3 false)
  (.seq (.region (i 4) #[F.r40,mkO none (.defer ⟨.value (.tmp 14),#[],#[]⟩) m] false) (.seq (.region (i 5) #[F.r50,F.r51,F.r52] false) (.seq (.region (i 6) F.r6 false) .ret)))))
structure ReadOk (P:Program) (f:Nat) (F:RdFn):Prop where
 fn:∃ fn i y m,P.funcs[f]? = some fn/\fn.body = some (k0p i F y m)/\fn.ntmps = 24/\fn.results.toList = F.rs/\(fn.name == "runtime.NumGoroutine") = false
 g40:F.r40.guard = none
 g50:F.r50.guard = none
 g51:F.r51.guard = none
 g52:F.r52.guard = none
 clos:∃ ta tb,ClosOk P F.g ta F.tp tb/\B5 P tb = some 1/\B5 P F.tp = some 1/\B9 P F.tp = some false
section
variable (C:Conf)
def rgn (c:C2) (ops:Array Oper) (fr:Fr) (h:H):Option (Fr × H) :=
 match U6 C c ops.toList ops.toList fr h with
 | some (.normal,fr',h')=>some (fr',h')
 | _=>none
def op1 (c:C2) (o:Oper) (fr:Fr) (h:H):Option (Fr × H) :=
 match d0g C c fr h o with
 | some (.normal,fr',h')=>some (fr',h')
 | _=>none
def c0z (F:RdFn) (c:C2) (p q:AS) (fr:Fr):CR->Option CR
 | .ret v h=>do
  let fr <- Fr.put fr F.r52.dst v
  let (fr,h) <- rgn C c F.r6 fr h
  some (.ret (<- O4 C fr h F.rs) h)
 | .pan v h =>
  match v with
  | .ifc t (.ptr b v o)=>match K8 h p 1 with
   | some [.ptr b' v' o']=>if t = F.tp/\b = b'/\v = v'/\o = o' then do
     let h <- b0n h q [.bool false]
     some (.ret (<- O4 C fr h F.rs) h)
    else none
   | _=>none
  | _=>none
def f0Z (F:RdFn) (c:C2) (args:List AV) (h:H):Option CR :=
 if args.length = 2 then do
  let (fr,h) <- rgn C c F.r0 (args++List.replicate 22 .undef) h
  let (fr,h) <- rgn C c F.r1 fr h
  let .bool false <- evS fr (.tmp 7) | none
  let (fr,h) <- rgn C c F.r3 fr h
  let (fr,h) <- op1 C c F.r40 fr h
  let .fn g [] [p,q] <- evS fr (.tmp 14) | none
  if g = F.g then do
   let (fr,h) <- op1 C c F.r50 fr h
   let (fr,h) <- op1 C c F.r51 fr h
   match opA C.P C.cmp fr h F.r52 with
   | some (.call f' args' _)=>do
    let r <- c f' args' h
    c0z C F c p q fr r
   | _=>none
  else none
 else none
end
section
variable {C:Conf} {calls:C2}
theorem t0U (hP:OkT C.P) (hC:∀ t z,C.cmp t = some z->CmpT C.P t z) (hc:J3 C.P calls) {ops:Array Oper} {fr':Fr} {h':H} {Q:Exit->Act->World->Prop} :
  ∀ (l:List Oper) (k:Nat) (φ:Phi) (h:H) (w:World) (fr:Fr) (a:Act),l = ops.toList.drop k->k + l.length = ops.size->Rel φ h w->AVL φ (Nf φ) w fr a.tmps.toList ->
   U6 C calls ops.toList l fr h = some (.normal,fr',h')->(∀ φ' a' w',Rel φ' h' w'->Grow φ h w φ' h' w'->AVL φ' (Nf φ') w' fr' a'.tmps.toList->a'.defers = a.defers->Q .normal a' w') ->
   wpOps C.P ops Q (List.range' k l.length) a w:=by
 intro l
 induction l with
 | nil =>
  intro k φ h w fr a _ _ R hf hr hn
  simp only [U6,oqI,oqM] at hr
  obtain ⟨_,rfl,rfl⟩:=hr
  exact hn φ a w R (Grow.refl _ _ _) hf rfl
 | cons o l ih =>
  intro k φ h w fr a hl hlen R hf hr hn
  have hok:ops[k]? = some o:=by
   have:ops.toList[k]? = some o:=by
    have:=congrArg (·[0]?) hl
    simpa using this.symm
   simpa using this
  have hl':l = ops.toList.drop (k + 1):=by
   have:=congrArg List.tail hl
   simpa using this
  simp only [U6,oqE,oqB] at hr
  obtain ⟨b,hb,hr⟩:=hr
  have hw:=i0I (ops:=ops) hf hb
  simp only [oqb,List.range'_succ,wpOps,hok,hw]
  have hstep:∀ φ1 h1 w1 fr1 a1,Grow φ h w φ1 h1 w1->Rel φ1 h1 w1->AVL φ1 (Nf φ1) w1 fr1 a1.tmps.toList->a1.defers = a.defers->U6 C calls ops.toList l fr1 h1 = some (.normal,fr',h') ->
    wpOps C.P ops Q (List.range' (k + 1) l.length) a1 w1:=by
   intro φ1 h1 w1 fr1 a1 G R1 hf1 hd1 hr1
   exact ih (k + 1) φ1 h1 w1 fr1 a1 hl' (by simp at hlen;omega) R1 hf1 hr1 fun φ' a' w' R' G' hf' hd'=>hn φ' a' w' R' (G.trans G') hf' (hd'.trans hd1)
  cases b with
  | true =>
   simp only [if_true] at hr |-
   simp only [oqB] at hr
   obtain ⟨⟨x1,fr1,h1⟩,hop,hr⟩:=hr
   left
   refine k0D hP hC hc R hf hop (fun e φ' a' w' R' G hf' hd'=>?_) (fun v e φ' w' cv R' G hv=>?_)
   ·subst e
    exact hstep φ' h1 w' fr1 a' G R' hf' hd' hr
   ·subst e
    simp at hr
  | false =>
   simp only [oqF,if_false,oqB] at hr |-
   obtain ⟨fr1,hput,hr⟩:=hr
   refine hstep φ h w fr1 _ (Grow.refl _ _ _) R (g0S hf .undef hput) ?_ hr
   cases o.dst <;> rfl
theorem o0c (hP:OkT C.P) (hC:∀ t z,C.cmp t = some z->CmpT C.P t z) (hc:J3 C.P calls) {id:Nat} {ops:Array Oper} {fr fr':Fr} {h h':H} {Q:Exit->Act->World->Prop} {φ:Phi} {w:World} {a:Act}
  (R:Rel φ h w) (hf:AVL φ (Nf φ) w fr a.tmps.toList) (hr:rgn C calls ops fr h = some (fr',h'))
  (hn:∀ φ' a' w',Rel φ' h' w'->Grow φ h w φ' h' w'->AVL φ' (Nf φ') w' fr' a'.tmps.toList->a'.defers = a.defers->Q .normal a' w'):(Code.region id ops false).wp C.P Q a w:=by
 unfold rgn at hr
 split at hr
 ·rename_i fr1 h1 he
  simp only [oqI,oqM] at hr
  obtain ⟨rfl,rfl⟩:=hr
  refine wp_region ?_
  have:=t0U hP hC hc (ops:=ops) (Q:=Q) ops.toList 0 φ h w fr a (by simp) (by simp) R hf he hn
  rw [List.range_eq_range']
  simpa using this
 ·cases hr
theorem q0U (hP:OkT C.P) (hC:∀ t z,C.cmp t = some z->CmpT C.P t z) (hc:J3 C.P calls) {ops:Array Oper} {i:Nat} {rest:List Nat} {o:Oper} (ho:ops[i]? = some o) (hg:o.guard = none) {fr fr':Fr} {h h':H} {Q:Exit->Act->World->Prop} {φ:Phi} {w:World} {a:Act}
  (R:Rel φ h w) (hf:AVL φ (Nf φ) w fr a.tmps.toList) (hr:op1 C calls o fr h = some (fr',h'))
  (hn:∀ φ' a' w',Rel φ' h' w'->Grow φ h w φ' h' w'->AVL φ' (Nf φ') w' fr' a'.tmps.toList->a'.defers = a.defers->wpOps C.P ops Q rest a' w'):wpOps C.P ops Q (i::rest) a w:=by
 unfold op1 at hr
 split at hr
 ·rename_i fr1 h1 he
  simp only [oqI,oqM] at hr
  obtain ⟨rfl,rfl⟩:=hr
  have hw:Region.wanted o (yielded ops a.tmps) = true:=by unfold Region.wanted;rw [hg]
  simp only [wpOps,ho,hw,if_true]
  left
  exact k0D hP hC hc R hf he (fun _ φ' a' w' R' G hf' hd'=>hn φ' a' w' R' G hf' hd') (fun v e=>by cases e)
 ·cases hr
theorem g0G {fn:Func} {F:RdFn} (h:fn.results.toList = F.rs) {fr:Fr} {h':H} {v:AV} (hv:O4 C fr h' F.rs = some v):O4 C fr h' fn.results.toList = some v:=by rw [h];exact hv
theorem q0p {P:Program} {g:Nat} {gn:Func} {c:Code} (h1:P.funcs[g]? = some gn) (h2:gn.body = some c) (h3:(gn.name == "runtime.NumGoroutine") = false) (vs:Array Value) (w:World):(invoke (.fn (.func g) vs) #[]).run P w = .ok (.enter g vs) w:=by
 have hn:¬ gn.name = "runtime.NumGoroutine" := by simpa using h3
 simp [invoke,callFunc,h1,h2,hn]
theorem x0f {φ φ':Phi} {O O':Nat->Prop} {w w':World} {b v o:Nat} {x y:Value} (hs:∀ b v l,φ b v = some l->φ' b v = some l) (hx:VR φ O w (.ptr b v o) x) (hy:VR φ' O' w' (.ptr b v o) y):∃ A,x = .pointer (some A)/\y = .pointer (some A):=by
 cases hx with
 | ptr _ _ _ l h1 =>
  cases hy with
  | ptr _ _ _ l' h2 =>
   rw [hs _ _ _ h1] at h2
   cases h2
   exact ⟨_,rfl,rfl⟩
theorem x0r (hP:OkT C.P) (hC:∀ t z,C.cmp t = some z->CmpT C.P t z) {f:Nat} {F:RdFn} (hF:ReadOk C.P f F) (hc:J3 C.P calls) {args:List AV} {h:H} {r:CR} (hr:f0Z C F calls args h = some r) {φ:Phi} {w:World} {cargs:List Value}
  (R:Rel φ h w) (ha:AVL φ (Nf φ) w args cargs):CallR C.P φ h w f cargs r:=by
 obtain ⟨fn,i,y,m,hfn,hb,hnt,hrs,hnm⟩:=hF.fn
 obtain ⟨ta,tb,hcl,hst,hsp,hap⟩:=hF.clos
 unfold f0Z at hr
 split at hr
 ·rename_i hlen
  simp only [oqE,oqB] at hr
  obtain ⟨⟨fr0,h0⟩,e0,⟨fr1,h1⟩,e1,q7,e7,hr⟩:=hr
  split at hr
  ·simp only [oqB] at hr
   obtain ⟨⟨fr3,h3⟩,e3,⟨fr4,h4⟩,e4,q14,e14,hr⟩:=hr
   split at hr
   ·rename_i g p q
    split at hr
    ·rename_i hg
     subst hg
     simp only [oqB] at hr
     obtain ⟨⟨fr5,h5⟩,e5,⟨fr6,h6⟩,e6,hr⟩:=hr
     split at hr
     ·rename_i f' args' h6' eop
      simp only [oqB] at hr
      obtain ⟨cr,ec,hr⟩:=hr
      right
      have hnm':¬ fn.name = "runtime.NumGoroutine" := by simpa using hnm
      refine ⟨by simp [callFunc,hfn,hnm',hb],calls_of_wp_defers hfn hb ?_⟩
      have hl:=ha.length
      have hf0:AVL φ (Nf φ) w (args++List.replicate 22 .undef) ((cargs.toArray++Array.replicate (fn.ntmps - cargs.toArray.size) Go.undef).toList):=by
       rw [Array.toList_append,Array.toList_replicate,List.size_toArray,<- hl,hnt,hlen]
       exact ha.append (g0n _)
      unfold k0p
      refine wp_seq (o0c hP hC hc R hf0 e0 fun φ0 a0 w0 R0 G0 hf0 hd0=>?_)
      refine wp_seq (wp_seq (o0c hP hC hc R0 hf0 e1 fun φ1 a1 w1 R1 G1 hf1 hd1=>?_))
      refine wp_cond_false ?_ (wp_skip ?_)
      ·exact (X3 hf1 e7).bool_inv
      refine wp_seq (o0c hP hC hc R1 hf1 e3 fun φ3 a3 w3 R3 G3 hf3 hd3=>?_)
      refine wp_seq (wp_region ?_)
      refine q0U hP hC hc (rest:=[1]) rfl hF.g40 R3 hf3 e4 fun φ4 a4 w4 R4 G4 hf4 hd4=>?_
      have hd4':a4.defers = []:=by rw [hd4,hd3,hd1,hd0]
      have hv14:=X3 hf4 e14
      generalize hx14:a4.eval (.tmp 14) = x14 at hv14
      cases hv14 with
      | fn _ _ _ vs1 vs2 hv1 hv2 =>
      cases hv1
      cases hv2 with
      | cons _ pv _ vs2' hpv hv2 =>
      cases hv2 with
      | cons _ qv _ vs3 hqv hv2 =>
      cases hv2
      have hdf:(execOp a4.eval (mkO none (.defer ⟨.value (.tmp 14),#[],#[]⟩) m)).run C.P w4 = .ok (.defer ⟨.fn (.func F.g) #[pv,qv],#[]⟩) w4:=by
       simp [execOp,mkO,resolve,hx14,Deferred.ofValue]
      have hgd:Region.wanted (mkO none (.defer ⟨.value (.tmp 14),#[],#[]⟩) m) (yielded #[F.r40,mkO none (.defer ⟨.value (.tmp 14),#[],#[]⟩) m] a4.tmps) = true:=by unfold Region.wanted;rfl
      simp only [wpOps,List.getElem?_toArray,List.getElem?_cons_succ,List.getElem?_cons_zero,hgd,if_true]
      left
      simp only [Oper.wp,hdf,Oper.upon_defer]
      generalize hA:({ a4 with defers:=⟨.fn (.func F.g) #[pv,qv],#[]⟩::a4.defers }:Act).put (mkO none (.defer ⟨.value (.tmp 14),#[],#[]⟩) m).dst Go.undef = a4'
      have hA1:a4'.tmps = a4.tmps:=by subst hA;rfl
      have hA2:a4'.defers = [⟨.fn (.func F.g) #[pv,qv],#[]⟩]:=by subst hA;simp [Act.put,mkO,hd4']
      have hf4':AVL φ4 (Nf φ4) w4 fr4 a4'.tmps.toList:=by rw [hA1];exact hf4
      refine wp_seq (wp_region ?_)
      refine q0U hP hC hc (rest:=[1,2]) rfl hF.g50 R4 hf4' e5 fun φ5 a5 w5 R5 G5 hf5 hd5=>?_
      refine q0U hP hC hc (rest:=[2]) rfl hF.g51 R5 hf5 e6 fun φ6 a6 w6 R6 G6 hf6 hd6=>?_
      have hdd:a6.defers = [⟨.fn (.func F.g) #[pv,qv],#[]⟩]:=by rw [hd6,hd5,hA2]
      have hgd2:Region.wanted F.r52 (yielded #[F.r50,F.r51,F.r52] a6.tmps) = true:=by unfold Region.wanted;rw [hF.g52]
      simp only [wpOps,List.getElem?_toArray,List.getElem?_cons_succ,List.getElem?_cons_zero,hgd2,if_true]
      left
      unfold Oper.wp
      obtain ⟨_,cargs',hargs',e'⟩:=o0S hP hC R6 hf6 eop
      rw [e']
      have G06:Grow φ h w φ6 h6 w6:=G0.trans (G1.trans (G3.trans (G4.trans (G5.trans G6))))
      have hpv6:VR φ6 (Nf φ6) w6 p pv:=(G5.trans G6).vr hpv
      have hqv6:VR φ6 (Nf φ6) w6 q qv:=(G5.trans G6).vr hqv
      obtain ⟨gn,cm,hg1,hg2,hg3,hg4,hg5⟩:=hcl.fn
      have hinv:=fun w=>q0p hg1 hg2 hg5 #[pv,qv] w
      unfold c0z at hr
      refine (hc f' args' _ cr ec φ6 w6 cargs' R6 hargs').upon ?_ ?_
      ·rintro cv w7 ⟨v,h7,φ7,rfl,R7,G7,hv⟩
       simp only [oqE,oqB,oqI] at hr
       obtain ⟨fr7,hput,⟨fr8,h8⟩,e8,v8,hv8,rfl⟩:=hr
       have hf7:=g0S (G7.avl hf6) hv hput
       have hd7:(a6.put F.r52.dst cv).defers = a6.defers:=by cases F.r52.dst <;> rfl
       refine wp_seq (o0c hP hC hc R7 hf7 e8 fun φ8 a8 w8 R8 G8 hf8 hd8=>wp_ret ?_)
       simp only [bodyPostD,hd8,hd7,hdd]
       refine leaves_cons (by simp) (hinv w8) ?_
       refine (u0I hcl pv qv w8).mono ?_
       rintro e u' w9 ⟨rfl,rfl,rfl⟩
       obtain ⟨cv8,hres,hav⟩:=d0V R8 hf8 (g0G hrs hv8)
       exact ⟨cv8,hres,v8,h8,φ8,rfl,R8,G06.trans (G7.trans G8),hav⟩
      ·rintro ch w7 ⟨v,h7,φ7,cv,rfl,R7,G7,hv,rfl⟩
       simp only at hr
       split at hr
       ·rename_i t b v o
        split at hr
        ·rename_i b' v' o' hrd
         split at hr
         ·rename_i hcond
          obtain ⟨rfl,rfl,rfl,rfl⟩:=hcond
          simp only [oqE,oqB,oqI] at hr
          obtain ⟨h8,hw8,v8,hv8,rfl⟩:=hr
          cases hv with
          | ifc _ _ x hx =>
          have hpv7:=G7.vr hpv6
          have hqv7:=G7.vr hqv6
          obtain ⟨bb,qq,lv,hpe,hload,hlv⟩:=h0i (P:=C.P) (t:=F.tp) R7 hpv7 hsp hap hrd rfl
          have hlv1:=hlv.one_inv
          obtain ⟨A,rfl,rfl⟩:=x0f (φ:=φ7) (φ':=φ7) (fun _ _ _ h=>h) hx hlv1
          obtain ⟨b2,q2,w8,hqe,hrun,R8,G8⟩:=f0D (P:=C.P) R7 hqv7 (.cons _ (.bool false) _ _ (.bool false) .nil) hw8
          have hl:(Instr.loadAt F.tp pv).run C.P w7 = .ok (.pointer (some A)) w7:=by
           simp only [Instr.loadAt,hpe,Instr.sureAddr,Sem.run_bind,Sem.run_pure,Result.andThen_ok,hload]
          have hs:(Instr.storeAt tb qv (.bool false)).run C.P w7 = .ok () w8:=by
           simp [Instr.storeAt,hqe,Instr.sureAddr,storeVar,Z4 hst,hrun,Value.cells]
          simp only [Exit.then,bodyPostD,hdd]
          refine leaves_cons (by simp) (hinv w7) ?_
          refine (o0W hcl pv qv A w7 w8 hl hs).mono ?_
          rintro e u' w9 ⟨rfl,rfl,rfl⟩
          obtain ⟨cv8,hres,hav⟩:=d0V R8 (G8.avl (G7.avl hf6)) (g0G hrs hv8)
          exact ⟨cv8,hres,v8,h8,_,rfl,R8,G06.trans (G7.trans G8),hav⟩
         ·cases hr
        ·cases hr
       ·cases hr
     ·cases hr
    ·cases hr
   ·cases hr
  ·cases hr
 ·cases hr
end
section
variable {C:Conf}
theorem d0h {c d:C2} (hl:Le c d) {ops:Array Oper} {fr:Fr} {h:H} {r:Fr × H} (hr:rgn C c ops fr h = some r):rgn C d ops fr h = some r:=by
 unfold rgn at hr |-
 split at hr
 ·rename_i fr1 h1 he
  rw [b0z hl he];exact hr
 ·cases hr
theorem d0Q {c d:C2} (hl:Le c d) {o:Oper} {fr:Fr} {h:H} {r:Fr × H} (hr:op1 C c o fr h = some r):op1 C d o fr h = some r:=by
 unfold op1 at hr |-
 split at hr
 ·rename_i fr1 h1 he
  rw [f0n hl he];exact hr
 ·cases hr
theorem h0Y {c d:C2} (hl:Le c d) {F:RdFn} {p q:AS} {fr:Fr} {cr r:CR} (hr:c0z C F c p q fr cr = some r):c0z C F d p q fr cr = some r:=by
 unfold c0z at hr |-
 split at hr
 ·simp only [oqE,oqB] at hr |-
  obtain ⟨a,h1,b,h2,hr⟩:=hr
  exact ⟨a,h1,b,d0h hl h2,hr⟩
 ·exact hr
theorem q0A {c d:C2} (hl:Le c d) {F:RdFn} {args:List AV} {h:H} {r:CR} (hr:f0Z C F c args h = some r):f0Z C F d args h = some r:=by
 unfold f0Z at hr |-
 split at hr
 ·rename_i hlen
  rw [if_pos hlen]
  simp only [oqE,oqB] at hr |-
  obtain ⟨a0,e0,a1,e1,q7,e7,hr⟩:=hr
  refine ⟨a0,d0h hl e0,a1,d0h hl e1,q7,e7, ?_⟩
  split at hr
  ·simp only [oqB] at hr |-
   obtain ⟨a3,e3,a4,e4,q14,e14,hr⟩:=hr
   refine ⟨a3,d0h hl e3,a4,d0Q hl e4,q14,e14, ?_⟩
   split at hr
   ·split at hr
    ·rename_i hg
     simp only [hg,if_true]
     simp only [oqB] at hr |-
     obtain ⟨a5,e5,a6,e6,hr⟩:=hr
     refine ⟨a5,d0Q hl e5,a6,d0Q hl e6, ?_⟩
     split at hr
     ·simp only [oqB] at hr |-
      obtain ⟨cr,ec,hr⟩:=hr
      exact ⟨cr,hl _ _ _ _ ec,h0Y hl hr⟩
     ·cases hr
    ·cases hr
   ·cases hr
  ·cases hr
 ·cases hr
theorem s0L {c:Nat->C2} {w:C2} (hw:∀ f args h r,w f args h = some r->∃ n,c n f args h = some r) {fr:Fr} {h:H} {o:Oper} {r:Ex × Fr × H} (hr:d0g C w fr h o = some r):∃ n,d0g C (c n) fr h o = some r:=by
 simp only [d0g,W6,oqE,oqB] at hr |-
 obtain ⟨ro,⟨x,hx,hro⟩,hr⟩:=hr
 cases x with
 | call f args h' =>
  simp only [oqB] at hro
  obtain ⟨cr,hc,hro⟩:=hro
  obtain ⟨n,hn⟩:=hw _ _ _ _ hc
  exact ⟨n,ro,⟨_,hx,by simp only [oqB];exact ⟨cr,hn,hro⟩⟩,hr⟩
 | _=>exact ⟨0,ro,⟨_,hx,hro⟩,hr⟩
theorem x0E {c:Nat->C2} {w:C2} (hw:∀ f args h r,w f args h = some r->∃ n,c n f args h = some r) {o:Oper} {fr:Fr} {h:H} {r:Fr × H} (hr:op1 C w o fr h = some r):∃ n,op1 C (c n) o fr h = some r:=by
 unfold op1 at hr |-
 split at hr
 ·rename_i fr1 h1 he
  obtain ⟨n,hn⟩:=s0L hw he
  exact ⟨n,by rw [hn];exact hr⟩
 ·cases hr
theorem l0K {c:Nat->C2} {w:C2} (hm:∀ m n,m <= n->Le (c m) (c n)) (hw:∀ f args h r,w f args h = some r->∃ n,c n f args h = some r) {ops:List Oper}:∀ {l:List Oper} {fr:Fr} {h:H} {r:Ex × Fr × H},U6 C w ops l fr h = some r->∃ n,U6 C (c n) ops l fr h = some r
 | [],_,_,_,hr=>⟨0,hr⟩
 | o::l,fr,h,r,hr=>by
  simp only [U6,oqE,oqB] at hr |-
  obtain ⟨b,hb,hr⟩:=hr
  cases b with
  | true =>
   simp only [if_true,oqB] at hr
   obtain ⟨⟨x,fr',h'⟩,hop,hr⟩:=hr
   obtain ⟨n,hn⟩:=s0L hw hop
   cases x with
   | normal =>
    obtain ⟨k,hk⟩:=l0K hm hw hr
    exact ⟨max n k,true,hb,by
     simp only [if_true,oqB]
     exact ⟨_,f0n (hm _ _ (Nat.le_max_left n k)) hn,b0z (hm _ _ (Nat.le_max_right n k)) hk⟩⟩
   | _=>exact ⟨n,true,hb,by simp only [if_true,oqB];exact ⟨_,hn,hr⟩⟩
  | false =>
   simp only [oqF,if_false,oqB] at hr
   obtain ⟨fr',hp,hr⟩:=hr
   obtain ⟨k,hk⟩:=l0K hm hw hr
   exact ⟨k,false,hb,by simp only [oqF,if_false,oqB];exact ⟨fr',hp,hk⟩⟩
theorem t0d {c:Nat->C2} {w:C2} (hm:∀ m n,m <= n->Le (c m) (c n)) (hw:∀ f args h r,w f args h = some r->∃ n,c n f args h = some r) {ops:Array Oper} {fr:Fr} {h:H} {r:Fr × H} (hr:rgn C w ops fr h = some r):∃ n,rgn C (c n) ops fr h = some r:=by
 unfold rgn at hr |-
 split at hr
 ·rename_i fr1 h1 he
  obtain ⟨n,hn⟩:=l0K hm hw he
  exact ⟨n,by rw [hn];exact hr⟩
 ·cases hr
theorem u0o {c:Nat->C2} {w:C2} (hm:∀ m n,m <= n->Le (c m) (c n)) (hw:∀ f args h r,w f args h = some r->∃ n,c n f args h = some r) {F:RdFn} {p q:AS} {fr:Fr} {cr r:CR} (hr:c0z C F w p q fr cr = some r):∃ n,c0z C F (c n) p q fr cr = some r:=by
 unfold c0z at hr |-
 split at hr
 ·simp only [oqE,oqB] at hr |-
  obtain ⟨a,h1,b,h2,hr⟩:=hr
  obtain ⟨n,hn⟩:=t0d hm hw h2
  exact ⟨n,a,h1,b,hn,hr⟩
 ·exact ⟨0,hr⟩
theorem z0i {c:Nat->C2} {w:C2} (hm:∀ m n,m <= n->Le (c m) (c n)) (hw:∀ f args h r,w f args h = some r->∃ n,c n f args h = some r) {F:RdFn} {args:List AV} {h:H} {r:CR} (hr:f0Z C F w args h = some r):∃ n,f0Z C F (c n) args h = some r:=by
 unfold f0Z at hr |-
 split at hr
 ·rename_i hlen
  simp only [hlen,if_true]
  simp only [oqE,oqB] at hr |-
  obtain ⟨a0,e0,a1,e1,q7,e7,hr⟩:=hr
  obtain ⟨n0,f0⟩:=t0d hm hw e0
  obtain ⟨n1,f1⟩:=t0d hm hw e1
  split at hr
  ·simp only [oqB] at hr
   obtain ⟨a3,e3,a4,e4,q14,e14,hr⟩:=hr
   obtain ⟨n3,f3⟩:=t0d hm hw e3
   obtain ⟨n4,f4⟩:=x0E hw e4
   split at hr
   ·split at hr
    ·rename_i hg
     simp only [oqB] at hr
     obtain ⟨a5,e5,a6,e6,hr⟩:=hr
     obtain ⟨n5,f5⟩:=x0E hw e5
     obtain ⟨n6,f6⟩:=x0E hw e6
     split at hr
     ·rename_i f' args' h' hop
      simp only [oqB] at hr
      obtain ⟨cr,ec,hr⟩:=hr
      obtain ⟨n7,f7⟩:=hw _ _ _ _ ec
      obtain ⟨n8,f8⟩:=u0o hm hw hr
      have hle:∀ k,k <= n0 + n1 + n3 + n4 + n5 + n6 + n7 + n8->Le (c k) (c (n0 + n1 + n3 + n4 + n5 + n6 + n7 + n8)):=fun k hk=>hm _ _ hk
      refine ⟨n0 + n1 + n3 + n4 + n5 + n6 + n7 + n8,a0,d0h (hle n0 (by omega)) f0,a1,d0h (hle n1 (by omega)) f1,_,e7, ?_⟩
      simp only [oqB]
      refine ⟨a3,d0h (hle n3 (by omega)) f3,a4,d0Q (hle n4 (by omega)) f4,_,e14, ?_⟩
      simp only [hg,if_true,oqB]
      refine ⟨a5,d0Q (hle n5 (by omega)) f5,a6,d0Q (hle n6 (by omega)) f6, ?_⟩
      simp only [hop,oqB]
      exact ⟨cr,hle n7 (by omega) _ _ _ _ f7,h0Y (hle n8 (by omega)) f8⟩
     ·cases hr
    ·cases hr
   ·cases hr
  ·cases hr
 ·cases hr
end
def Me.of (o:Oper):Me:=⟨o.type,o.pos,o.after⟩
def cNo:Code->Code
 | .cond _ _ b=>b
 | c=>c
def I0n:Code->Code
 | .block _ b=>b
 | c=>c
def I0f:Code->Nat
 | .block i _=>i
 | _=>0
def CM.of (c:Code):CM :=
 let b:=I0n (a0P (a0P c))
 let n:=cNo (a0P b)
 let s0:=i0g (c0p c)
 let s3:=i0g (c0p b)
 let s4:=i0g (c0p n)
 let s5:=F0k (a0P n)
 ⟨j0v (c0p c),j0v (c0p (a0P c)),j0v (c0p b),j0v (c0p n),j0v s5,j0v (cNo (a0P n)),I0f (a0P (a0P c)),Me.of s0[0]!,Me.of s0[1]!,Me.of (i0g (c0p (a0P c)))[0]!,Me.of s3[0]!,Me.of s3[1]!,Me.of s4[0]!,Me.of s4[1]!,Me.of s4[2]!,Me.of s4[3]!,Me.of (i0g s5)[0]!,i0g (cNo (a0P n))⟩
def z0P (c:Code):Nat->Nat:=fun k =>
 if k = 0 then j0v (c0p c) else if k = 1 then j0v (c0p (c0p (a0P c))) else
 let l:=a0P (a0P c)
 if k = 3 then j0v (c0p l) else if k = 4 then j0v (c0p (a0P l)) else if k = 5 then j0v (c0p (a0P (a0P l))) else j0v (c0p (a0P (a0P (a0P l))))
theorem u0M {P:Program} {f g tp ta tb el:Nat} {fn gn:Func} {c d:Code} {i ie:TypeInfo} {ms:Array (String × TypeId)} (hf:P.funcs[f]? = some fn) (hg:P.funcs[g]? = some gn) (hb:fn.body = some c) (hd:gn.body = some d)
  (h1:c = k0p (z0P c) (RdFn.of g tp fn) (F0k (a0P (c0p (a0P c)))) (Me.of (i0g (c0p (a0P (a0P (a0P c)))))[1]!)) (h2:fn.ntmps = 24) (h3:(fn.name == "runtime.NumGoroutine") = false)
  (h4:d = i0h ta tp tb (CM.of d)) (h5:gn.ntmps = 12) (h6:gn.results = #[]) (h7:(gn.name == "runtime.NumGoroutine") = false)
  (g1:(RdFn.of g tp fn).r40.guard = none) (g2:(RdFn.of g tp fn).r50.guard = none) (g3:(RdFn.of g tp fn).r51.guard = none) (g4:(RdFn.of g tp fn).r52.guard = none)
  (hany:P.underlying ta = some (.interface ms)) (hptr:P.underlying tp = some (.pointer el)) (hi:P.info? tp = some i) (hcm:i.comparable = true) (hie:P.info? el = some ie) (hsz:Nat.blt 0 ie.size = true)
  (hs1:B5 P tb = some 1) (hs2:B5 P tp = some 1) (hs3:B9 P tp = some false):ReadOk P f (RdFn.of g tp fn):=by
 exact ⟨⟨fn,_,_,_,hf,hb.trans (congrArg some h1),h2,rfl,h3⟩,g1,g2,g3,g4,ta,tb,⟨⟨gn,_,hg,hd.trans (congrArg some h4),h5,h6,h7⟩,⟨ms,hany⟩,⟨el,i,ie,hptr,hi,hcm,hie,by
  intro h0;rw [h0] at hsz;cases hsz⟩⟩,hs1,hs2,hs3⟩
section
variable (P:Program)
def k0P (fl:Nat->Option (List AS)):List Field->Nat->Option (List AS)
 | [],_=>some []
 | f::l,off =>
  if f.name ≠ "_" /\ f.offset = off then
   match fl f.type with
   | some z=>if B5 P f.type = some z.length then
     match k0P fl l (off + z.length) with
     | some y=>some (z++y)
     | none=>none
    else none
   | none=>none
  else none
def d0i:Nat->Nat->Option (List AS)
 | 0,_=>none
 | d + 1,t =>
  match P.underlying t with
  | some .bool=>some [.bool false]
  | some (.int k)=>some [.int k 0]
  | some .string=>some [.str []]
  | some (.struct fs)=>if P.stoodInHeld t = false then k0P P (d0i d) fs.toList 0 else none
  | _=>none
end
section
variable {P:Program} {φ:Phi} {O:Nat->Prop} {w:World}
theorem b0l:∀ {z l:List AS},T6 z l = true->z.length = l.length
 | [],[],_=>rfl
 | [],_::_,h=>by simp [T6] at h
 | a::z,[],h=>by cases a <;> simp [T6] at h
 | a::z,b::l,h=>by
  cases a <;> cases b <;> simp [T6] at h
  ·simp [b0l h]
  ·simp [b0l h.2]
  ·simp [b0l h]
theorem d0c:∀ {z y l:List AS},T6 (z++y) l = true->∃ l1 l2,l = l1++l2/\T6 z l1 = true/\T6 y l2 = true
 | [],y,l,h=>⟨[],l,rfl,rfl,h⟩
 | a::z,y,[],h=>by cases a <;> simp [T6] at h
 | a::z,y,b::l,h=>by
  cases a <;> cases b <;> simp [T6] at h
  ·obtain ⟨l1,l2,rfl,h1,h2⟩:=d0c h
   exact ⟨_::l1,l2,rfl,by simp [T6,h1],h2⟩
  ·obtain ⟨h0,h⟩:=h
   obtain ⟨l1,l2,rfl,h1,h2⟩:=d0c h
   exact ⟨_::l1,l2,rfl,by simp [T6,h1,h0],h2⟩
  ·obtain ⟨l1,l2,rfl,h1,h2⟩:=d0c h
   exact ⟨_::l1,l2,rfl,by simp [T6,h1],h2⟩
theorem s0M:∀ {l1 m1 l2 m2:List AS} {r:Bool},l1.length = m1.length->eqL (l1++l2) (m1++m2) = some r->∃ a b,eqL l1 m1 = some a/\eqL l2 m2 = some b/\r = (a && b)
 | [],[],l2,m2,r,_,h=>⟨true,r,rfl,h,by simp⟩
 | [],_::_,_,_,_,h,_=>by simp at h
 | _::_,[],_,_,_,h,_=>by simp at h
 | x::l1,y::m1,l2,m2,r,hl,h=>by
  simp only [oqm,eqL,oqE,oqB,oqI] at h |-
  obtain ⟨a,ha,b,hb,rfl⟩:=h
  obtain ⟨c,d,h1,h2,rfl⟩:=s0M (by simpa using hl) hb
  exact ⟨a && c,d,⟨a,ha,c,h1,rfl⟩,h2,by rw [Bool.and_assoc]⟩
theorem o0u:∀ {l1 l2:List AS} {xs:List Value},VRL φ O w (l1++l2) xs->∃ x1 x2,xs = x1++x2/\VRL φ O w l1 x1/\VRL φ O w l2 x2
 | [],l2,xs,h=>⟨[],xs,rfl,.nil,h⟩
 | a::l1,l2,_,.cons _ v _ vs h1 h2=>by
  obtain ⟨x1,x2,rfl,h3,h4⟩:=o0u h2
  exact ⟨v::x1,x2,rfl,.cons _ _ _ _ h1 h3,h4⟩
def ofC (P:Program) (t:Nat) (xs:List Value):Value:=match P.underlying t with
 | some (.struct _)=>.agg xs.toArray
 | _=>xs.headD Go.undef
theorem m0D (t:Nat) (b:Bool) (h:(match P.underlying t with | some (.struct _)=>b = true | some .bool | some (.int _) | some .string=>b = false | _=>False)):(isAgg t).run P w = .ok b w:=by
 cases hu:P.underlying t with
 | none=>rw [hu] at h;exact h.elim
 | some u =>
  rw [hu] at h
  cases u <;> simp only at h <;> first | (subst h;simp [isAgg,run_underlying hu]) | exact h.elim
def EqT (P:Program) (D:Nat) (t:Nat) (z:List AS):Prop :=
 ∀ (w:World) (φ:Phi) (O:Nat->Prop) (l m:List AS) (xs ys:List Value) (r:Bool),VRL φ O w l xs->VRL φ O w m ys->T6 z l = true->T6 z m = true->eqL l m = some r->(Op.equalIn D t (ofC P t xs) (ofC P t ys)).run P w = .ok r w
theorem o0T {t:Nat} {z:List AS} {d:Nat} (hz:d0i P d t = some z) (hs:B5 P t = some z.length) {pre x1 x2:List Value} (hl:x1.length = z.length):(part t (pre++(x1++x2)).toArray pre.length).run P w = .ok (ofC P t x1) w:=by
 have hsz:=Z4 (w:=w) hs
 have scalar:(match P.underlying t with | some (.struct _)=>False | some .bool | some (.int _) | some .string=>True | _=>False)->z.length = 1->(part t (pre++(x1++x2)).toArray pre.length).run P w = .ok (ofC P t x1) w:=by
  intro hk h1
  have ha:(isAgg t).run P w = .ok false w:=by
   refine m0D t false ?_
   cases hu:P.underlying t with
   | none=>rw [hu] at hk;exact hk.elim
   | some u=>rw [hu] at hk;cases u <;> simp only at hk |-
  rw [h1] at hl
  match x1,hl with
  | [v],_ =>
   have hg:(pre++([v]++x2))[pre.length]? = some v:=by
    rw [List.getElem?_append_right (oqg _)];simp
   have ho:ofC P t [v] = v:=by
    unfold ofC
    cases hu:P.underlying t with
    | none=>rfl
    | some u=>rw [hu] at hk;cases u <;> simp only at hk <;> rfl
   rw [ho]
   unfold part
   simp only [Sem.run_bind,ha,Result.andThen_ok,oqF,if_false,List.getElem?_toArray,hg,Sem.run_pure]
 cases d with
 | zero=>cases hz
 | succ d =>
  rw [d0i] at hz
  split at hz
  ·rename_i hu;simp only [oqI] at hz;subst hz;exact scalar (by rw [hu];trivial) rfl
  ·rename_i hu;simp only [oqI] at hz;subst hz;exact scalar (by rw [hu];trivial) rfl
  ·rename_i hu;simp only [oqI] at hz;subst hz;exact scalar (by rw [hu];trivial) rfl
  ·rename_i fs hu
   have ha:(isAgg t).run P w = .ok true w:=m0D t true (by rw [hu])
   have ho:ofC P t x1 = .agg x1.toArray:=by unfold ofC;rw [hu]
   unfold part
   simp only [Sem.run_bind,ha,Result.andThen_ok,if_true,hsz,Sem.run_pure,ho]
   congr 2
   apply Array.toList_inj.1
   simp [List.extract,<- hl]
  ·cases hz
theorem m0s {D d:Nat} (ih:∀ t z,d0i P d t = some z->EqT P D t z):∀ (fs:List Field) (off:Nat) (z:List AS),k0P P (d0i P d) fs off = some z ->
  ∀ (w:World) (φ:Phi) (O:Nat->Prop) (l m:List AS) (px py xs ys:List Value) (r:Bool),px.length = off->py.length = off->VRL φ O w l xs->VRL φ O w m ys->T6 z l = true->T6 z m = true->eqL l m = some r ->
   (Op.eqFields D (px++xs).toArray (py++ys).toArray fs).run P w = .ok r w
 | [],off,z,hz,w,φ,O,l,m,px,py,xs,ys,r,hx,hy,h1,h2,h3,h4,h5=>by
  simp only [k0P,oqI] at hz;subst hz
  have e1:=b0l h3
  have e2:=b0l h4
  have e3:l = []:=List.length_eq_zero_iff.1 e1.symm
  have e4:m = []:=List.length_eq_zero_iff.1 e2.symm
  subst e3;subst e4
  simp only [eqL,oqI] at h5;subst h5
  simp [Op.eqFields]
 | f::fs,off,z,hz,w,φ,O,l,m,px,py,xs,ys,r,hx,hy,h1,h2,h3,h4,h5=>by
  rw [k0P] at hz
  split at hz
  ·rename_i hn
   obtain ⟨hn,ho⟩:=hn
   split at hz
   ·rename_i zf hzf
    split at hz
    ·rename_i hs
     split at hz
     ·rename_i y hy'
      simp only [oqI] at hz;subst hz
      obtain ⟨l1,l2,rfl,k1,k2⟩:=d0c h3
      obtain ⟨m1,m2,rfl,k3,k4⟩:=d0c h4
      have n1:=b0l k1
      have n3:=b0l k3
      obtain ⟨a,b,g1,g2,rfl⟩:=s0M (by rw [<- n1,<- n3]) h5
      obtain ⟨x1,x2,rfl,v1,v2⟩:=o0u h1
      obtain ⟨y1,y2,rfl,u1,u2⟩:=o0u h2
      have p1:=o0T (w:=w) hzf hs (pre:=px) (x1:=x1) (x2:=x2) (by rw [<- v1.length,<- n1])
      have p2:=o0T (w:=w) hzf hs (pre:=py) (x1:=y1) (x2:=y2) (by rw [<- u1.length,<- n3])
      rw [hx,<- ho] at p1
      rw [hy,<- ho] at p2
      have p3:=ih f.type zf hzf w φ O l1 m1 x1 y1 a v1 u1 k1 k3 g1
      have rest:=m0s ih fs (off + zf.length) y hy' w φ O l2 m2 (px++x1) (py++y1) x2 y2 b (by rw [oqa,hx,<- v1.length,<- n1]) (by rw [oqa,hy,<- u1.length,<- n3]) v2 u2 k2 k4 g2
      rw [oqh,oqh] at rest
      rw [Op.eqFields,if_pos hn]
      simp only [Sem.run_bind,p1,Result.andThen_ok,p2,p3]
      cases a with
      | false=>simp
      | true=>simp only [Bool.not_true,oqF,if_false,Bool.true_and];exact rest
     ·cases hz
    ·cases hz
   ·cases hz
  ·cases hz
theorem m0p {k:IntKind} {l:List AS} (h:T6 [.int k 0] l = true):∃ a,l = [.int k a]:=by
 cases l with
 | nil=>simp [T6] at h
 | cons x l =>
  cases x <;> simp [T6] at h
  obtain ⟨rfl,h⟩:=h
  cases l with
  | nil=>exact ⟨_,rfl⟩
  | cons y l=>simp [T6] at h
theorem s0t:∀ (d t:Nat) (z:List AS),d0i P d t = some z->∀ D,EqT P (D + d) t z
 | 0,t,z,h,D=>by cases h
 | d + 1,t,z,h,D=>by
  intro w φ O l m xs ys r h1 h2 h3 h4 h5
  rw [d0i] at h
  split at h
  ·rename_i hu
   simp only [oqI] at h;subst h
   have eo:∀ xs,ofC P t xs = xs.headD Go.undef:=fun xs=>by unfold ofC;rw [hu]
   match l,m,h3,h4,h1,h2,h5 with
   | [.bool a],[.bool b],_,_,.cons _ _ _ _ v1 .nil,.cons _ _ _ _ v2 .nil,h5 =>
    have e1:=v1.bool_inv;have e2:=v2.bool_inv;subst e1;subst e2
    simp only [eqL,eqS,oqE,oqS,oqI,Bool.and_true] at h5;subst h5
    rw [eo,eo]
    show (Op.equalIn (D + d + 1) t _ _).run P w = _
    simp [Op.equalIn,run_underlying hu]
  ·rename_i k hu
   simp only [oqI] at h;subst h
   have eo:∀ xs,ofC P t xs = xs.headD Go.undef:=fun xs=>by unfold ofC;rw [hu]
   obtain ⟨a,rfl⟩:=m0p h3
   obtain ⟨b,rfl⟩:=m0p h4
   match h1,h2,h5 with
   | .cons _ _ _ _ v1 .nil,.cons _ _ _ _ v2 .nil,h5 =>
    have e1:=v1.int_inv;have e2:=v2.int_inv;subst e1;subst e2
    simp only [eqL,eqS,if_true,oqE,oqS,oqI,Bool.and_true] at h5;subst h5
    rw [eo,eo]
    show (Op.equalIn (D + d + 1) t _ _).run P w = _
    simp [Op.equalIn,run_underlying hu]
  ·rename_i hu
   simp only [oqI] at h;subst h
   have eo:∀ xs,ofC P t xs = xs.headD Go.undef:=fun xs=>by unfold ofC;rw [hu]
   match l,m,h3,h4,h1,h2,h5 with
   | [.str a],[.str b],_,_,.cons _ _ _ _ v1 .nil,.cons _ _ _ _ v2 .nil,h5 =>
    have e1:=v1.str_inv;have e2:=v2.str_inv;subst e1;subst e2
    simp only [eqL,eqS,oqE,oqS,oqI,Bool.and_true] at h5;subst h5
    rw [eo,eo]
    show (Op.equalIn (D + d + 1) t _ _).run P w = _
    rw [List.headD_cons,List.headD_cons,run_equalIn_string _ _ _ _ _ hu,ByteArray.toList_eq,ByteArray.toList_eq]
  ·rename_i fs hu
   split at h
   ·rename_i hst
    have ef:P.fieldsOf t = fs:=by simp [Program.fieldsOf,hu]
    have eo:∀ xs,ofC P t xs = .agg xs.toArray:=fun xs=>by unfold ofC;rw [hu]
    rw [eo,eo]
    show (Op.equalIn (D + d + 1) t _ _).run P w = _
    rw [run_equalIn_struct w (D + d) t _ _ (by rw [ef];exact hu) hst,ef]
    have:=m0s (D:=D + d) (d:=d) (fun t z hz=>s0t d t z hz D) fs.toList 0 z h w φ O l m [] [] xs ys r rfl rfl h1 h2 h3 h4 h5
    simpa using this
   ·cases h
  ·cases h
theorem B0m {t:Nat} {z:List AS} {fs:Array Field} (h:d0i P 8 t = some z) (hs:P.underlying t = some (.struct fs)) (hg:P.eqGuardType P.depth t = false):CmpT P t z:=by
 refine ⟨hg,fun w φ O l m xs ys r h1 h2 h3 h4 h5=>?_⟩
 have:=s0t 8 t z h 9992 w φ O l m xs ys r h1 h2 h3 h4 h5
 have eo:∀ xs,ofC P t xs = .agg xs.toArray:=fun xs=>by unfold ofC;rw [hs]
 rw [eo,eo] at this
 exact this
end
theorem u0O {P:Program} {f:FuncId} {fn:Func} {s:ChangeSpec} {c:OpenClaim}
  (k1:c.wf (OpenSpec.ofChange s) = true) (k2:laidOutB P = true) (k3:mapsRowed P = true) (k4:(fn.params.all (P.readableRec ·)) = true) (k5:namedTie P c.named s.vars = true)
  (k6:(c.stops == []) = true) (k7:(P.stops == []) = true) (k8:(c.knobs == []) = true) (k9:(P.stopKnobs == []) = true)
  (k10:(c.inPlace == P.inPlace f) = true) (k11:(c.unfollowed == P.unfollowed f) = true) (k12:(c.recurses == P.recurses f) = true) (k13:(c.named == P.varsNamed f) = true)
  (k14:(c.maps == (fn.params.toList++s.plain.varTypes P).any (P.mapsRec ·)) = true) (k15:(c.ifaces == (fn.params.toList++s.plain.varTypes P).any (P.ifacesRec ·)) = true) (k16:(c.mapsOut == P.mapsAmong fn.resultTypes.toList) = true)
  (k17:(c.loops == (fn.params.toList++s.plain.varTypes P).any (P.loopsFrom ·)) = true) (k17b:(c.wideKeys == (fn.params.toList++s.plain.varTypes P++fn.resultTypes.toList).any (P.wideKeysFrom ·)) = true)
  (k18:s.vars.all (P.varReadable ·) = true) (k19:fn.resultTypes.all (fun t=>P.readableRec t && decide (t < P.types.size)) = true) (k20:(c.ifacesOut == fn.resultTypes.toList.any (P.ifacesRec ·)) = true) (k21:(c.loopsOut == fn.resultTypes.toList.any (P.loopsFrom ·)) = true) (k22:(c.plainKeys == P.plainKeys) = true) (k23:c.shortTexts.isNone = true) (k23b:P.stopsHeard = true) (k24:P.mayEnter = true) (k24b:(c.lifted == P.liftsFinal) = true) (k24c:(P.make == some c.make) = true)
  (k25:(c.kinds == (if c.domain.isEmpty then [] else fn.params.toList.map fun t=>match P.underlying t with | some (.int k)=>some k | _=>none)) = true) (k26:(c.pinned == c.pinnedBy) = true)
  (k27:(c.veiled == (fn.params.toList++s.plain.varTypes P++fn.resultTypes.toList).any (P.veiledRec ·)) = true) (k28:c.veiledFits P fn.params.toList (fn.params.toList++s.plain.varTypes P++fn.resultTypes.toList) = true):joinedFacts P f fn s c = true:=by
 unfold joinedFacts
 rw [k1,k2,k3,k4,k5,k6,k7,k8,k9,k10,k11,k12,k13,k14,k15,k16,k17,k17b,k18,k19,k20,k21,k22,k23,k23b,k24,k24b,k24c,k26,k27,k28]
 simp only [Bool.true_and,Bool.and_true]
 exact k25
end Go.Ab
