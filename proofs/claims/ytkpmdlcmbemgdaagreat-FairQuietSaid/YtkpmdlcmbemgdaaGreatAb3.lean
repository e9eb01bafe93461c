/- From the abstract machine to the given statements; rules for walking in it. No conditions. -/
import Derived.Test.YtkpmdlcmbemgdaaGreatAb2
import GoSem.ClaimChange
import Derived.Below
import Derived.Carry
import Derived.Handed
import Derived.JoinedOf
import Derived.ChangeSame
import Derived.RowKit
import Derived.KernelRfl
set_option linter.unusedVariables false
set_option linter.unusedSimpArgs false
set_option linter.unnecessarySimpa false
namespace Go.Ab
def rowOf:Ext→(Array Value→Sem Value)
 | .bits=>Extern.MathFloatBits.float64bits
 | .frombits=>Extern.MathFloatBits.float64frombits
 | .cmpBytes | .cmpStr=>Extern.BytealgCompare.compare
structure ExtT (P:Program) (f:Nat) (x:Ext):Prop where
 fn:∃ fn,P.funcs[f]? = some fn∧fn.body = none∧(fn.name == "runtime.NumGoroutine") = false∧(Extern.findNext fn).isNone = true∧Extern.find fn = some (rowOf x)
theorem run_ext {P:Program} {f:Nat} {x:Ext} (h:ExtT P f x) (args:Array Value) (w:World):(callFunc f args).run P w = ((rowOf x args).run P w).andThen fun v w'=>.ok (.value v) w':=by
 obtain ⟨fn,h1,h2,h3,h4,h5⟩:=h.fn
 have h4':Extern.findNext fn = none:=by simpa using h4
 have h3':¬ fn.name = "runtime.NumGoroutine" := by simpa using h3
 simp only [callFunc,Sem.run_bind,run_program,Result.andThen_ok,h1,h2,beq_iff_eq,h3',if_false,Option.isNone_none,if_true,run_mark,h4',h5]
 simp [Sem.run_bind]
theorem cmp_go (a b:List UInt8):(match (List.range (min a.length b.length)).find? fun i=>a[i]! != b[i]! with
  | some i=>if a[i]! < b[i]! then (-1:Int) else 1
  | none=>if a.length < b.length then -1 else if a.length > b.length then 1 else 0) = cmpL a b:=by
 induction a generalizing b with
 | nil=>cases b <;> simp [cmpL,Op.bytesLess]
 | cons x a ih =>
  cases b with
  | nil=>simp [cmpL,Op.bytesLess]
  | cons y b =>
   have hr:List.range (min (x::a).length (y::b).length) = 0::(List.range (min a.length b.length)).map (· + 1):=by
    simp only [List.length_cons,Nat.succ_min_succ]
    rw [List.range_succ_eq_map]
   rw [hr]
   by_cases hxy:x = y
   ·subst hxy
    have h0:((x::a)[0]! != (x::b)[0]!) = false:=by simp
    rw [List.find?_cons,h0]
    simp only [List.find?_map]
    have hcomp:((fun i=>(x::a)[i]! != (x::b)[i]!) ∘ (· + 1)) = fun i=>a[i]! != b[i]!:=by funext i;simp
    rw [hcomp]
    have:=ih b
    have hl:¬ (x < x):=by simp [UInt8.lt_iff_toNat_lt]
    have e:cmpL (x::a) (x::b) = cmpL a b:=by simp [cmpL,Op.bytesLess,hl]
    rw [e,← this]
    cases hf:(List.range (min a.length b.length)).find? fun i=>a[i]! != b[i]! with
    | none=>simp
    | some i=>simp
   ·have h0:((x::a)[0]! != (y::b)[0]!) = true:=by simp [hxy]
    rw [List.find?_cons,h0]
    simp only [cmpL,Op.bytesLess]
    have hb:(x == y) = false:=by simp [hxy]
    simp [hb]
theorem cmp_eq (a b:ByteArray):Extern.BytealgCompare.cmp a b = cmpL a.data.toList b.data.toList:=by
 rw [← cmp_go]
 unfold Extern.BytealgCompare.cmp
 have hg:∀ (x:ByteArray) (i:Nat),x[i]! = x.data.toList[i]!:=by
  intro x i
  rw [getElem!_def,getElem!_def]
  by_cases h:i < x.size
  ·have h':i < x.data.toList.length:=by simpa using h
   rw [getElem?_pos x i h,List.getElem?_eq_getElem h']
   simp [ByteArray.getElem_eq_getElem_data]
  ·have h':¬ i < x.data.toList.length:=by simpa using h
   rw [getElem?_neg x i h,List.getElem?_eq_none (by omega)]
 simp only [hg]
 have hs:∀ x:ByteArray,x.size = x.data.toList.length:=fun x=>(Array.length_toList (xs:=x.data)).symm
 simp only [hs]
 rfl
theorem run_loadBytes_at {P:Program} {w:World} (b:Nat):∀ (s:List UInt8) (o:Nat) (acc:ByteArray),(∀ j v,(s.map fun c=>Value.int .u8 (c.toNat:Int))[j]? = some v→w.cell? ⟨b,o + j,none⟩ = some v) →
  (Extern.Bytes.loadBytes ⟨b,o,none⟩ s.length acc).run P w = .ok ⟨acc.data++s.toArray⟩ w
 | [],o,acc,_=>by
  show (Sem.run P (pure acc) w) = _
  rw [Sem.run_pure];simp
 | c::s,o,acc,h=>by
  have h0:=h 0 _ rfl
  simp only [List.length_cons,Extern.Bytes.loadBytes,Sem.run_bind]
  simp only [Nat.add_zero] at h0
  rw [run_load,h0]
  simp only [Result.andThen_ok,add_none]
  have ih:=run_loadBytes_at (P:=P) (w:=w) b s (o + 1) (acc.push c) (fun j v hj=>by
   rw [show o + 1 + j = o + (j + 1) by omega]
   exact h (j + 1) v (by simpa using hj))
  have e:((c.toNat:Int).toNat).toUInt8 = c:=by simp
  rw [e,ih]
  congr 1
  simp [ByteArray.push]
theorem bytesOf_byteS:∀ t:List UInt8,bytesOf (t.map byteS) = some t
 | []=>rfl
 | c::t=>by
  have hc:(0:Int) ≤ (c.toNat:Int)∧(c.toNat:Int) < 256:=⟨by omega,by have:=c.toNat_lt;omega⟩
  simp only [List.map_cons,byteS,bytesOf,if_pos hc,bytesOf_byteS t]
  simp
section
variable {P:Program} {φ:Phi} {h:H} {w:World}
theorem run_bytesOf (R:Rel φ h w) {x:AS} {xv:Value} {N:Nat} {l:List AS} {s:List UInt8} (hx:VR φ (Nf φ) w x xv) (hN:lenS x = some N) (he:elemsOf h 1 N x = some l) (hb:bytesOf l = some s) :
  (Extern.Bytes.bytesOf xv).run P w = .ok ⟨s.toArray⟩ w:=by
 have key:∀ (b o N':Nat) (c:Nat) (vs:List Value),VRL φ (Nf φ) w l vs→vs.length = N'→(∀ j v,vs[j]? = some v→w.cell? ⟨b,o + j,none⟩ = some v)→(Extern.Bytes.bytesOf (.slice (some ⟨b,o,none⟩) N' c)).run P w = .ok ⟨s.toArray⟩ w:=by
  intro b o N' c vs hvs hlen hc
  have e:=bytesOf_inv hvs hb
  have hn:N' = s.length:=by rw [← hlen,e];simp
  subst hn
  have:=run_loadBytes_at (P:=P) (w:=w) b s o ByteArray.empty (fun j v hj=>hc j v (by rw [e];simpa using hj))
  simp only [Extern.Bytes.bytesOf]
  rw [this];simp
 cases hx with
 | nilslc =>
  simp only [lenS,oqI] at hN;subst hN
  simp only [elemsOf,if_true,oqI] at he;subst he
  simp only [bytesOf,oqI] at hb;subst hb
  rfl
 | str t =>
  simp only [lenS,oqI] at hN;subst hN
  simp only [elemsOf,Nat.le_refl,if_true,List.take_length,oqI] at he;subst he
  have:s = t:=by
   rw [bytesOf_byteS] at hb;exact (Option.some.inj hb).symm
  subst this;rfl
 | slc b v o n sz c L a cap h1 h2 h3 h4 h5 h6 =>
  simp only [lenS,oqI] at hN;subst hN
  simp only [elemsOf] at he
  split at he
  ·rename_i hc
   obtain ⟨b',o',vs,hp,hvs,hlen,hcell⟩:=read_ok R (VR.ptr b v o L h1) he
   simp only [Value.pointer.injEq,oqI,Addr.mk.injEq,and_true] at hp
   obtain ⟨rfl,rfl⟩:=hp
   rw [Nat.mul_one] at hlen
   by_cases hcap:0 < cap
   ·rw [h3 hcap]
    exact key _ _ _ _ vs hvs hlen hcell
   ·have hn:n = 0:=by omega
    subst hn
    have:vs = []:=List.eq_nil_of_length_eq_zero hlen
    subst this
    cases hvs
    simp only [bytesOf,oqI] at hb;subst hb
    simp [Extern.Bytes.bytesOf,Extern.Bytes.loadBytes];rfl
  ·cases he
 | vs n sz cells blk base cap spot vs h1 h2 h3 h4 h5 h6 h7 h8 =>
  simp only [lenS,oqI] at hN;subst hN
  simp only [elemsOf] at he
  split at he
  ·rename_i hc
   obtain ⟨q1,q2⟩:=VRL.of_sub h7 he
   rw [Nat.mul_one] at q2 q1
   by_cases hn:0 < n
   ·rw [h6 hn]
    refine key _ _ _ _ _ q1 (by rw [← q1.length,q2]) fun j v hj=>?_
    simp only [List.drop_zero,List.getElem?_take] at hj
    split at hj
    ·exact h8 _ _ hj
    ·cases hj
   ·have hn0:n = 0:=by omega
    subst hn0
    have:l = []:=List.eq_nil_of_length_eq_zero (by simpa using q2)
    subst this
    simp only [bytesOf,oqI] at hb;subst hb
    simp [Extern.Bytes.bytesOf,Extern.Bytes.loadBytes];rfl
  ·cases he
 | _=>simp [lenS] at hN
theorem ext_ok {f:Nat} {x:Ext} (hx:ExtT P f x) {args:List AV} {r:CR} (hr:extA x args h = some r) {cargs:List Value} (R:Rel φ h w) (ha:AVL φ (Nf φ) w args cargs):CallR P φ h w f cargs r:=by
 have fin:∀ (a:AS) (v:Value),r = .ret (.one a) h→(rowOf x cargs.toArray).run P w = .ok v w→VR φ (Nf φ) w a v→CallR P φ h w f cargs r:=by
  rintro a v rfl hrun hv
  left
  refine ⟨v,w, ?_,.one a,h,φ,rfl,R,Grow.refl _ _ _,.one _ _ hv⟩
  rw [run_ext hx,hrun];rfl
 have one:∀ {a:AS} {cargs:List Value},AVL φ (Nf φ) w [.one a] cargs→∃ v,cargs = [v]∧VR φ (Nf φ) w a v:=by
  intro a cargs ha
  cases ha with | cons _ v _ _ h1 h2=>cases h2;exact ⟨v,rfl,h1.one_inv⟩
 have two:∀ {a b:AS} {cargs:List Value},AVL φ (Nf φ) w [.one a,.one b] cargs→∃ v u,cargs = [v,u]∧VR φ (Nf φ) w a v∧VR φ (Nf φ) w b u:=by
  intro a b cargs ha
  cases ha with | cons _ v _ _ h1 h2=>cases h2 with | cons _ u _ _ h3 h4=>cases h4;exact ⟨v,u,rfl,h1.one_inv,h3.one_inv⟩
 unfold extA at hr
 split at hr
 ·obtain ⟨v,rfl,hv⟩:=one ha
  cases hv
  simp only [oqI] at hr
  exact fin _ _ hr.symm rfl (.int _ _)
 ·obtain ⟨v,rfl,hv⟩:=one ha
  cases hv with
  | nan y hy =>
   simp only [oqI] at hr
   exact fin _ _ hr.symm rfl (.nanb _ hy)
 ·obtain ⟨v,rfl,hv⟩:=one ha
  cases hv
  simp only [oqI] at hr
  exact fin _ _ hr.symm rfl (.flt _)
 ·obtain ⟨v,rfl,hv⟩:=one ha
  cases hv with
  | nanb y hy =>
   simp only [oqI] at hr
   exact fin _ _ hr.symm rfl (.nan _ hy)
 ·rename_i a b
  obtain ⟨v,u,rfl,hv,hu⟩:=two ha
  simp only [oqE,oqB,oqI] at hr
  obtain ⟨na,hna,la,hla,xa,hxa,nb,hnb,lb,hlb,xb,hxb,hr⟩:=hr
  refine fin _ _ hr.symm ?_ (.int _ _)
  show (Sem.run P (do pure (goInt (Extern.BytealgCompare.cmp (← Extern.Bytes.bytesOf v) (← Extern.Bytes.bytesOf u)))) w) = _
  simp only [Sem.run_bind,run_bytesOf (P:=P) R hv hna hla hxa,Result.andThen_ok,run_bytesOf (P:=P) R hu hnb hlb hxb,cmp_eq,Sem.run_pure,goInt]
 ·rename_i a b
  obtain ⟨v,u,rfl,hv,hu⟩:=two ha
  cases hv;cases hu
  simp only [oqI] at hr
  refine fin _ _ hr.symm ?_ (.int _ _)
  show (Sem.run P (do pure (goInt (Extern.BytealgCompare.cmp (← Extern.Bytes.bytesOf (.string ⟨a.toArray⟩)) (← Extern.Bytes.bytesOf (.string ⟨b.toArray⟩))))) w) = _
  simp only [Extern.Bytes.bytesOf,Sem.run_bind,Sem.run_pure,Result.andThen_ok,cmp_eq,goInt]
 ·cases hr
end
end Go.Ab
namespace Go.Ab
inductive CS where
 | bool
 | int (k:IntKind)
 | flt
 | str
 | slc (l:List CS)
section
variable (P:Program)
def shapesF (g:TypeId→Option (List CS)):List Field→Nat→Option (List CS)
 | [],_=>some []
 | f::fs,o=>if f.offset = o then do
   let s ← g f.type
   let r ← shapesF g fs (o + s.length)
   some (s++r)
  else none
def repC (s:List CS):Nat→List CS
 | 0=>[]
 | n + 1=>s++repC s n
def shapeD (g:TypeId→Option (List CS)):TypeDesc→Option (List CS)
 | .bool=>some [.bool]
 | .int k=>some [.int k]
 | .float .f64=>some [.flt]
 | .string=>some [.str]
 | .slice e=>(g e).bind fun s=>if s.length = 0 then none else some [.slc s]
 | .struct fs=>shapesF g fs.toList 0
 | .array m e=>(g e).bind fun s=>some (repC s m)
 | _=>none
def shapeOf:Nat→TypeId→Option (List CS)
 | 0,_=>none
 | n + 1,t=>(P.underlying t).bind fun d=>(shapeD (shapeOf n) d).bind fun sh=>if sh.length = P.cellsOf t then some sh else none
end
mutual
inductive Fit:CS→AS→Prop
 | bool (b:Bool):Fit .bool (.bool b)
 | int (k:IntKind) (n:Int):k.min ≤ n→n ≤ k.max→Fit (.int k) (.int k n)
 | flt (b:Nat):b < 2 ^ 64→Fit .flt (.flt b)
 | str (s:List UInt8):s.length ≤ maxLen→Fit .str (.str s)
 | nil (l:List CS):Fit (.slc l) .nilslc
 | slc (l:List CS) (n s:Nat) (cells:List AS):s = l.length→n ≤ maxLen→FitN l n cells→Fit (.slc l) (.vs n s cells)
inductive FitL:List CS→List AS→Prop
 | nil:FitL [] []
 | cons (c:CS) (a:AS) (cs:List CS) (l:List AS):Fit c a→FitL cs l→FitL (c::cs) (a::l)
inductive FitN:List CS→Nat→List AS→Prop
 | zero (s:List CS):FitN s 0 []
 | succ (s:List CS) (n:Nat) (a l:List AS):FitL s a→FitN s n l→FitN s (n + 1) (a++l)
end
theorem FitL.length:∀ {s:List CS} {l:List AS},FitL s l→l.length = s.length
 | _,_,.nil=>rfl
 | _,_,.cons _ _ _ _ _ h=>by simp [h.length]
theorem FitL.append:∀ {s t:List CS} {l m:List AS},FitL s l→FitL t m→FitL (s++t) (l++m)
 | _,_,_,_,.nil,h=>h
 | _,_,_,_,.cons _ _ _ _ h t,k=>.cons _ _ _ _ h (t.append k)
theorem FitN.length:∀ {s:List CS} {n:Nat} {l:List AS},FitN s n l→l.length = n * s.length
 | _,_,_,.zero _=>by simp
 | _,_,_,.succ s n a l h t=>by simp [h.length,t.length,Nat.succ_mul];omega
def start (w:World):Phi:=⟨fun _ _=>none,fun k=>k < w.heap.size,Go.undef⟩
theorem start_rel (w:World):Rel (start w) H.empty w:=by
 refine ⟨fun b k h=>(by cases h),fun b k v e h=>(by cases h),fun b k v e l b' k' v' e' l' h=>(by cases h),fun b v l h=>(by cases h),fun b k v l h=>(by cases h),fun k hk=>⟨hk, ?_⟩⟩
 rintro ⟨b,k,v,e,l,h,_⟩
 cases h
section
variable {P:Program} {w:World} {H':Type} {enc:TypeId × Value→H'} {sp:Nat→Bool} {held:Bool}
abbrev RL (w:World):=VRL (start w) (Nf (start w)) w
theorem cells_get {base:Nat} {a:Addr} {n:Nat} {cs:List Value} (h:w.cells? base a n = some cs):cs.length = n∧∀ i,i < n→∃ v,cs[i]? = some v∧w.cell? (a.add i) = some v:=by
 unfold World.cells? at h
 split at h
 ·have key:∀ (l:List Nat) (cs:List Value),l.mapM (fun i=>w.cell? (a.add i)) = some cs→cs.length = l.length∧∀ (j i:Nat),l[j]? = some i→∃ v,cs[j]? = some v∧w.cell? (a.add i) = some v:=by
   intro l
   induction l with
   | nil=>intro cs h;simp at h;subst h;simp
   | cons x l ih =>
    intro cs h
    simp only [List.mapM_cons,oqE,oqB,oqP,oqI] at h
    obtain ⟨v,hv,vs,hvs,rfl⟩:=h
    obtain ⟨h1,h2⟩:=ih vs hvs
    refine ⟨by simp [h1],fun j i hj=>?_⟩
    cases j with
    | zero=>simp only [List.getElem?_cons_zero,oqI] at hj;subst hj;exact ⟨v,rfl,hv⟩
    | succ j=>simpa using h2 j i (by simpa using hj)
  obtain ⟨h1,h2⟩:=key _ _ h
  refine ⟨by simpa using h1,fun i hi=>h2 i i (by simp [hi])⟩
 ·cases h
theorem cell_inv {a:Addr} {v:Value} (h:w.cell? a = some v):a.spot = none∧a.block < w.heap.size:=by
 unfold World.cell? at h
 split at h
 ·rename_i c e fz hc
  have hlt:=(Array.getElem?_eq_some_iff.1 hc).1
  refine ⟨?_,hlt⟩
  cases hs:a.spot with
  | none=>rfl
  | some s=>simp [hs] at h
 ·cases h
theorem add_eq {a:Addr} {x i:Nat} (h:((a.add x).add i).spot = none):(a.add x).add i = ⟨a.block,a.off + x + i,none⟩:=by
 obtain ⟨b,o,s⟩:=a
 unfold Addr.add at h ⊢
 split <;> split <;> simp_all <;> omega
theorem mapM_get {α β:Type} {f:α→Option β}:∀ {l:List α} {r:List β},l.mapM f = some r→r.length = l.length∧∀ (j:Nat) (x:α),l[j]? = some x→∃ y,r[j]? = some y∧f x = some y
 | [],r,h=>by simp at h;subst h;simp
 | x::l,r,h=>by
  simp only [List.mapM_cons,oqE,oqB,oqP,oqI] at h
  obtain ⟨v,hv,vs,hvs,rfl⟩:=h
  obtain ⟨h1,h2⟩:=mapM_get hvs
  refine ⟨by simp [h1],fun j y hj=>?_⟩
  cases j with
  | zero=>simp only [List.getElem?_cons_zero,oqI] at hj;subst hj;exact ⟨v,rfl,hv⟩
  | succ j=>simpa using h2 j y (by simpa using hj)
theorem trod_fit:∀ (n:Nat) (t:TypeId) (sh:List CS),shapeOf P n t = some sh→∀ (fuel:Nat) (cs:List Value) (d:DataW H') (ps:List MemPlace),DataW.trod enc P w 0 sp held fuel t cs = some (d,ps) →
  ∃ l,RL w l cs∧FitL sh l∧sh.length = P.cellsOf t:=by
 intro n
 induction n with
 | zero=>intro t sh h;simp [shapeOf] at h
 | succ n ih =>
  intro t sh h fuel cs d ps htr
  simp only [shapeOf,oqB] at h
  obtain ⟨desc,hu,sh',hsh,hlen⟩:=h
  split at hlen
  rotate_left
  ·cases hlen
  rename_i hlen'
  simp only [oqI] at hlen;subst hlen
  cases fuel with
  | zero=>simp [DataW.trod] at htr
  | succ fuel =>
   suffices hx:∃ l,RL w l cs∧FitL sh' l by
    obtain ⟨l,h1,h2⟩:=hx;exact ⟨l,h1,h2,hlen'⟩
   unfold DataW.trod at htr
   rw [hu] at htr
   ·cases desc <;> simp only [shapeD,reduceCtorEq] at hsh
    case bool =>
     simp only [oqI] at hsh;subst hsh
     split at htr <;> simp_all
     exact ⟨_,.cons _ _ _ _ (.bool _) .nil,.cons _ _ _ _ (.bool _) .nil⟩
    case int k =>
     simp only [oqI] at hsh;subst hsh
     split at htr <;> simp_all
     obtain ⟨⟨rfl,hwf⟩,_⟩:=htr
     simp only [Lit.wf,Bool.and_eq_true,decide_eq_true_eq] at hwf
     exact ⟨_,.cons _ _ _ _ (.int _ _) .nil,.cons _ _ _ _ (.int _ _ hwf.1 hwf.2) .nil⟩
    case float k =>
     cases k <;> simp only [shapeD,reduceCtorEq,oqI] at hsh
     subst hsh
     split at htr <;> simp_all
     obtain ⟨⟨rfl,hwf⟩,_⟩:=htr
     subst_vars
     simp only [Lit.wf,decide_eq_true_eq] at hwf
     exact ⟨_,.cons _ _ _ _ (.flt _) .nil,.cons _ _ _ _ (.flt _ hwf) .nil⟩
    case string =>
     simp only [oqI] at hsh;subst hsh
     split at htr <;> simp_all
     rename_i s
     refine ⟨[.str s.data.toList],.cons _ _ _ _ ?_ .nil,.cons _ _ _ _ (.str _ (by have:=htr.1;rwa [Array.length_toList])) .nil⟩
     have:=VR.str (φ:=start w) (O:=Nf (start w)) (w:=w) s.data.toList
     simpa using this
    case slice e =>
     simp only [oqB] at hsh
     obtain ⟨s,hs,hsh⟩:=hsh
     split at hsh
     ·cases hsh
     rename_i hs0
     simp only [oqI] at hsh;subst hsh
     split at htr <;> (try simp_all;done)
     ·-- nil
      exact ⟨_,.cons _ _ _ _ .nilslc .nil,.cons _ _ _ _ (.nil _) .nil⟩
     ·rename_i e' a len cap he
      simp only [oqI,TypeDesc.slice.injEq] at he;subst he
      split at htr
      rotate_left
      ·cases htr
      rename_i hb
      simp only [oqB] at htr
      obtain ⟨elems,helems,htr⟩:=htr
      clear htr
      obtain ⟨g1,g2⟩:=mapM_get helems
      have hel:∀ i,i < len→∃ cs' d' ps',w.cells? 0 (a.add (i * P.cellsOf e)) (P.cellsOf e) = some cs'∧DataW.trod enc P w 0 sp held fuel e cs' = some (d',ps'):=by
       intro i hi
       obtain ⟨y,_,hy⟩:=g2 i i (by simp [hi])
       simp only [oqB] at hy
       obtain ⟨cs',h1,h2⟩:=hy
       exact ⟨cs',y.1,y.2,h1,h2⟩
      clear helems g1 g2
      have hcells:∀ m,m ≤ len→∃ cells vs,RL w cells vs∧FitN s m cells∧∀ i v,vs[i]? = some v→w.cell? ⟨a.block,a.off + (len - m) * P.cellsOf e + i,none⟩ = some v:=by
       intro m
       induction m with
       | zero=>exact fun _=>⟨[],[],.nil,.zero _,by simp⟩
       | succ m ihm =>
        intro hm
        obtain ⟨cells,vs,q1,q2,q3⟩:=ihm (by omega)
        obtain ⟨cs',d',ps',h1,h2⟩:=hel (len - (m + 1)) (by omega)
        obtain ⟨l,r1,r2,r3⟩:=ih e s hs fuel cs' d' ps' h2
        obtain ⟨c1,c2⟩:=cells_get h1
        refine ⟨l++cells,cs'++vs,r1.append q1,.succ _ _ _ _ r2 q2,fun i v hi=>?_⟩
        rw [List.getElem?_append] at hi
        split at hi
        ·rename_i hlt
         obtain ⟨v',hv',hc⟩:=c2 i (by omega)
         rw [hi] at hv';cases hv'
         have hsp:=cell_inv hc
         rw [← hc,add_eq hsp.1]
        ·rename_i hge
         have:=q3 _ _ hi
         rw [← this]
         congr 2
         rw [c1] at hge ⊢
         have e1:(len - m) * P.cellsOf e = (len - (m + 1)) * P.cellsOf e + P.cellsOf e:=by
          rw [← Nat.succ_mul];congr 1;omega
         omega
      obtain ⟨cells,vs,q1,q2,q3⟩:=hcells len (Nat.le_refl _)
      have hse:0 < s.length:=by omega
      have hsp:0 < len→a.spot = none∧a.block < w.heap.size:=by
       intro hl
       obtain ⟨cs',d',ps',h1,h2⟩:=hel 0 hl
       obtain ⟨l,r1,r2,r3⟩:=ih e s hs fuel cs' d' ps' h2
       obtain ⟨c1,c2⟩:=cells_get h1
       obtain ⟨v',hv',hc⟩:=c2 0 (by omega)
       have:=cell_inv hc
       simpa [Addr.add] using this
      refine ⟨[.vs len s.length cells],.cons _ _ _ _ ?_ .nil,.cons _ _ _ _ (.slc _ _ _ _ rfl (by omega) q2) .nil⟩
      have ha:a = ⟨a.block,a.off,a.spot⟩:=rfl
      rw [ha]
      refine VR.vs _ _ _ _ _ _ _ vs hb.2.1 (.inl hse) q2.length (fun hl hn=>hn (hsp hl).2) (fun hl=>(hsp hl).2) (fun hl=>(hsp hl).1) q1 (fun i v hi=>?_)
      have:=q3 i v hi
      simpa using this
    case struct fs =>
     split at htr <;> (try simp_all;done)
     rename_i cs _ _ fs' he
     simp only [oqI,TypeDesc.struct.injEq] at he;subst he
     split at htr
     rotate_left
     ·cases htr
     rename_i hcl
     simp only [Option.map_eq_some_iff] at htr
     obtain ⟨xs,hxs,_⟩:=htr
     have key:∀ (l:List Field) (o:Nat) (r:List CS),shapesF (shapeOf P n) l o = some r→∀ xs,(l.mapM fun f=>DataW.trod enc P w 0 sp held fuel f.type ((cs.drop f.offset).take (P.cellsOf f.type))) = some xs→o + r.length ≤ cs.length →
       ∃ m,RL w m ((cs.drop o).take r.length)∧FitL r m:=by
      intro l
      induction l with
      | nil=>intro o r hr xs _ _;simp only [shapesF,oqI] at hr;subst hr;exact ⟨[],by simp;exact .nil,.nil⟩
      | cons f l ihl =>
       intro o r hr xs hxs hle
       simp only [shapesF] at hr
       split at hr
       rotate_left
       ·cases hr
       rename_i hof
       simp only [oqE,oqB,oqI] at hr
       obtain ⟨s,hs,r',hr',rfl⟩:=hr
       simp only [List.mapM_cons,oqE,oqB,oqP,oqI] at hxs
       obtain ⟨x,hx,xs',hxs',rfl⟩:=hxs
       obtain ⟨m1,a1,a2,a3⟩:=ih f.type s hs fuel _ x.1 x.2 hx
       simp only [List.length_append] at hle
       obtain ⟨m2,b1,b2⟩:=ihl (o + s.length) r' hr' xs' hxs' (by omega)
       refine ⟨m1++m2, ?_,a2.append b2⟩
       have:=a1.append b1
       rw [hof,← a3] at this
       have e:(cs.drop o).take (s++r').length = (cs.drop o).take s.length++(cs.drop (o + s.length)).take r'.length:=by
        rw [List.length_append,List.take_add,List.drop_drop]
       rw [e];exact this
     obtain ⟨m,h1,h2⟩:=key fs.toList 0 sh' hsh xs hxs (by omega)
     refine ⟨m, ?_,h2⟩
     simpa [hlen',← hcl] using h1
    case array m e =>
     simp only [oqB,oqI] at hsh
     obtain ⟨s,hs,rfl⟩:=hsh
     split at htr <;> (try simp_all;done)
     rename_i cs _ _ m' e' he
     simp only [oqI,TypeDesc.array.injEq] at he
     obtain ⟨rfl,rfl⟩:=he
     split at htr
     rotate_left
     ·cases htr
     rename_i hcl
     simp only [Option.map_eq_some_iff] at htr
     obtain ⟨xs,hxs,_⟩:=htr
     obtain ⟨_,g2⟩:=mapM_get hxs
     have hrl:∀ k,(repC s k).length = k * s.length:=by
      intro k;induction k with
      | zero=>simp [repC]
      | succ k ihk=>simp [repC,ihk,Nat.succ_mul];omega
     have hel:∀ i,i < m→∃ l,RL w l ((cs.drop (i * s.length)).take s.length)∧FitL s l:=by
      intro i hi
      obtain ⟨y,_,hy⟩:=g2 i i (by simp [hi])
      obtain ⟨l,a1,a2,a3⟩:=ih e s hs fuel _ y.1 y.2 hy
      rw [← a3] at a1
      exact ⟨l,a1,a2⟩
     have key:∀ k,k ≤ m→∃ l,RL w l ((cs.drop ((m - k) * s.length)).take (k * s.length))∧FitL (repC s k) l:=by
      intro k
      induction k with
      | zero=>exact fun _=>⟨[],by simp;exact .nil,.nil⟩
      | succ k ihk =>
       intro hk
       obtain ⟨l2,b1,b2⟩:=ihk (by omega)
       obtain ⟨l1,a1,a2⟩:=hel (m - (k + 1)) (by omega)
       refine ⟨l1++l2, ?_,a2.append b2⟩
       have:=a1.append b1
       have e1:(m - k) * s.length = (m - (k + 1)) * s.length + s.length:=by rw [← Nat.succ_mul];congr 1;omega
       rw [e1] at this
       have e2:(cs.drop ((m - (k + 1)) * s.length)).take ((k + 1) * s.length) = (cs.drop ((m - (k + 1)) * s.length)).take s.length++(cs.drop ((m - (k + 1)) * s.length + s.length)).take (k * s.length):=by
        rw [Nat.succ_mul,Nat.add_comm (k * s.length),List.take_add,List.drop_drop]
       rw [e2];exact this
     obtain ⟨l,h1,h2⟩:=key m (Nat.le_refl _)
     refine ⟨l, ?_,h2⟩
     rw [hrl] at hlen'
     simpa [hlen',← hcl] using h1
end
end Go.Ab
namespace Go.Ab
open Go.ChangeShapes Go.RowKit
def FitA (p:Bool × List CS) (a:AV):Prop:=if p.1 then ∃ l,a = .agg l∧FitL p.2 l else ∃ x c,p.2 = [c]∧a = .one x∧Fit c x
inductive FitAL:List (Bool × List CS)→List AV→Prop
 | nil:FitAL [] []
 | cons (p:Bool × List CS) (a:AV) (ps:List (Bool × List CS)) (xs:List AV):FitA p a→FitAL ps xs→FitAL (p::ps) (a::xs)
def paramShapes (P:Program) (n:Nat):List TypeId→Option (List (Bool × List CS))
 | []=>some []
 | t::ts=>do
  let g ← isAggT P t
  let s ← shapeOf P n t
  let r ← paramShapes P n ts
  some ((g,s)::r)
section
variable {P:Program} {w:World} {H':Type} {enc:TypeId × Value→H'} {sp:Nat→Bool} {held:Bool}
theorem trod_arg {n:Nat} {t:TypeId} {g:Bool} {sh:List CS} (hg:isAggT P t = some g) (hs:shapeOf P n t = some sh) {base:Nat} {v:Value} {d:DataW H'} {ps:List MemPlace} (h:DataW.Trod enc P w 0 sp held t v d ps) (hv:Value.okWide P w .any base t v) :
  ∃ a,AVR (start w) (Nf (start w)) w a v∧FitA (g,sh) a:=by
 obtain ⟨fuel,h⟩:=h
 obtain ⟨l,h1,h2,h3⟩:=trod_fit n t sh hs fuel _ d ps h
 simp only [isAggT,oqE,oqB] at hg
 obtain ⟨desc,hu,hg⟩:=hg
 unfold Value.okWide at hv
 rw [hu] at hv
 cases g with
 | true =>
  have hagg:∃ cs,v = .agg cs:=by
   cases desc <;> simp at hg
   ·obtain ⟨cs,h,_⟩:=hv;exact ⟨cs,h⟩
   ·obtain ⟨cs,h,_⟩:=hv;exact ⟨cs,h⟩
  obtain ⟨cs,rfl⟩:=hagg
  refine ⟨.agg l, ?_, ?_⟩
  ·have:=AVR.agg (φ:=start w) (O:=Nf (start w)) (w:=w) l cs.toList (by simpa [Value.cells] using h1)
   simpa using this
  ·show (if true = true then _ else _)
   rw [if_pos rfl];exact ⟨l,rfl,h2⟩
 | false =>
  have hone:∃ c,sh = [c]:=by
   cases n with
   | zero=>simp [shapeOf] at hs
   | succ n =>
    simp only [shapeOf,hu,oqS,oqB] at hs
    obtain ⟨s',hs',hl⟩:=hs
    split at hl
    ·simp only [oqI] at hl;subst hl
     cases desc <;> simp only [shapeD,reduceCtorEq,oqI,oqB] at hs' hg
     case bool=>exact ⟨_,hs'.symm⟩
     case int=>exact ⟨_,hs'.symm⟩
     case float k=>cases k <;> simp only [shapeD,reduceCtorEq,oqI] at hs';exact ⟨_,hs'.symm⟩
     case string=>exact ⟨_,hs'.symm⟩
     case slice e =>
      obtain ⟨s,_,hs'⟩:=hs'
      split at hs'
      ·cases hs'
      ·simp only [oqI] at hs';exact ⟨_,hs'.symm⟩
    ·cases hl
  obtain ⟨c,rfl⟩:=hone
  have hnagg:∀ cs,v ≠ .agg cs:=by
   rintro cs rfl
   cases desc <;> simp_all [Cell.okWide,Cell.ok]
  have hcells:v.cells.toList = [v]:=by
   cases v <;> first | rfl | exact absurd rfl (hnagg _)
  rw [hcells] at h1
  cases h2 with
  | cons _ x _ _ hx ht =>
   cases ht
   cases h1 with
   | cons _ _ _ _ hxv _ =>
    refine ⟨.one x,.one _ _ hxv, ?_⟩
    show (if false = true then _ else _)
    rw [if_neg (by simp)];exact ⟨x,c,rfl,rfl,hx⟩
theorem trod_args {n:Nat}:∀ {ts:List TypeId} {shs:List (Bool × List CS)},paramShapes P n ts = some shs→∀ {base:Nat} {vs:List Value} {ds:List (DataW H')} {ps:List MemPlace},DataW.TrodAll enc P w 0 sp held ts vs ds ps →
  (∀ (j:Nat) (t:TypeId) (v:Value),ts[j]? = some t→vs[j]? = some v→Value.okWide P w .any base t v)→∃ xs,AVL (start w) (Nf (start w)) w xs vs∧FitAL shs xs
 | [],shs,h,base,vs,ds,ps,ht,_=>by
  simp only [paramShapes,oqI] at h;subst h
  obtain ⟨rfl,rfl,rfl⟩:=trodAll_nil ht
  exact ⟨[],.nil,.nil⟩
 | t::ts,shs,h,base,vs,ds,ps,ht,hv=>by
  simp only [paramShapes,oqE,oqB,oqI] at h
  obtain ⟨g,hg,s,hs,r,hr,rfl⟩:=h
  obtain ⟨v,vs',d,ds',p,q,rfl,rfl,rfl,h1,h2⟩:=trodAll_cons ht
  obtain ⟨a,a1,a2⟩:=trod_arg hg hs h1 (hv 0 t v rfl rfl)
  obtain ⟨xs,b1,b2⟩:=trod_args hr h2 (fun j t' v' hj hj'=>hv (j + 1) t' v' (by simpa using hj) (by simpa using hj'))
  exact ⟨a::xs,.cons _ _ _ _ a1 b1,.cons _ _ _ _ a2 b2⟩
theorem trodAll_stays (hl:laidOutB P = true) {W W':World} {sp':Nat→Bool}:∀ {ts:List TypeId} {vs:List Value} {ds:List (DataW H')} {ps:List MemPlace},(∀ t ∈ ts,P.readableRec t = true∧t < P.types.size) →
  DataW.TrodAll enc P W 0 (fun _=>true) true ts vs ds ps→(∀ p ∈ ps,W.sameAt W' p)→(∀ p ∈ ps,sp' p.block = true)→DataW.TrodAll enc P W' 0 sp' true ts vs ds ps
 | [],vs,ds,ps,_,h,_,_=>by obtain ⟨rfl,rfl,rfl⟩:=trodAll_nil h;rfl
 | t::ts,vs,ds,ps,ht,h,h1,h2=>by
  obtain ⟨v,vs',d,ds',p,q,rfl,rfl,rfl,g1,g2⟩:=trodAll_cons h
  exact ⟨p,q,WideElems.Trod_stays hl (ht t (by simp)).1 (ht t (by simp)).2 g1 (fun x hx=>h1 x (by simp [hx])) (fun x hx=>h2 x (by simp [hx])),
   trodAll_stays hl (fun t' h'=>ht t' (by simp [h'])) g2 (fun x hx=>h1 x (by simp [hx])) (fun x hx=>h2 x (by simp [hx])),rfl⟩
end
theorem law_calls {C:Conf} (hW:CallsOk C.P (W C)) {f:Nat} {fn:Func} {c:Code} (hf:C.P.funcs[f]? = some fn) (hb:fn.body = some c) (hn:(fn.name == "runtime.NumGoroutine") = false) {xs:List AV} {args:List Value} {w:World}
  (ha:AVL (start w) (Nf (start w)) w xs args) (hlaw:∃ h',W C f xs H.empty = some (.ret (.one (.bool true)) h')):Calls C.P f args.toArray w fun e w'=>e = .returned (.bool true)∧Below w.heap.size w w':=by
 obtain ⟨h',hh⟩:=hlaw
 have hn':¬ fn.name = "runtime.NumGoroutine" := by simpa using hn
 rcases hW f xs H.empty _ hh (start w) w args (start_rel w) ha with ⟨cv,w',hr,_⟩ | ⟨_,hC⟩
 ·simp only [callFunc,Sem.run_bind,run_program,Result.andThen_ok,hf,hb,beq_iff_eq,hn',if_false,Option.isNone_some,oqF,Sem.run_pure] at hr
  cases hr
 ·refine Calls.mono hC ?_
  intro e w' he
  cases e with
  | returned cv =>
   obtain ⟨v,h1,φ',e1,R',G,hv⟩:=he
   cases e1
   have:=hv.one_inv.bool_inv
   subst this
   exact ⟨rfl,G.os,G.tape,G.output,G.size,fun k hk=>G.keepF k hk hk⟩
  | panicked ch =>
   obtain ⟨v,h1,φ',cv,e1,_⟩:=he
   cases e1
  | outgrown=>exact he.elim
structure LawSpec (s:ChangeSpec) (n:Nat):Prop where
 vars:s.vars = []
 fn:∀ (H:Type) (ds:List (DataW H)),ds.length = n→s.fn H ds = { results:=[.lit (.bool true)],args:=ds }
theorem law_lifted {Ck:Checked} {os:Os} {f:FuncId} {fn:Func} {s:ChangeSpec} {H':Type} {enc:TypeId × Value→H'} {a:Assume} (own:ownKnob Ck.prog.godebug = none) (started:os.Started) (noInit:Ck.prog.inits.idxOf? f = none)
  (hf:Ck.prog.funcs[f]? = some fn) (hl:laidOutB Ck.prog = true) {tb:TypeId} (hrt:fn.resultTypes = #[tb]) (hb:Ck.prog.underlying tb = some .bool) (hpr:∀ t ∈ fn.params.toList,Ck.prog.readableRec t = true∧t < Ck.prog.types.size)
  (hs:LawSpec s fn.params.size)
  (witness:∃ (w:World) (tape:Tape) (i:Input),w.os = os∧(w.forCall tape i).Shaped Ck.prog∧i.vars = []∧Input.okWide Ck.prog (w.forCall tape i) .any w.heap.size f i ∧
   s.pre6 enc Ck.prog fn [] false (w.forCall tape i).memory i.args∧a.holds Ck.prog (lone (Frame.enter Ck.prog f i.args .normal) [] (w.forCall tape i)))
  {n:Nat} {shs:List (Bool × List CS)} (hsh:paramShapes Ck.prog n fn.params.toList = some shs)
  (hlaw:∀ (w:World) (xs:List AV) (args:List Value),FitAL shs xs→AVL (start w) (Nf (start w)) w xs args→Calls Ck.prog f args.toArray w fun e w'=>e = .returned (.bool true)∧Below w.heap.size w w') :
  ReturnsInHanded a Ck os f .any (s.pre6 enc Ck.prog fn [] false) (s.post enc Ck.prog fn false true false false):=by
 refine returnsInHanded_of_change (C:=Ck) own started noInit hf witness ?_
 intro W base args ds gs before hval hW _ _
 have hW':=hW
 obtain ⟨p,q,hA,hV,rfl,hfz,hnd⟩:=hW
 have hv0:=hV
 rw [hs.vars] at hv0
 obtain ⟨rfl,rfl⟩:=trodVars_none hv0
 obtain ⟨xs,h1,h2⟩:=trod_args hsh hA (base:=base) (fun j t v hj hj'=>hval j t v (by simpa using hj) (by simpa using hj'))
 have hcall:=hlaw W xs args.toList h2 h1
 have hlen:∀ {ts:List TypeId} {vs:List Value} {ds:List (DataW H')} {ps:List MemPlace},DataW.TrodAll enc Ck.prog W 0 (fun _=>true) true ts vs ds ps→ds.length = ts.length:=by
  intro ts
  induction ts with
  | nil=>intro vs ds ps h;obtain ⟨rfl,rfl,rfl⟩:=trodAll_nil h;rfl
  | cons t ts ih =>
   intro vs ds ps h
   obtain ⟨v,vs',d,ds',p,q,rfl,rfl,rfl,g1,g2⟩:=trodAll_cons h
   simp [ih g2]
 have hfn:=hs.fn H' ds (by rw [hlen hA];simp)
 refine Calls.mono (by simpa using hcall) ?_
 rintro e W' ⟨rfl,hbel⟩
 refine ⟨_,rfl,ds,[],p++[],[],p,[],hW', ?_, ?_, ?_, ?_,fun h=>by cases h⟩
 ·rw [List.append_nil,hfn,hrt]
  exact trodAll_mk1 (by simpa [Value.resultList] using shut_bool hb true)
 ·rw [List.append_nil,hfn]
  exact trodAll_stays hl hpr hA (fun x hx=>hbel.same (hW'.lt x (by simp [hx]))) (fun x hx=>by simpa using hW'.lt x (by simp [hx]))
 ·rw [List.append_nil,hfn,hs.vars];rfl
 ·refine World.keptBut_mono (fun x hx=>⟨hx,.inr (.inl (by simpa using hx))⟩) (hbel.frame (· ∈ p++[]))
end Go.Ab
namespace Go.Ab
def okTB (P:Program):Bool:=(List.range P.types.size).all fun t=>match P.types[t]? with
 | some i=>(match i.zero with | some z=>Nat.beq z.cells.size i.size | none=>false) &&
   (match P.underlying t with | some (.struct fs)=>fs.toList.all fun f=>(P.info? f.type).isSome | _=>true)
 | none=>false
theorem okT_ok {P:Program} (h:okTB P = true):OkT P:=by
 have hall:∀ t,t < P.types.size→∃ i,P.types[t]? = some i∧(∃ z,i.zero = some z∧z.cells.size = i.size)∧∀ fs,P.underlying t = some (.struct fs)→∀ f ∈ fs.toList,(P.info? f.type).isSome = true:=by
  intro t ht
  have:=List.all_eq_true.1 h t (by simpa using ht)
  have hi:P.types[t]? = some P.types[t]:=by simp [ht]
  rw [hi] at this
  simp only [Bool.and_eq_true] at this
  refine ⟨_,hi, ?_,fun fs hfs=>?_⟩
  ·have h1:=this.1
   split at h1
   ·rename_i z hz;exact ⟨z,hz,by simpa using h1⟩
   ·cases h1
  ·have h2:=this.2
   rw [hfs] at h2
   exact List.all_eq_true.1 h2
 refine ⟨fun t i ht hi=>?_,fun t fs ht hfs=>?_⟩
 ·obtain ⟨i',h1,h2,_⟩:=hall t ht
  unfold Tables.info? at hi
  rw [if_pos ht,h1] at hi
  cases hi;exact h2
 ·obtain ⟨i',h1,_,h3⟩:=hall t ht
  exact h3 fs hfs
def okNB (P:Program):Bool:=P.funcs.toList.all fun fn=>fn.body.isNone || !(fn.name == "runtime.NumGoroutine")
theorem okN_ok {P:Program} (h:okNB P = true):∀ (f:Nat) (fn:Func),P.funcs[f]? = some fn→fn.body.isSome = true→(fn.name == "runtime.NumGoroutine") = false:=by
 intro f fn hf hb
 have hm:fn ∈ P.funcs.toList:=by
  have:P.funcs.toList[f]? = some fn:=by simpa using hf
  exact List.mem_of_getElem? this
 have:=List.all_eq_true.1 h fn hm
 cases hbb:fn.body with
 | none=>rw [hbb] at hb;cases hb
 | some c=>rw [hbb] at this;simpa using this
def OptQ (o:Out) (Q:Ex→Fr→H→Prop):Prop:=∃ x fr h,o = some (x,fr,h)∧Q x fr h
theorem OptQ_some (x:Ex) (fr:Fr) (h:H) (Q:Ex→Fr→H→Prop):OptQ (some (x,fr,h)) Q = Q x fr h:=by
 simp only [OptQ,oqI,oqM]
 apply propext
 constructor
 ·rintro ⟨_,_,_,⟨rfl,rfl,rfl⟩,hq⟩;exact hq
 ·exact fun hq=>⟨_,_,_,⟨rfl,rfl,rfl⟩,hq⟩
theorem OptQ.mono {o:Out} {Q Q':Ex→Fr→H→Prop} (h:OptQ o Q) (hq:∀ x fr h,Q x fr h→Q' x fr h):OptQ o Q':=by
 obtain ⟨x,fr,h',e,hx⟩:=h;exact ⟨x,fr,h',e,hq _ _ _ hx⟩
def Fork (t:Bool) (A B:Prop):Prop:=(t = true→A)∧(t = false→B)
theorem fork_true {A B:Prop}:Fork true A B = A:=by simp [Fork]
theorem fork_false {A B:Prop}:Fork false A B = B:=by simp [Fork]
def CondQ (o:Option AS) (A B:Prop):Prop:=∃ t,o = some (.bool t)∧Fork t A B
theorem condQ_some (t:Bool) (A B:Prop):CondQ (some (.bool t)) A B = Fork t A B:=by
 apply propext
 constructor
 ·rintro ⟨t',h,hf⟩;cases h;exact hf
 ·exact fun hf=>⟨t,rfl,hf⟩
section
variable {C:Conf} (hp:PrimOk C)
include hp
def Does (C:Conf) (c:Code) (fr:Fr) (h:H) (Q:Ex→Fr→H→Prop):Prop:=OptQ (X C c fr h) Q
def DoesO (C:Conf) (ops l:List Oper) (fr:Fr) (h:H) (Q:Ex→Fr→H→Prop):Prop:=OptQ (runOps C (W C) ops l fr h) Q
theorem does_seq {a b:Code} {fr:Fr} {h:H} {Q:Ex→Fr→H→Prop} (hq:Does C a fr h fun x fr' h'=>match x with | .normal=>Does C b fr' h' Q | x=>Q x fr' h'):Does C (.seq a b) fr h Q:=by
 unfold Does;rw [X_eq hp]
 obtain ⟨x,fr',h',e,hx⟩:=hq
 simp only [step,e,oqE,oqS]
 cases x with
 | normal=>exact hx
 | _=>exact ⟨_,_,_,rfl,hx⟩
theorem does_cond {c:Operand} {a b:Code} {fr:Fr} {h:H} {Q:Ex→Fr→H→Prop} {t:Bool} (hc:evS fr c = some (.bool t)) (hq:Does C (if t then a else b) fr h Q):Does C (.cond c a b) fr h Q:=by
 unfold Does;rw [X_eq hp]
 simp only [step,hc,oqE,oqS]
 exact hq
theorem does_cond' {c:Operand} {a b:Code} {fr:Fr} {h:H} {Q:Ex→Fr→H→Prop} (hq:CondQ (evS fr c) (Does C a fr h Q) (Does C b fr h Q)):Does C (.cond c a b) fr h Q:=by
 obtain ⟨t,h1,h2,h3⟩:=hq
 refine does_cond hp h1 ?_
 cases t
 ·exact h3 rfl
 ·exact h2 rfl
theorem does_block {id:Nat} {b:Code} {fr:Fr} {h:H} {Q:Ex→Fr→H→Prop} (hq:Does C b fr h fun x fr' h'=>match x with | .exit i=>if i = id then Q .normal fr' h' else Q (.exit i) fr' h' | x=>Q x fr' h'):Does C (.block id b) fr h Q:=by
 unfold Does;rw [X_eq hp]
 obtain ⟨x,fr',h',e,hx⟩:=hq
 simp only [step,e,oqE,oqS]
 cases x with
 | exit i =>
  simp only at hx ⊢
  split
  ·rename_i hi;rw [if_pos hi] at hx;exact ⟨_,_,_,rfl,hx⟩
  ·rename_i hi;rw [if_neg hi] at hx;exact ⟨_,_,_,rfl,hx⟩
 | _=>exact ⟨_,_,_,rfl,hx⟩
theorem does_loop {b:Code} (I:Nat→Fr→H→Prop) {Q:Ex→Fr→H→Prop} (hI:∀ n fr h,I n fr h→Does C b fr h fun x fr' h'=>match x with | .normal=>∃ m,m < n∧I m fr' h' | x=>Q x fr' h') :
  ∀ n fr h,I n fr h→Does C (.loop b) fr h Q:=by
 intro n
 induction n using Nat.strongRecOn with
 | _ n ih =>
  intro fr h hi
  unfold Does;rw [X_eq hp]
  obtain ⟨x,fr',h',e,hx⟩:=hI n fr h hi
  simp only [step,e,oqE,oqS]
  cases x with
  | normal=>obtain ⟨m,hm,hi'⟩:=hx;exact ih m hm fr' h' hi'
  | _=>exact ⟨_,_,_,rfl,hx⟩
def fin (C:Conf) (rs:List ResultVar) (r:CR) (x:Ex) (fr:Fr) (h:H):Prop :=
 match x with
 | .normal | .ret=>∃ v,resultA C fr h rs = some v∧r = .ret v h
 | .pan v=>r = .pan v h
 | .exit _=>False
theorem W_does {f:Nat} {fn:Func} {c:Code} (h1:C.prim f = none) (h2:C.ext f = none) (h3:C.frz f = false) (h4:C.P.funcs[f]? = some fn) (h5:fn.body = some c) {args:List AV} {h:H} {r:CR} (h6:args.length ≤ fn.ntmps)
  (hq:Does C c (args++List.replicate (fn.ntmps - args.length) .undef) h (fin C fn.results.toList r)):W C f args h = some r:=by
 rw [W_eq hp]
 unfold callF
 rw [h1,h2]
 obtain ⟨x,fr',h',e,hx⟩:=hq
 have h3':¬ C.frz f = true:=by rw [h3];simp
 simp only [h4,oqE,oqS,h5,if_neg (Nat.not_lt.2 h6),if_neg h3',e]
 cases x with
 | normal=>obtain ⟨v,hv,rfl⟩:=hx;simp [hv]
 | ret=>obtain ⟨v,hv,rfl⟩:=hx;simp [hv]
 | pan v=>have hx:r = .pan v h':=hx;rw [hx]
 | exit i=>exact hx.elim
end
section
variable {C:Conf} {ops l:List Oper} {fr:Fr} {h:H} {Q:Ex→Fr→H→Prop} {o:Oper}
theorem doesO_nil:DoesO C ops [] fr h Q = Q .normal fr h:=by simp only [DoesO,runOps,OptQ_some]
end
end Go.Ab
namespace Go.Ab
theorem bind_first {α β:Type} {x y:Option α} {f:α→Option β} (h:x = y):x.bind f = y.bind f:=by rw [h]
theorem get_zero (a:AV) (l:Fr):Fr.get (a::l) 0 = a:=rfl
theorem get_succ (a:AV) (l:Fr) (n:Nat):Fr.get (a::l) (n + 1) = Fr.get l n:=rfl
theorem get_set (fr:Fr) (i j:Nat) (v:AV):Fr.get (fr.set i v) j = if i = j∧j < fr.length then v else Fr.get fr j:=by
 have:=get_putF fr (some i) v j
 simpa [putF] using this
def Sees (h:H) (size:Nat) (s:AS) (cells:List AS):Prop :=
 match s with
 | .nilslc=>cells = []
 | .vs n s' q=>s' = size∧q = cells∧cells.length = n * size
 | .slc b v o n s' _=>s' = size∧readC h (.ptr b v o) (n * size) = some cells
 | _=>False
section
variable {h:H} {size:Nat} {s:AS} {cells:List AS} {n:Nat}
end
end Go.Ab
namespace Go.Ab
attribute [congr] bind_first
def onW (b:Option Bool) (A B:Prop):Prop:=(b = some true∧A) ∨ (b = some false∧B)
@[simp] theorem onW_true (A B:Prop):onW (some true) A B = A:=by simp [onW]
@[simp] theorem onW_false (A B:Prop):onW (some false) A B = B:=by simp [onW]
@[congr] theorem onW_congr {b c:Option Bool} {A B:Prop} (h:b = c):onW b A B = onW c A B:=by rw [h]
def onF (f:Option Fr) (K:Fr→Prop):Prop:=∃ fr,f = some fr∧K fr
@[simp] theorem onF_some (fr:Fr) (K:Fr→Prop):onF (some fr) K = K fr:=by simp [onF]
@[congr] theorem onF_congr {f g:Option Fr} {K:Fr→Prop} (h:f = g):onF f K = onF g K:=by rw [h]
def onR (r:Option RO) (K:AV→H→Prop) (Kp:AS→H→Prop):Prop:=(∃ v h,r = some (.ok v h)∧K v h) ∨ (∃ v h,r = some (.pan v h)∧Kp v h)
@[simp] theorem onR_ok (v:AV) (h:H) (K:AV→H→Prop) (Kp:AS→H→Prop):onR (some (.ok v h)) K Kp = K v h:=by
 apply propext;constructor
 ·rintro (⟨_,_,e,hk⟩ | ⟨_,_,e,_⟩)
  ·cases e;exact hk
  ·cases e
 ·exact fun hk=>.inl ⟨_,_,rfl,hk⟩
@[simp] theorem onR_pan (v:AS) (h:H) (K:AV→H→Prop) (Kp:AS→H→Prop):onR (some (.pan v h)) K Kp = Kp v h:=by
 apply propext;constructor
 ·rintro (⟨_,_,e,_⟩ | ⟨_,_,e,hk⟩)
  ·cases e
  ·cases e;exact hk
 ·exact fun hk=>.inr ⟨_,_,rfl,hk⟩
@[congr] theorem onR_congr {r s:Option RO} {K:AV→H→Prop} {Kp:AS→H→Prop} (h:r = s):onR r K Kp = onR s K Kp:=by rw [h]
@[congr] theorem condQ_congr {o p:Option AS} {A B:Prop} (h:o = p):CondQ o A B = CondQ p A B:=by rw [h]
@[congr] theorem fork_congr {s t:Bool} {A B:Prop} (h:s = t):Fork s A B = Fork t A B:=by rw [h]
@[congr] theorem does_congr {C:Conf} {c:Code} {fr fr':Fr} {h h':H} {Q:Ex→Fr→H→Prop} (h1:fr = fr') (h2:h = h'):Does C c fr h Q = Does C c fr' h' Q:=by rw [h1,h2]
@[congr] theorem doesO_congr {C:Conf} {ops l:List Oper} {fr fr':Fr} {h h':H} {Q:Ex→Fr→H→Prop} (h1:fr = fr') (h2:h = h'):DoesO C ops l fr h Q = DoesO C ops l fr' h' Q:=by rw [h1,h2]
@[congr] theorem opA_congr' {P P':Program} {cmp:Nat→Option (List AS)} {fr:Fr} {h:H} {o:Oper} (h1:P = P'):opA P cmp fr h o = opA P' cmp fr h o:=by rw [h1]
@[congr] theorem wantedA_congr' {fr fr':Fr} {ops:List Oper} {o:Oper} (h1:fr = fr'):wantedA fr ops o = wantedA fr' ops o:=by rw [h1]
attribute [simp] fork_true fork_false condQ_some get_zero get_succ get_set
def afterO (W:Calls'):OR→Option RO
 | .val v h=>some (.ok v h)
 | .skip h=>some (.ok .undef h)
 | .call f args h=>(W f args h).bind fun r=>match r with | .ret v h=>some (.ok v h) | .pan v h=>some (.pan v h)
 | .pan v h=>some (.pan v h)
@[simp] theorem afterO_val (W:Calls') (v:AV) (h:H):afterO W (.val v h) = some (.ok v h):=rfl
@[simp] theorem afterO_skip (W:Calls') (h:H):afterO W (.skip h) = some (.ok .undef h):=rfl
@[simp] theorem afterO_pan (W:Calls') (v:AS) (h:H):afterO W (.pan v h) = some (.pan v h):=rfl
def crO:CR→Option RO
 | .ret v h=>some (.ok v h)
 | .pan v h=>some (.pan v h)
@[simp] theorem crO_ret (v:AV) (h:H):crO (.ret v h) = some (.ok v h):=rfl
@[simp] theorem crO_pan (v:AS) (h:H):crO (.pan v h) = some (.pan v h):=rfl
@[simp] theorem afterO_call (W:Calls') (f:Nat) (args:List AV) (h:H):afterO W (.call f args h) = (W f args h).bind crO:=by
 simp only [afterO]
 cases W f args h with
 | none=>rfl
 | some r=>cases r <;> rfl
theorem runO_after (C:Conf) (W:Calls') (fr:Fr) (h:H) (o:Oper):runO C W fr h o = (opA C.P C.cmp fr h o).bind (afterO W):=by
 simp only [runO,oqE]
 cases opA C.P C.cmp fr h o with
 | none=>rfl
 | some r=>cases r <;> rfl
theorem doesO_nil' (C:Conf) (ops:List Oper) (fr:Fr) (h:H) (Q:Ex→Fr→H→Prop):DoesO C ops [] fr h Q = Q .normal fr h:=doesO_nil
theorem doesO_cons (C:Conf) (ops l:List Oper) (o:Oper) (fr:Fr) (h:H) (Q:Ex→Fr→H→Prop):DoesO C ops (o::l) fr h Q =
  onW (wantedA fr ops o) (onR ((opA C.P C.cmp fr h o).bind (afterO (W C))) (fun v h'=>onF (Fr.put fr o.dst v) fun fr'=>DoesO C ops l fr' h' Q) (fun v h'=>Q (.pan v) fr h'))
   (onF (Fr.put fr o.dst .undef) fun fr'=>DoesO C ops l fr' h Q):=by
 rw [← runO_after]
 unfold DoesO
 simp only [runOps,runOp,oqE]
 cases wantedA fr ops o with
 | none=>simp [OptQ,onW]
 | some b =>
  cases b with
  | true =>
   simp only [oqS,if_true,onW_true]
   cases runO C (W C) fr h o with
   | none=>simp [OptQ,onR]
   | some r =>
    cases r with
    | ok v h' =>
     simp only [oqS,onR_ok]
     cases Fr.put fr o.dst v with
     | none=>simp [OptQ,onF]
     | some fr'=>simp [onF]
    | pan v h'=>simp [OptQ_some]
  | false =>
   simp only [oqS,oqF,if_false,onW_false]
   cases Fr.put fr o.dst .undef with
   | none=>simp [OptQ,onF]
   | some fr'=>simp [onF]
section
variable (fr:Fr) (ops:List Oper) (dst:Option Nat) (op:Op) (ty:TypeId) (pos:String) (af:Array Edge)
@[simp] theorem wanted_none:wantedA fr ops ⟨dst,op,ty,pos,af,none⟩ = some true:=rfl
def guardO (v:AV) (want:Bool):Option Bool:=match v with | .one (.bool b)=>some (b == want) | .undef=>some false | _=>none
@[simp] theorem guardO_bool (b want:Bool):guardO (.one (.bool b)) want = some (b == want):=rfl
@[simp] theorem guardO_undef (want:Bool):guardO .undef want = some false:=rfl
@[simp] theorem wanted_some (j:Nat) (want:Bool):wantedA fr ops ⟨dst,op,ty,pos,af,some (j,want)⟩ = (ops[j]?).bind fun q=>q.dst.bind fun d=>guardO (Fr.get fr d) want:=by
 simp only [wantedA,oqE];rfl
@[simp] theorem put_none (v:AV):Fr.put fr none v = some fr:=rfl
@[simp] theorem put_some (d:Nat) (v:AV):Fr.put fr (some d) v = if d < fr.length then some (fr.set d v) else none:=rfl
@[simp] theorem ev_tmp (t:Nat):ev fr (.tmp t) = some (Fr.get fr t):=rfl
@[simp] theorem ev_const (v:Value):ev fr (.const v) = constV v:=rfl
@[simp] theorem ev_func (f:Nat):ev fr (.func f) = some (.one (.fn f [] [])):=rfl
def oneO:AV→Option AS | .one a=>some a | _=>none
@[simp] theorem oneO_one (a:AS):oneO (.one a) = some a:=rfl
@[simp] theorem evS_def (x:Operand):evS fr x = (ev fr x).bind oneO:=by
 simp only [evS,oqE]
 cases ev fr x with
 | none=>rfl
 | some v=>cases v <;> rfl
@[simp] theorem constV_bool (b:Bool):constV (.bool b) = some (.one (.bool b)):=rfl
@[simp] theorem constV_int (k:IntKind) (n:Int):constV (.int k n) = some (.one (.int k n)):=rfl
@[simp] theorem constV_float (n:Nat):constV (.float .f64 n) = some (.one (.flt n)):=rfl
@[simp] theorem constV_string (s:ByteArray):constV (.string s) = some (.one (.str s.data.toList)):=rfl
@[simp] theorem constV_nilptr:constV (.pointer none) = some (.one .nilptr):=rfl
@[simp] theorem constV_nilslc:constV (.slice none 0 0) = some (.one .nilslc):=rfl
@[simp] theorem constV_nilfn:constV .nilFunc = some (.one .nilfn):=rfl
@[simp] theorem constV_nilifc:constV .nilIface = some (.one .nilifc):=rfl
@[simp] theorem constV_agg (cs:Array Value):constV (.agg cs) = (constL cs.toList).bind fun l=>some (.agg l):=rfl
@[simp] theorem constL_nil:constL [] = some []:=rfl
@[simp] theorem constL_cons (v:Value) (l:List Value):constL (v::l) = (constS v).bind fun a=>(constL l).bind fun r=>some (a::r):=rfl
attribute [simp] constS
@[simp] theorem evL_nil:evL fr [] = some []:=rfl
@[simp] theorem evL_cons (x:Operand) (l:List Operand):evL fr (x::l) = (ev fr x).bind fun a=>(evL fr l).bind fun r=>some (a::r):=rfl
@[simp] theorem evSL_nil:evSL fr [] = some []:=rfl
@[simp] theorem evSL_cons (x:Operand) (l:List Operand):evSL fr (x::l) = ((ev fr x).bind oneO).bind fun a=>(evSL fr l).bind fun r=>some (a::r):=by
 simp only [evSL,evS_def,oqE]
@[simp] theorem evO_none:evO fr none = some none:=rfl
@[simp] theorem evO_some (x:Operand):evO fr (some x) = (ev fr x).bind fun v=>some (some v):=rfl
attribute [simp] AV.cells ofCells ones
end
section
variable (P:Program) (cmp:Nat→Option (List AS)) (fr:Fr) (h:H) (d:Option Nat) (ty:TypeId) (pos:String) (af:Array Edge) (g:Option (Nat × Bool))
@[simp] theorem sop_move (x:Operand):opA P cmp fr h ⟨d,.move x,ty,pos,af,g⟩ = (ev fr x).bind fun v=>some (.val v h):=rfl
@[simp] theorem sop_assign (x:Operand):opA P cmp fr h ⟨d,.assign x,ty,pos,af,g⟩ = (ev fr x).bind fun v=>some (.val v h):=rfl
def pickA (c:AS) (a b:Option AV) (h:H):Option OR:=match c with | .bool t=>(if t then a else b).bind fun v=>some (.val v h) | _=>none
@[simp] theorem pickA_true (a b:Option AV):pickA (.bool true) a b h = a.bind fun v=>some (.val v h):=rfl
@[simp] theorem pickA_false (a b:Option AV):pickA (.bool false) a b h = b.bind fun v=>some (.val v h):=rfl
@[simp] theorem pickA_and (t u:Bool):pickA (.bool t) (some (.one (.bool u))) (some (.one (.bool false))) h = some (.val (.one (.bool (t && u))) h):=by cases t <;> rfl
@[simp] theorem pickA_or (t u:Bool):pickA (.bool t) (some (.one (.bool true))) (some (.one (.bool u))) h = some (.val (.one (.bool (t || u))) h):=by cases t <;> rfl
@[simp] theorem sop_pick (c a b:Operand):opA P cmp fr h ⟨d,.pick c a b,ty,pos,af,g⟩ = (evS fr c).bind fun t=>pickA t (ev fr a) (ev fr b) h:=by
 simp only [opA,oqE];congr 1;funext t;cases t
 case bool b=>cases b <;> rfl
 all_goals rfl
@[simp] theorem sop_alloc (t:TypeId):opA P cmp fr h ⟨d,.alloc t,ty,pos,af,g⟩ = (zeroT P t).bind fun z=>some (one (.ptr h.next 0 0) (h.new (blkOf z true))):=rfl
@[simp] theorem sop_box (t:TypeId) (x:Operand):opA P cmp fr h ⟨d,.box t x,ty,pos,af,g⟩ = (ev fr x).bind fun v=>v.cells.bind fun l=>some (one (.ptr h.next 0 0) (h.new (blkOf l true))):=rfl
def buildA (t:TypeId) (ps:List (Nat × Operand)):Option OR :=
 (P.underlying t).bind fun u=>match u with
  | .struct fs=>if t < P.types.size then (zeroT P t).bind fun z=>(parts (fun i=>(fs[i]?).bind fun f=>(sizeT P f.type).bind fun s=>some (f.offset,s)) fr ps z).bind fun l=>some (.val (.agg l) h) else none
  | .array _ u=>(sizeT P u).bind fun size=>(zeroT P t).bind fun z=>(parts (fun i=>some (i * size,size)) fr ps z).bind fun l=>some (.val (.agg l) h)
  | _=>none
@[simp] theorem sop_build (t:TypeId) (ps:Array (Nat × Operand)):opA P cmp fr h ⟨d,.build t ps,ty,pos,af,g⟩ = buildA P fr h t ps.toList:=by
 simp only [opA,buildA,oqE]
 rfl
def buildSA (t:TypeId) (n:Nat) (ps:List (Nat × Operand)):Option OR :=
 (elemT P t).bind fun el=>(sizeT P el).bind fun size=>(zeroT P el).bind fun z=>if z.length = size∧0 < size∧n * size ≤ 16777216 then
  (parts (fun i=>some (i * size,size)) fr ps (repL z n)).bind fun l=>some (one (.slc h.next 0 0 n size none) (h.new (blkOf l true))) else none
@[simp] theorem sop_buildSlice (t:TypeId) (n:Nat) (ps:Array (Nat × Operand)):opA P cmp fr h ⟨d,.buildSlice t n ps,ty,pos,af,g⟩ = buildSA P fr h t n ps.toList:=rfl
@[simp] theorem sop_load (t:TypeId) (x:Operand):opA P cmp fr h ⟨d,.load t x,ty,pos,af,g⟩ = (evS fr x).bind fun p=>(sizeT P t).bind fun n=>(readC h p n).bind fun l=>(isAggT P t).bind fun a=>(ofCells a l).bind fun v=>some (.val v h):=rfl
@[simp] theorem sop_store (t:TypeId) (x y:Operand):opA P cmp fr h ⟨d,.store t x y,ty,pos,af,g⟩ = (ev fr y).bind fun v=>v.cells.bind fun l=>if sizeT P t = some l.length then (evS fr x).bind fun p=>(writeC h p l).bind fun h'=>some (.skip h') else none:=by
 simp only [opA,oqE]
def nilA (a:AS) (h:H):Option OR:=match a with | .ptr .. | .rp .. | .fn ..=>some (one a h) | _=>none
@[simp] theorem nilA_ptr (b v o:Nat):nilA (.ptr b v o) h = some (one (.ptr b v o) h):=rfl
@[simp] theorem nilA_rp (c:List AS) (o:Nat):nilA (.rp c o) h = some (one (.rp c o) h):=rfl
@[simp] theorem nilA_fn (f:Nat) (a b:List AS):nilA (.fn f a b) h = some (one (.fn f a b) h):=rfl
@[simp] theorem sop_nilCheck (x:Operand):opA P cmp fr h ⟨d,.nilCheck x,ty,pos,af,g⟩ = (evS fr x).bind fun a=>nilA a h:=by
 simp only [opA,oqE];congr 1
@[simp] theorem sop_binOp (op:BinOp) (t u:TypeId) (x y:Operand):opA P cmp fr h ⟨d,.binOp op t x y u,ty,pos,af,g⟩ = (ev fr x).bind fun a=>(ev fr y).bind fun b=>(bin P cmp op t a b).bind fun r=>some (one r h):=rfl
@[simp] theorem sop_unOp (op:UnOp) (t:TypeId) (x:Operand):opA P cmp fr h ⟨d,.unOp op t x,ty,pos,af,g⟩ = (ev fr x).bind fun a=>(un op a).bind fun r=>some (one r h):=rfl
@[simp] theorem sop_convert (s t:TypeId) (x:Operand):opA P cmp fr h ⟨d,.convert s t x,ty,pos,af,g⟩ = (evS fr x).bind fun a=>convA P s t a h:=rfl
@[simp] theorem sop_makeFunc (f:Nat) (a b:Array Operand):opA P cmp fr h ⟨d,.makeFunc (.func f) a b,ty,pos,af,g⟩ = (evSL fr a.toList).bind fun l=>(evSL fr b.toList).bind fun m=>some (one (.fn f l m) h):=rfl
@[simp] theorem sop_slice (t:TypeId) (x:Operand) (lo hi mx:Option Operand):opA P cmp fr h ⟨d,.slice t x lo hi mx,ty,pos,af,g⟩ = (evS fr x).bind fun a=>(sliceSize P t a).bind fun size=>if (mx.isSome && hi.isNone) = true then none else
  (evO fr lo).bind fun l=>(evO fr hi).bind fun u=>(evO fr mx).bind fun m=>(sliceA h size a l u m).bind fun s=>some (one s h):=rfl
def fieldAA (o:Nat) (a:AS) (h:H):Option OR:=match a with | .ptr b v q=>some (one (.ptr b v (q + o)) h) | .rp c q=>some (one (.rp c (q + o)) h) | _=>none
@[simp] theorem fieldAA_ptr (o b v q:Nat):fieldAA o (.ptr b v q) h = some (one (.ptr b v (q + o)) h):=rfl
@[simp] theorem fieldAA_rp (o q:Nat) (c:List AS):fieldAA o (.rp c q) h = some (one (.rp c (q + o)) h):=rfl
@[simp] theorem sop_fieldAddr (t:TypeId) (x:Operand) (f:Nat):opA P cmp fr h ⟨d,.fieldAddr t x f,ty,pos,af,g⟩ = (fieldT P t f).bind fun p=>(sizeT P p.2).bind fun n=>if n = 0 then none else (evS fr x).bind fun a=>fieldAA p.1 a h:=by
 simp only [opA,oqE];congr 1
def aggO:AV→Option (List AS) | .agg l=>some l | _=>none
@[simp] theorem aggO_agg (l:List AS):aggO (.agg l) = some l:=rfl
@[simp] theorem sop_field (t:TypeId) (x:Operand) (f:Nat):opA P cmp fr h ⟨d,.field t x f,ty,pos,af,g⟩ = (fieldT P t f).bind fun p=>(ev fr x).bind fun v=>(aggO v).bind fun l=>(sizeT P p.2).bind fun n=>(sub l p.1 n).bind fun q=>(isAggT P p.2).bind fun a=>(ofCells a q).bind fun v=>some (.val v h):=by
 simp only [opA,oqE];congr 1;funext p;congr 1;funext v;cases v <;> rfl
@[simp] theorem sop_indexAddr (t:TypeId) (x i:Operand):opA P cmp fr h ⟨d,.indexAddr t x i,ty,pos,af,g⟩ = (evS fr x).bind fun a=>(evS fr i).bind fun j=>(natOf j).bind fun n=>(indexA P t a n).bind fun p=>some (one p h):=rfl
def tupO:AV→Option (List (Bool × List AS)) | .tup l=>some l | _=>none
@[simp] theorem tupO_tup (l:List (Bool × List AS)):tupO (.tup l) = some l:=rfl
@[simp] theorem sop_extract (x:Operand) (i:Nat):opA P cmp fr h ⟨d,.extract x i,ty,pos,af,g⟩ = (ev fr x).bind fun v=>(tupO v).bind fun ps=>(ps[i]?).bind fun p=>(ofCells p.1 p.2).bind fun v=>some (.val v h):=by
 simp only [opA,oqE];congr 1;funext v;cases v <;> rfl
@[simp] theorem sop_callf (f:Nat) (args:Array Operand) (ts:Array TypeId):opA P cmp fr h ⟨d,.call ⟨.value (.func f),args,ts⟩,ty,pos,af,g⟩ = (evL fr args.toList).bind fun l=>some (.call f l h):=by
 simp [opA,callA,evS,ev]
def fnO:AS→Option (Nat × List AS × List AS) | .fn f a b=>some (f,a,b) | _=>none
@[simp] theorem fnO_fn (f:Nat) (a b:List AS):fnO (.fn f a b) = some (f,a,b):=rfl
@[simp] theorem sop_callt (t:Nat) (args:Array Operand) (ts:Array TypeId):opA P cmp fr h ⟨d,.call ⟨.value (.tmp t),args,ts⟩,ty,pos,af,g⟩ = (oneO (Fr.get fr t)).bind fun a=>(fnO a).bind fun q=>(evL fr args.toList).bind fun l=>some (.call q.1 (ones q.2.1++(l++ones q.2.2)) h):=by
 simp only [opA,callA,evS_def,ev_tmp,oqE,oqS];congr 1;funext a;cases a <;> rfl
@[simp] theorem sop_builtin (b:Builtin) (args:Array Operand) (ts:Array TypeId):opA P cmp fr h ⟨d,.call ⟨.builtin b,args,ts⟩,ty,pos,af,g⟩ = (evSL fr args.toList).bind fun l=>builtinA P b ts.toList l h:=rfl
def lenA (x:AS) (d:Option TypeDesc) (h:H):Option OR:=match x,d with
 | .str s,some .string=>some (one (.int .i64 s.length) h)
 | .str _,_=>none
 | x,some (.slice _)=>(lenS x).bind fun n=>some (one (.int .i64 n) h)
 | _,_=>none
@[simp] theorem builtin_len (t:TypeId) (x:AS):builtinA P .len [t] [x] h = lenA x (P.underlying t) h:=by
 simp only [builtinA,oqE,List.getElem?_cons_zero,oqS]
 cases hu:P.underlying t with
 | none=>cases x <;> simp [lenS,lenA]
 | some d=>cases x <;> cases d <;> simp [lenS,lenA]
@[simp] theorem lenA_str (s:List UInt8):lenA (.str s) (some .string) h = some (one (.int .i64 s.length) h):=rfl
@[simp] theorem lenA_nil (u:TypeId):lenA .nilslc (some (.slice u)) h = some (one (.int .i64 0) h):=rfl
@[simp] theorem lenA_slice (b v o n s:Nat) (c:Option Nat) (u:TypeId):lenA (.slc b v o n s c) (some (.slice u)) h = some (one (.int .i64 n) h):=rfl
@[simp] theorem lenA_vs (n s:Nat) (q:List AS) (u:TypeId):lenA (.vs n s q) (some (.slice u)) h = some (one (.int .i64 n) h):=rfl
@[simp] theorem builtin_append (t u:TypeId) (s x:AS):builtinA P .append [t,u] [s,x] h = (appendA P t u h s x).bind fun p=>some (one p.1 p.2):=rfl
@[simp] theorem builtin_copy (t u:TypeId) (s x:AS):builtinA P .copy [t,u] [s,x] h = (copyA P t h s x).bind fun p=>some (one p.1 p.2):=rfl
@[simp] theorem builtin_clear (t:TypeId) (x:AS):builtinA P .clear [t] [x] h = (clearA P t h x).bind fun h'=>some (.val (.tup []) h'):=rfl
@[simp] theorem builtin_max (ts:List TypeId) (a:AS) (l:List AS):builtinA P .max ts (a::l) h = (minmaxL true a l).bind fun r=>some (one r h):=by
 cases ts <;> rfl
@[simp] theorem builtin_min (ts:List TypeId) (a:AS) (l:List AS):builtinA P .min ts (a::l) h = (minmaxL false a l).bind fun r=>some (one r h):=by
 cases ts <;> rfl
attribute [simp] one minmaxL minmax
@[simp] theorem natOf_int (k:IntKind) (n:Int):natOf (.int k n) = if 0 ≤ n then some n.toNat else none:=rfl
@[simp] theorem sop_makeSlice (t:TypeId) (x y:Operand):opA P cmp fr h ⟨d,.makeSlice t x y,ty,pos,af,g⟩ = (elemT P t).bind fun el=>(sizeT P el).bind fun size=>(bytesT P el).bind fun bytes=>(zeroT P el).bind fun z=>(evS fr x).bind fun a=>(natOf a).bind fun n=>(evS fr y).bind fun b=>(natOf b).bind fun m =>
  if n ≤ m∧m * bytes + m ≤ limit∧z.length = size∧0 < size then some (one (.slc h.next 0 0 n size none) (h.new (blkOf (repL z m) true))) else none:=rfl
end
section
variable (P:Program) (cmp:Nat→Option (List AS)) (t:TypeId) (k:IntKind) (x y:Int) (s u:List UInt8) (a b:Nat)
@[simp] theorem bin_add:bin P cmp .add t (.one (.int k x)) (.one (.int k y)) = some (.int k (k.wrap (x + y))):=by simp [bin,binI]
@[simp] theorem bin_sub:bin P cmp .sub t (.one (.int k x)) (.one (.int k y)) = some (.int k (k.wrap (x - y))):=by simp [bin,binI]
@[simp] theorem bin_mul:bin P cmp .mul t (.one (.int k x)) (.one (.int k y)) = some (.int k (k.wrap (x * y))):=by simp [bin,binI]
@[simp] theorem bin_quo:bin P cmp .quo t (.one (.int k x)) (.one (.int k y)) = if y = 0 then none else some (.int k (k.wrap (x.tdiv y))):=by simp [bin,binI]
@[simp] theorem bin_rem:bin P cmp .rem t (.one (.int k x)) (.one (.int k y)) = if y = 0 then none else some (.int k (x.tmod y)):=by simp [bin,binI]
@[simp] theorem bin_eql:bin P cmp .eql t (.one (.int k x)) (.one (.int k y)) = some (.bool (x == y)):=by simp [bin,binI]
@[simp] theorem bin_neq:bin P cmp .neq t (.one (.int k x)) (.one (.int k y)) = some (.bool (x != y)):=by simp [bin,binI]
@[simp] theorem bin_lss:bin P cmp .lss t (.one (.int k x)) (.one (.int k y)) = some (.bool (decide (x < y))):=by simp [bin,binI]
@[simp] theorem bin_leq:bin P cmp .leq t (.one (.int k x)) (.one (.int k y)) = some (.bool (decide (x ≤ y))):=by simp [bin,binI]
@[simp] theorem bin_gtr:bin P cmp .gtr t (.one (.int k x)) (.one (.int k y)) = some (.bool (decide (y < x))):=by simp [bin,binI]
@[simp] theorem bin_geq:bin P cmp .geq t (.one (.int k x)) (.one (.int k y)) = some (.bool (decide (y ≤ x))):=by simp [bin,binI]
@[simp] theorem bin_and:bin P cmp .and t (.one (.int k x)) (.one (.int k y)) = some (.int k (andI k x y)):=by simp [bin,binI]
@[simp] theorem bin_or:bin P cmp .or t (.one (.int k x)) (.one (.int k y)) = some (.int k (orI k x y)):=by simp [bin,binI]
@[simp] theorem bin_xor:bin P cmp .xor t (.one (.int k x)) (.one (.int k y)) = some (.int k (xorI k x y)):=by simp [bin,binI]
@[simp] theorem bin_andNot:bin P cmp .andNot t (.one (.int k x)) (.one (.int k y)) = some (.int k (andNotI k x y)):=by simp [bin,binI]
@[simp] theorem bin_shl (k':IntKind):bin P cmp .shl t (.one (.int k x)) (.one (.int k' y)) = shiftI .shl k x y:=rfl
@[simp] theorem bin_shr (k':IntKind):bin P cmp .shr t (.one (.int k x)) (.one (.int k' y)) = shiftI .shr k x y:=rfl
@[simp] theorem bin_str (op:BinOp):bin P cmp op t (.one (.str s)) (.one (.str u)) = strOp op s u:=rfl
@[simp] theorem bin_flt (op:BinOp):bin P cmp op t (.one (.flt a)) (.one (.flt b)) = (match op with | .add | .sub | .mul=>farith op (.flt a) (.flt b) | _=>(fcmp op ((FloatKind.format .f64).order a b)).bind fun r=>some (.bool r)):=rfl
@[simp] theorem bin_nan_and:bin P cmp .and t (.one .nanb) (.one (.int .u64 9218868437227405312)) = some (.int .u64 9218868437227405312):=rfl
@[simp] theorem bin_nan_low:bin P cmp .and t (.one .nanb) (.one (.int .u64 4503599627370495)) = some .nanf:=rfl
@[simp] theorem bin_nanf:bin P cmp .neq t (.one .nanf) (.one (.int .u64 0)) = some (.bool true):=rfl
@[simp] theorem bin_nan_self:bin P cmp .neq t (.one .nan) (.one .nan) = some (.bool true):=rfl
@[simp] theorem bin_beq {P:Program} {t:TypeId} (cmp:Nat→Option (List AS)) (p q:Bool) (ht:P.underlying t = some .bool):bin P cmp .eql t (.one (.bool p)) (.one (.bool q)) = some (.bool (p == q)):=by simp [bin,ford,equalA,ht]
@[simp] theorem bin_bne {P:Program} {t:TypeId} (cmp:Nat→Option (List AS)) (p q:Bool) (ht:P.underlying t = some .bool):bin P cmp .neq t (.one (.bool p)) (.one (.bool q)) = some (.bool (p != q)):=by simp [bin,ford,equalA,ht,bne]
@[simp] theorem un_not (p:Bool):un .not (.one (.bool p)) = some (.bool (!p)):=rfl
@[simp] theorem un_neg:un .neg (.one (.int k x)) = some (.int k (k.wrap (0 - x))):=rfl
@[simp] theorem un_xor:un .xor (.one (.int k x)) = some (.int k (notI k x)):=rfl
@[simp] theorem un_negf:un .neg (.one (.flt a)) = some (.flt (Op.negFloat .f64 a)):=rfl
end
section
variable (C:Conf) (fr:Fr) (h:H) (r:CR)
def partO (v:AV):Option AV:=(partOf v).bind fun p=>ofCells p.1 p.2
@[simp] theorem partO_one (a:AS):partO (.one a) = some (.one a):=rfl
@[simp] theorem partO_agg (l:List AS):partO (.agg l) = some (.agg l):=rfl
def retQ (v:Option AV) (h:H) (r:CR):Prop:=∃ x,v = some x∧r = .ret x h
@[simp] theorem retQ_some (v:AV):retQ (some v) h r = (r = .ret v h):=by simp [retQ]
@[simp] theorem fin_normal (rs:List ResultVar):fin C rs r .normal fr h = retQ (resultA C fr h rs) h r:=rfl
@[simp] theorem fin_ret (rs:List ResultVar):fin C rs r .ret fr h = retQ (resultA C fr h rs) h r:=rfl
@[simp] theorem fin_pan (rs:List ResultVar) (v:AS):fin C rs r (.pan v) fr h = (r = .pan v h):=rfl
@[simp] theorem resVar_tmp (t:Nat):resVar C fr h (.tmp t) = some (Fr.get fr t):=rfl
@[simp] theorem resVar_cell (a t:Nat):resVar C fr h (.cell a t) = (oneO (Fr.get fr a)).bind fun p=>(sizeT C.P t).bind fun n=>(readC h p n).bind fun l=>(isAggT C.P t).bind fun g=>ofCells g l:=by
 simp only [resVar,oqE]
 cases Fr.get fr a <;> rfl
@[simp] theorem result_one (x:ResultVar):resultA C fr h [x] = (resVar C fr h x).bind partO:=by
 simp only [resultA,oqE];congr 1
@[simp] theorem result_nil:resultA C fr h [] = some (.tup []):=rfl
@[simp] theorem result_more (x y:ResultVar) (l:List ResultVar):resultA C fr h (x::y::l) = (resParts C fr h (x::y::l)).bind fun ps=>some (.tup ps):=rfl
@[simp] theorem resParts_nil:resParts C fr h [] = some []:=rfl
@[simp] theorem resParts_cons (x:ResultVar) (l:List ResultVar):resParts C fr h (x::l) = (resVar C fr h x).bind fun v=>(partOf v).bind fun p=>(resParts C fr h l).bind fun ps=>some (p::ps):=by
 simp only [resParts,oqE,Option.bind_assoc]
attribute [simp] partOf
end
end Go.Ab
namespace Go.Ab
def loose (P:Program) (ops:List Oper) (A:List Nat):List Nat→List (Nat × Nat)
 | []=>[]
 | i::l=>(l.filterMap fun j=>if (clsB P ops i == 1 && clsB P ops j == 2 || clsB P ops i == 2 && clsB P ops j == 1) && !isAnc A i j then some (i,j) else none)++loose P ops A l
where clsB (P:Program) (ops:List Oper) (i:Nat):Nat:=match ops[i]? with | some o=>(match clsOf P o with | .read=>1 | .eff=>2 | .make=>3 | .pure=>0) | none=>0
structure Log where
 effs:List (Nat × H × H)
 rds:List (Nat × Fr × AV)
def ghostE (h h':H) (E:List (Nat × H × H)):List (Nat × H × H):=E.map fun e=>(e.1,e.2.1,e.2.2.ghost h h')
@[simp] theorem ghostE_nil (h h':H):ghostE h h' [] = []:=rfl
@[simp] theorem ghostE_cons (h h':H) (e:Nat × H × H) (E:List (Nat × H × H)):ghostE h h' (e::E) = (e.1,e.2.1,e.2.2.ghost h h')::ghostE h h' E:=rfl
def DoesD (C:Conf) (ops:List Oper) (U:List (Nat × Nat)):List Nat→Fr→H→Log→(Ex→Fr→H→Prop)→Prop
 | [],fr,h,_,Q=>Q .normal fr h
 | i::l,fr,h,s,Q=>∃ o,ops[i]? = some o ∧
  onW (wantedA fr ops o)
   (match clsOf C.P o with
    | .eff=>onR ((opA C.P C.cmp fr h o).bind (afterO (W C))) (fun v h'=>(∀ r ∈ s.rds,(r.1,i) ∈ U→∃ q,ops[r.1]? = some q∧ask C r.2.1 q h' = some r.2.2) ∧
      onF (Fr.put fr o.dst v) fun fr'=>DoesD C ops U l fr' h' ⟨(i,h,h)::s.effs,s.rds⟩ Q) (fun _ _=>False)
    | .read=>∃ v,ask C fr o h = some v∧(∀ e ∈ s.effs,(e.1,i) ∈ U→ask C fr o e.2.1 = some v ∨ ask C fr o e.2.2 = some v)∧onF (Fr.put fr o.dst v) fun fr'=>DoesD C ops U l fr' h ⟨s.effs,(i,fr,v)::s.rds⟩ Q
    | _=>onR ((opA C.P C.cmp fr h o).bind (afterO (W C))) (fun v h'=>onF (Fr.put fr o.dst v) fun fr'=>DoesD C ops U l fr' h' ⟨ghostE h h' s.effs,s.rds⟩ Q) (fun _ _=>False))
   (onF (Fr.put fr o.dst .undef) fun fr'=>DoesD C ops U l fr' h s Q)
theorem onW_some {b:Option Bool} {A B:Prop} (h:onW b A B):(b = some true∧A) ∨ (b = some false∧B):=h
structure LogR (C:Conf) (ops:List Oper) (s:Log) (t:Seen):Prop where
 effs:t.effs = s.effs
 rds:∀ r ∈ t.rds,∃ fr v q,(r.1,fr,v) ∈ s.rds∧ops[r.1]? = some q∧r.2.1 = ask C fr q∧r.2.2 = v
section
variable {C:Conf} {ops:List Oper} {A:List Nat} {U:List (Nat × Nat)} {Q:Ex→Fr→H→Prop}
theorem doesD_ok:∀ (l:List Nat) (pre:List Nat) (fr:Fr) (h:H) (s:Log) (t:Seen),LogR C ops s t→(∀ r ∈ t.rds,r.1 ∈ pre∧loose.clsB C.P ops r.1 = 1)→(∀ e ∈ t.effs,e.1 ∈ pre∧loose.clsB C.P ops e.1 = 2) →
  (∀ i ∈ pre,∀ j ∈ l,loose.clsB C.P ops i = 1∧loose.clsB C.P ops j = 2 ∨ loose.clsB C.P ops i = 2∧loose.clsB C.P ops j = 1→isAnc A i j = true ∨ (i,j) ∈ U) →
  (∀ l1 i l2,l = l1++i::l2→∀ j ∈ l2,loose.clsB C.P ops i = 1∧loose.clsB C.P ops j = 2 ∨ loose.clsB C.P ops i = 2∧loose.clsB C.P ops j = 1→isAnc A i j = true ∨ (i,j) ∈ U) →
  DoesD C ops U l fr h s Q→OptQ (runD C (W C) ops A none l fr h t) Q
 | [],pre,fr,h,s,t,_,_,_,_,_,hd=>by
  simp only [DoesD] at hd
  simp only [runD]
  exact ⟨_,_,_,rfl,hd⟩
 | i::l,pre,fr,h,s,t,hL,hr,he,hp,hl,hd=>by
  simp only [DoesD] at hd
  obtain ⟨o,ho,hd⟩:=hd
  rw [runD]
  simp only [oqF,if_false,ho,oqE,oqS,Option.isSome_none]
  have hcls:∀ c,clsOf C.P o = c→loose.clsB C.P ops i = (match c with | .read=>1 | .eff=>2 | .make=>3 | .pure=>0):=by
   rintro c rfl;simp only [loose.clsB,ho]
  have hp':∀ k ∈ pre++[i],∀ j ∈ l,loose.clsB C.P ops k = 1∧loose.clsB C.P ops j = 2 ∨ loose.clsB C.P ops k = 2∧loose.clsB C.P ops j = 1→isAnc A k j = true ∨ (k,j) ∈ U:=by
   intro k hk j hj hc
   rcases List.mem_append.1 hk with hk | hk
   ·exact hp k hk j (by simp [hj]) hc
   ·simp at hk;subst hk
    exact hl [] k l rfl j hj hc
  have hl':∀ l1 k l2,l = l1++k::l2→∀ j ∈ l2,loose.clsB C.P ops k = 1∧loose.clsB C.P ops j = 2 ∨ loose.clsB C.P ops k = 2∧loose.clsB C.P ops j = 1→isAnc A k j = true ∨ (k,j) ∈ U:=by
   intro l1 k l2 e j hj hc
   exact hl (i::l1) k l2 (by simp [e]) j hj hc
  have hr':∀ r ∈ t.rds,r.1 ∈ pre++[i]∧loose.clsB C.P ops r.1 = 1:=fun r hx=>⟨by simp [(hr r hx).1],(hr r hx).2⟩
  have he':∀ e ∈ t.effs,e.1 ∈ pre++[i]∧loose.clsB C.P ops e.1 = 2:=fun r hx=>⟨by simp [(he r hx).1],(he r hx).2⟩
  rcases onW_some hd with ⟨hw,hd⟩ | ⟨hw,hd⟩
  ·simp only [hw,oqS,if_true]
   cases hc:clsOf C.P o with
   | eff =>
    rw [hc] at hd
    simp only at hd ⊢
    rw [← runO_after] at hd
    rcases hd with ⟨v,h',hro,hck,fr',hput,hd⟩ | ⟨_,_,_,hf⟩
    ·simp only [hro,oqS]
     have hall:∀ r ∈ t.rds,isAnc A r.1 i = true ∨ r.2.1 h' = some r.2.2:=by
      intro r hx
      rcases hp r.1 (hr r hx).1 i (by simp) (.inl ⟨(hr r hx).2,hcls _ hc⟩) with ha | ha
      ·exact .inl ha
      ·right
       obtain ⟨frx,vx,q,g1,g2,g3,g4⟩:=hL.rds r hx
       obtain ⟨q',g5,g6⟩:=hck _ g1 ha
       rw [g2] at g5;cases g5
       rw [g3,g4];exact g6
     rw [if_pos hall]
     simp only [hput,oqS]
     refine doesD_ok l (pre++[i]) fr' h' ⟨(i,h,h)::s.effs,s.rds⟩ _ ⟨by simp [hL.effs],fun r hx=>hL.rds r hx⟩ hr' ?_ hp' hl' hd
     intro e hx
     rcases List.mem_cons.1 hx with rfl | hx
     ·exact ⟨by simp,hcls _ hc⟩
     ·exact he' e hx
    ·exact hf.elim
   | read =>
    rw [hc] at hd
    simp only at hd ⊢
    obtain ⟨v,ha,hck,fr',hput,hd⟩:=hd
    simp only [ha,oqS]
    have hall:∀ e ∈ t.effs,isAnc A e.1 i = true ∨ ask C fr o e.2.1 = some v ∨ ask C fr o e.2.2 = some v:=by
     intro e hx
     rcases hp e.1 (he e hx).1 i (by simp) (.inr ⟨(he e hx).2,hcls _ hc⟩) with h2 | h2
     ·exact .inl h2
     ·right
      exact hck e (by rw [← hL.effs];exact hx) h2
    rw [if_pos hall]
    simp only [hput,oqS]
    refine doesD_ok l (pre++[i]) fr' h ⟨s.effs,(i,fr,v)::s.rds⟩ _ ⟨hL.effs,fun r hx=>?_⟩ ?_ he' hp' hl' hd
    ·rcases List.mem_cons.1 hx with rfl | hx
     ·exact ⟨fr,v,o,by simp,ho,rfl,rfl⟩
     ·obtain ⟨a,b,c,d,e⟩:=hL.rds r hx
      exact ⟨a,b,c,by simp [d],e⟩
    ·intro r hx
     rcases List.mem_cons.1 hx with rfl | hx
     ·exact ⟨by simp,hcls _ hc⟩
     ·exact hr' r hx
   | pure =>
    rw [hc] at hd
    simp only at hd ⊢
    rw [← runO_after] at hd
    rcases hd with ⟨v,h',hro,fr',hput,hd⟩ | ⟨_,_,_,hf⟩
    ·simp only [hro,oqS,hput]
     exact doesD_ok l (pre++[i]) fr' h' ⟨ghostE h h' s.effs,s.rds⟩ (t.ghost h h') ⟨by simp only [Seen.ghost,hL.effs,ghostE],hL.rds⟩ hr' (fun e hx=>by
      obtain ⟨e0,h0,rfl⟩:=List.mem_map.1 hx
      exact he' e0 h0) hp' hl' hd
    ·exact hf.elim
   | make =>
    rw [hc] at hd
    simp only at hd ⊢
    rw [← runO_after] at hd
    rcases hd with ⟨v,h',hro,fr',hput,hd⟩ | ⟨_,_,_,hf⟩
    ·simp only [hro,oqS,hput]
     exact doesD_ok l (pre++[i]) fr' h' ⟨ghostE h h' s.effs,s.rds⟩ (t.ghost h h') ⟨by simp only [Seen.ghost,hL.effs,ghostE],hL.rds⟩ hr' (fun e hx=>by
      obtain ⟨e0,h0,rfl⟩:=List.mem_map.1 hx
      exact he' e0 h0) hp' hl' hd
    ·exact hf.elim
  ·obtain ⟨fr',hput,hd⟩:=hd
   simp only [hw,oqS,oqF,if_false,hput]
   exact doesD_ok l (pre++[i]) fr' h s t hL hr' he' hp' hl' hd
theorem loose_spec (P:Program) (ops:List Oper) (A:List Nat):∀ (l:List Nat) (l1:List Nat) (i:Nat) (l2:List Nat),l = l1++i::l2→∀ j ∈ l2,loose.clsB P ops i = 1∧loose.clsB P ops j = 2 ∨ loose.clsB P ops i = 2∧loose.clsB P ops j = 1 →
  isAnc A i j = true ∨ (i,j) ∈ loose P ops A l
 | [],l1,i,l2,e,_,_,_=>by simp at e
 | k::l,[],i,l2,e,j,hj,hc=>by
  simp only [List.nil_append,List.cons.injEq] at e
  obtain ⟨rfl,rfl⟩:=e
  cases ha:isAnc A k j with
  | true=>exact .inl rfl
  | false =>
   right
   simp only [loose,List.mem_append,List.mem_filterMap]
   refine .inl ⟨j,hj, ?_⟩
   rcases hc with ⟨h1,h2⟩ | ⟨h1,h2⟩ <;> simp [h1,h2,ha]
 | k::l,x::l1,i,l2,e,j,hj,hc=>by
  simp only [List.cons_append,List.cons.injEq] at e
  obtain ⟨rfl,e⟩:=e
  rcases loose_spec P ops A l l1 i l2 e j hj hc with h | h
  ·exact .inl h
  ·right;simp only [loose,List.mem_append];exact .inr h
end
theorem does_draw {C:Conf} (hp:PrimOk C) {id:Nat} {l:List Oper} {fr:Fr} {h:H} {Q:Ex→Fr→H→Prop} (c:List Nat) (U:List (Nat × Nat))
  (hk:(okDraw C.P l && (canon C.P l == c) && (loose C.P l (ancs l []) (canon C.P l) == U)) = true) (hq:DoesD C l U c fr h ⟨[],[]⟩ Q):Does C (.region id l.toArray true) fr h Q:=by
 simp only [Bool.and_eq_true,beq_iff_eq] at hk
 obtain ⟨⟨h1,h2⟩,h3⟩:=hk
 unfold Does
 rw [X_eq hp]
 simp only [step,if_true]
 rw [if_pos h1,h2]
 subst h2
 refine doesD_ok (A:=ancs l []) (U:=U) _ [] fr h _ _ ⟨rfl,by simp⟩ (by simp) (by simp) (by simp) ?_ hq
 intro l1 i l2 e j hj hc
 have:=loose_spec C.P l (ancs l []) _ l1 i l2 e j hj hc
 rw [h3] at this
 exact this
def onO (o:Option Oper) (K:Oper→Prop):Prop:=∃ x,o = some x∧K x
@[simp] theorem onO_some (o:Oper) (K:Oper→Prop):onO (some o) K = K o:=by simp [onO]
@[congr] theorem onO_congr {a b:Option Oper} {K:Oper→Prop} (h:a = b):onO a K = onO b K:=by rw [h]
def onC (c:Cls) (E R O:Prop):Prop:=match c with | .eff=>E | .read=>R | _=>O
@[simp] theorem onC_eff (E R O:Prop):onC .eff E R O = E:=rfl
@[simp] theorem onC_read (E R O:Prop):onC .read E R O = R:=rfl
@[simp] theorem onC_pure (E R O:Prop):onC .pure E R O = O:=rfl
@[simp] theorem onC_make (E R O:Prop):onC .make E R O = O:=rfl
@[congr] theorem onC_congr {c d:Cls} {E R O:Prop} (h:c = d):onC c E R O = onC d E R O:=by rw [h]
def onA (v:Option AV) (K:AV→Prop):Prop:=∃ x,v = some x∧K x
@[simp] theorem onA_some (v:AV) (K:AV→Prop):onA (some v) K = K v:=by simp [onA]
@[congr] theorem onA_congr {a b:Option AV} {K:AV→Prop} (h:a = b):onA a K = onA b K:=by rw [h]
def valO:OR→Option AV | .val v _=>some v | _=>none
@[simp] theorem valO_val (v:AV) (h:H):valO (.val v h) = some v:=rfl
theorem ask_eq (C:Conf) (fr:Fr) (o:Oper) (h:H):ask C fr o h = (opA C.P C.cmp fr h o).bind valO:=by
 unfold ask
 cases opA C.P C.cmp fr h o with
 | none=>rfl
 | some r=>cases r <;> rfl
theorem doesD_cons (C:Conf) (ops:List Oper) (U:List (Nat × Nat)) (i:Nat) (l:List Nat) (fr:Fr) (h:H) (E:List (Nat × H × H)) (R:List (Nat × Fr × AV)) (Q:Ex→Fr→H→Prop):DoesD C ops U (i::l) fr h ⟨E,R⟩ Q =
  onO (ops[i]?) fun o=>onW (wantedA fr ops o)
   (onC (clsOf C.P o)
    (onR ((opA C.P C.cmp fr h o).bind (afterO (W C))) (fun v h'=>(∀ r ∈ R,(r.1,i) ∈ U→onO (ops[r.1]?) fun q=>(opA C.P C.cmp r.2.1 h' q).bind valO = some r.2.2) ∧
      onF (Fr.put fr o.dst v) fun fr'=>DoesD C ops U l fr' h' ⟨(i,h,h)::E,R⟩ Q) (fun _ _=>False))
    (onA ((opA C.P C.cmp fr h o).bind valO) fun v=>(∀ e ∈ E,(e.1,i) ∈ U→(opA C.P C.cmp fr e.2.1 o).bind valO = some v ∨ (opA C.P C.cmp fr e.2.2 o).bind valO = some v)∧onF (Fr.put fr o.dst v) fun fr'=>DoesD C ops U l fr' h ⟨E,(i,fr,v)::R⟩ Q)
    (onR ((opA C.P C.cmp fr h o).bind (afterO (W C))) (fun v h'=>onF (Fr.put fr o.dst v) fun fr'=>DoesD C ops U l fr' h' ⟨ghostE h h' E,R⟩ Q) (fun _ _=>False)))
   (onF (Fr.put fr o.dst .undef) fun fr'=>DoesD C ops U l fr' h ⟨E,R⟩ Q):=by
 simp only [DoesD,ask_eq]
 unfold onO
 congr 1
section
variable (P:Program) (d:Option Nat) (ty:TypeId) (pos:String) (af:Array Edge) (g:Option (Nat × Bool))
@[congr] theorem clsOf_congr {P P':Program} {o:Oper} (h:P = P'):clsOf P o = clsOf P' o:=by rw [h]
@[simp] theorem cls_move (x:Operand):clsOf P ⟨d,.move x,ty,pos,af,g⟩ = .pure:=rfl
@[simp] theorem cls_assign (x:Operand):clsOf P ⟨d,.assign x,ty,pos,af,g⟩ = .pure:=rfl
@[simp] theorem cls_pick (a b c:Operand):clsOf P ⟨d,.pick a b c,ty,pos,af,g⟩ = .pure:=rfl
@[simp] theorem cls_alloc (t:TypeId):clsOf P ⟨d,.alloc t,ty,pos,af,g⟩ = .make:=rfl
@[simp] theorem cls_box (t:TypeId) (x:Operand):clsOf P ⟨d,.box t x,ty,pos,af,g⟩ = .make:=rfl
@[simp] theorem cls_build (t:TypeId) (ps:Array (Nat × Operand)):clsOf P ⟨d,.build t ps,ty,pos,af,g⟩ = .pure:=rfl
@[simp] theorem cls_buildSlice (t:TypeId) (n:Nat) (ps:Array (Nat × Operand)):clsOf P ⟨d,.buildSlice t n ps,ty,pos,af,g⟩ = .make:=rfl
@[simp] theorem cls_load (t:TypeId) (x:Operand):clsOf P ⟨d,.load t x,ty,pos,af,g⟩ = .read:=rfl
@[simp] theorem cls_store (t:TypeId) (x y:Operand):clsOf P ⟨d,.store t x y,ty,pos,af,g⟩ = .eff:=rfl
@[simp] theorem cls_nilCheck (x:Operand):clsOf P ⟨d,.nilCheck x,ty,pos,af,g⟩ = .pure:=rfl
@[simp] theorem cls_binOp (op:BinOp) (t u:TypeId) (x y:Operand):clsOf P ⟨d,.binOp op t x y u,ty,pos,af,g⟩ = .pure:=rfl
@[simp] theorem cls_unOp (op:UnOp) (t:TypeId) (x:Operand):clsOf P ⟨d,.unOp op t x,ty,pos,af,g⟩ = .pure:=rfl
@[simp] theorem cls_convert (s t:TypeId) (x:Operand):clsOf P ⟨d,.convert s t x,ty,pos,af,g⟩ = (match P.underlying s,P.underlying t with | some (.slice _),some .string=>.read | some .string,some (.slice _)=>.make | some (.slice _),some (.slice _)=>.eff | _,_=>.pure):=rfl
@[simp] theorem cls_makeFunc (f:Fn) (a b:Array Operand):clsOf P ⟨d,.makeFunc f a b,ty,pos,af,g⟩ = .pure:=rfl
@[simp] theorem cls_makeSlice (t:TypeId) (x y:Operand):clsOf P ⟨d,.makeSlice t x y,ty,pos,af,g⟩ = .make:=rfl
@[simp] theorem cls_slice (t:TypeId) (x:Operand) (lo hi mx:Option Operand):clsOf P ⟨d,.slice t x lo hi mx,ty,pos,af,g⟩ = .read:=rfl
@[simp] theorem cls_fieldAddr (t:TypeId) (x:Operand) (f:Nat):clsOf P ⟨d,.fieldAddr t x f,ty,pos,af,g⟩ = .pure:=rfl
@[simp] theorem cls_field (t:TypeId) (x:Operand) (f:Nat):clsOf P ⟨d,.field t x f,ty,pos,af,g⟩ = .pure:=rfl
@[simp] theorem cls_indexAddr (t:TypeId) (x i:Operand):clsOf P ⟨d,.indexAddr t x i,ty,pos,af,g⟩ = .pure:=rfl
@[simp] theorem cls_index (t:TypeId) (x i:Operand):clsOf P ⟨d,.index t x i,ty,pos,af,g⟩ = .pure:=rfl
@[simp] theorem cls_extract (x:Operand) (i:Nat):clsOf P ⟨d,.extract x i,ty,pos,af,g⟩ = .pure:=rfl
@[simp] theorem cls_call (x:Operand) (args:Array Operand) (ts:Array TypeId):clsOf P ⟨d,.call ⟨.value x,args,ts⟩,ty,pos,af,g⟩ = .eff:=rfl
@[simp] theorem cls_len (args:Array Operand) (ts:Array TypeId):clsOf P ⟨d,.call ⟨.builtin .len,args,ts⟩,ty,pos,af,g⟩ = .pure:=rfl
@[simp] theorem cls_append (args:Array Operand) (ts:Array TypeId):clsOf P ⟨d,.call ⟨.builtin .append,args,ts⟩,ty,pos,af,g⟩ = .eff:=rfl
end
@[simp] theorem parts_nil (place:Nat→Option (Nat × Nat)) (fr:Fr) (z:List AS):parts place fr [] z = some z:=rfl
@[simp] theorem parts_cons (place:Nat→Option (Nat × Nat)) (fr:Fr) (i:Nat) (x:Operand) (l:List (Nat × Operand)) (z:List AS):parts place fr ((i,x)::l) z =
  (place i).bind fun p=>(ev fr x).bind fun v=>v.cells.bind fun c=>if c.length = p.2∧p.1 + p.2 ≤ z.length then parts place fr l (lay z p.1 c) else none:=rfl
attribute [simp] lay repL buildSA buildA
@[simp] theorem sub_none (l:List AS):sub l 0 0 = some []:=by simp [sub]
@[simp] theorem sub_here (a:AS) (l:List AS) (n:Nat):sub (a::l) 0 (n + 1) = (sub l 0 n).map (a::·):=by
 simp only [sub,Nat.zero_add,List.length_cons,List.drop_zero,List.take_succ_cons]
 by_cases h:n ≤ l.length
 ·rw [if_pos (by omega),if_pos h];rfl
 ·rw [if_neg (by omega),if_neg h];rfl
@[simp] theorem sub_there (a:AS) (l:List AS) (o n:Nat):sub (a::l) (o + 1) n = sub l o n:=by
 simp only [sub,List.length_cons,List.drop_succ_cons]
 by_cases h:o + n ≤ l.length
 ·rw [if_pos (by omega),if_pos h]
 ·rw [if_neg (by omega),if_neg h]
def finQ (C:Conf) (rs:List ResultVar) (K:CR→Prop) (x:Ex) (fr:Fr) (h:H):Prop :=
 match x with
 | .normal | .ret=>onA (resultA C fr h rs) fun v=>K (.ret v h)
 | .pan v=>K (.pan v h)
 | .exit _=>False
@[simp] theorem finQ_normal (C:Conf) (rs:List ResultVar) (K:CR→Prop) (fr:Fr) (h:H):finQ C rs K .normal fr h = onA (resultA C fr h rs) fun v=>K (.ret v h):=rfl
@[simp] theorem finQ_ret (C:Conf) (rs:List ResultVar) (K:CR→Prop) (fr:Fr) (h:H):finQ C rs K .ret fr h = onA (resultA C fr h rs) fun v=>K (.ret v h):=rfl
@[simp] theorem finQ_pan (C:Conf) (rs:List ResultVar) (K:CR→Prop) (fr:Fr) (h:H) (v:AS):finQ C rs K (.pan v) fr h = K (.pan v h):=rfl
theorem W_doesQ {C:Conf} (hp:PrimOk C) {f:Nat} {fn:Func} {c:Code} (h1:C.prim f = none) (h2:C.ext f = none) (h3:C.frz f = false) (h4:C.P.funcs[f]? = some fn) (h5:fn.body = some c) {args:List AV} {h:H} {K:CR→Prop} (h6:args.length ≤ fn.ntmps)
  (hq:Does C c (args++List.replicate (fn.ntmps - args.length) .undef) h (finQ C fn.results.toList K)):∃ r,W C f args h = some r∧K r:=by
 obtain ⟨x,fr',h',e,hx⟩:=hq
 cases x with
 | normal =>
  obtain ⟨v,hv,hk⟩:=hx
  exact ⟨_,W_does hp h1 h2 h3 h4 h5 h6 ⟨_,_,_,e,v,hv,rfl⟩,hk⟩
 | ret =>
  obtain ⟨v,hv,hk⟩:=hx
  exact ⟨_,W_does hp h1 h2 h3 h4 h5 h6 ⟨_,_,_,e,v,hv,rfl⟩,hk⟩
 | pan v=>exact ⟨_,W_does hp h1 h2 h3 h4 h5 h6 ⟨_,_,_,e,rfl⟩,hx⟩
 | exit i=>exact hx.elim
end Go.Ab
namespace Go.Ab
def jsOf (U:List (Nat × Nat)) (i:Nat):List Nat:=(U.filter fun p=>p.2 == i).map (·.1)
def keepOf (U:List (Nat × Nat)) (i:Nat):Bool:=U.any fun p=>p.1 == i
def mkE (U:List (Nat × Nat)) (i:Nat):Nat × List Nat × Bool:=(i,jsOf U i,keepOf U i)
def lookR:List (Nat × Fr × AV)→Nat→(Fr→AV→Prop)→Prop
 | [],_,_=>True
 | r::l,j,K=>if r.1 = j then K r.2.1 r.2.2 else lookR l j K
def lookE:List (Nat × H × H)→Nat→(H→H→Prop)→Prop
 | [],_,_=>True
 | e::l,j,K=>if e.1 = j then K e.2.1 e.2.2 else lookE l j K
def allJ:List Nat→(Nat→Prop)→Prop
 | [],_=>True
 | j::l,K=>K j∧allJ l K
theorem allJ_mem {K:Nat→Prop}:∀ {l:List Nat},allJ l K→∀ j ∈ l,K j
 | [],_,_,h=>by simp at h
 | a::l,h,j,hj=>by
  rcases List.mem_cons.1 hj with rfl | hj
  ·exact h.1
  ·exact allJ_mem h.2 j hj
def DoesE (C:Conf) (ops:List Oper):List (Nat × List Nat × Bool)→Fr→H→List (Nat × H × H)→List (Nat × Fr × AV)→(Ex→Fr→H→Prop)→Prop
 | [],fr,h,_,_,Q=>Q .normal fr h
 | p::l,fr,h,E,R,Q=>onO (ops[p.1]?) fun o=>onW (wantedA fr ops o)
   (onC (clsOf C.P o)
    (onR ((opA C.P C.cmp fr h o).bind (afterO (W C))) (fun v h'=>allJ p.2.1 (fun j=>lookR R j fun fr1 v1=>onO (ops[j]?) fun q=>(opA C.P C.cmp fr1 h' q).bind valO = some v1) ∧
      onF (Fr.put fr o.dst v) fun fr'=>DoesE C ops l fr' h' (if p.2.2 then (p.1,h,h)::E else E) R Q) (fun _ _=>False))
    (onA ((opA C.P C.cmp fr h o).bind valO) fun v=>allJ p.2.1 (fun j=>lookE E j fun h1 h2=>(opA C.P C.cmp fr h1 o).bind valO = some v ∨ (opA C.P C.cmp fr h2 o).bind valO = some v)∧onF (Fr.put fr o.dst v) fun fr'=>DoesE C ops l fr' h E (if p.2.2 then (p.1,fr,v)::R else R) Q)
    (onR ((opA C.P C.cmp fr h o).bind (afterO (W C))) (fun v h'=>onF (Fr.put fr o.dst v) fun fr'=>DoesE C ops l fr' h' (ghostE h h' E) R Q) (fun _ _=>False)))
   (onF (Fr.put fr o.dst .undef) fun fr'=>DoesE C ops l fr' h E R Q)
theorem lookE_ghost {h h':H} {j:Nat} {K:H→H→Prop}:∀ {E:List (Nat × H × H)},lookE (ghostE h h' E) j K→lookE E j fun a b=>K a (b.ghost h h')
 | [],_=>trivial
 | e::E,hl=>by
  simp only [ghostE_cons,lookE] at hl ⊢
  split at hl
  ·rename_i he;rw [if_pos he];exact hl
  ·rename_i he;rw [if_neg he];exact lookE_ghost hl
theorem onR_mono {r:Option RO} {K K':AV→H→Prop} {Kp Kp':AS→H→Prop} (h:onR r K Kp) (h1:∀ v h,K v h→K' v h) (h2:∀ v h,Kp v h→Kp' v h):onR r K' Kp':=by
 rcases h with ⟨v,h,e,k⟩ | ⟨v,h,e,k⟩
 ·exact .inl ⟨v,h,e,h1 v h k⟩
 ·exact .inr ⟨v,h,e,h2 v h k⟩
theorem onF_mono {f:Option Fr} {K K':Fr→Prop} (h:onF f K) (h1:∀ fr,K fr→K' fr):onF f K':=by
 obtain ⟨fr,e,k⟩:=h;exact ⟨fr,e,h1 fr k⟩
section
variable {C:Conf} {ops:List Oper} {U:List (Nat × Nat)} {Q:Ex→Fr→H→Prop}
theorem mem_js {j i:Nat} (h:(j,i) ∈ U):j ∈ jsOf U i∧keepOf U j = true:=by
 refine ⟨List.mem_map.2 ⟨(j,i),List.mem_filter.2 ⟨h,by simp⟩,rfl⟩,List.any_eq_true.2 ⟨(j,i),h,by simp⟩⟩
theorem doesE_ok:∀ (l:List Nat) (fr:Fr) (h:H) (E E':List (Nat × H × H)) (R R':List (Nat × Fr × AV)),l.Nodup→(∀ r ∈ R,r.1 ∉ l)→(∀ e ∈ E,e.1 ∉ l) →
  (∀ r ∈ R,keepOf U r.1 = true→∀ K,lookR R' r.1 K→K r.2.1 r.2.2)→(∀ e ∈ E,keepOf U e.1 = true→∀ K,lookE E' e.1 K→K e.2.1 e.2.2) →
  DoesE C ops (l.map (mkE U)) fr h E' R' Q→DoesD C ops U l fr h ⟨E,R⟩ Q
 | [],fr,h,E,E',R,R',_,_,_,_,_,hd=>hd
 | i::l,fr,h,E,E',R,R',hn,hr,he,hR,hE,hd=>by
  have hn2:=(List.nodup_cons.1 hn)
  have hr2:∀ r ∈ R,r.1 ∉ l:=fun r hx hm=>hr r hx (List.mem_cons_of_mem _ hm)
  have he2:∀ e ∈ E,e.1 ∉ l:=fun e hx hm=>he e hx (List.mem_cons_of_mem _ hm)
  have hri:∀ r ∈ R,r.1 ≠ i:=fun r hx e=>hr r hx (by rw [e];exact List.mem_cons_self)
  have hei:∀ r ∈ E,r.1 ≠ i:=fun r hx e=>he r hx (by rw [e];exact List.mem_cons_self)
  rw [doesD_cons]
  simp only [List.map_cons,DoesE,mkE] at hd
  obtain ⟨o,ho,hd⟩:=hd
  refine ⟨o,ho, ?_⟩
  rcases onW_some hd with ⟨hw,hd⟩ | ⟨hw,hd⟩
  ·refine .inl ⟨hw, ?_⟩
   cases hc:clsOf C.P o with
   | eff =>
    rw [hc] at hd
    simp only [onC_eff] at hd ⊢
    refine onR_mono hd (fun v h' ⟨hq,hf⟩=>⟨fun r hx hu=>?_,onF_mono hf fun fr' hf=>?_⟩) (fun _ _ h=>h)
    ·obtain ⟨m1,m2⟩:=mem_js hu
     exact hR r hx m2 _ (allJ_mem hq _ m1)
    ·refine doesE_ok l fr' h' _ _ R R' hn2.2 hr2 ?_ hR ?_ hf
     ·intro e hx
      rcases List.mem_cons.1 hx with rfl | hx
      ·exact hn2.1
      ·exact he2 e hx
     ·intro e hx hk K hl
      rcases List.mem_cons.1 hx with rfl | hx
      ·simp only at hk
       rw [hk] at hl
       simpa [lookE] using hl
      ·refine hE e hx hk K ?_
       cases hki:keepOf U i
       ·rw [hki] at hl;exact hl
       ·rw [hki] at hl
        simp only [if_true,lookE] at hl
        rwa [if_neg (Ne.symm (hei e hx))] at hl
   | read =>
    rw [hc] at hd
    simp only [onC_read] at hd ⊢
    obtain ⟨v,hv,hq,hf⟩:=hd
    refine ⟨v,hv,fun e hx hu=>?_,onF_mono hf fun fr' hf=>?_⟩
    ·obtain ⟨m1,m2⟩:=mem_js hu
     exact hE e hx m2 _ (allJ_mem hq _ m1)
    ·refine doesE_ok l fr' h E E' _ _ hn2.2 ?_ he2 ?_ hE hf
     ·intro e hx
      rcases List.mem_cons.1 hx with rfl | hx
      ·exact hn2.1
      ·exact hr2 e hx
     ·intro e hx hk K hl
      rcases List.mem_cons.1 hx with rfl | hx
      ·simp only at hk
       rw [hk] at hl
       simpa [lookR] using hl
      ·refine hR e hx hk K ?_
       cases hki:keepOf U i
       ·rw [hki] at hl;exact hl
       ·rw [hki] at hl
        simp only [if_true,lookR] at hl
        rwa [if_neg (Ne.symm (hri e hx))] at hl
   | pure =>
    rw [hc] at hd
    simp only [onC_pure] at hd ⊢
    exact onR_mono hd (fun v h' hf=>onF_mono hf fun fr' hf=>doesE_ok l fr' h' _ _ R R' hn2.2 hr2 (fun e hx=>by
     obtain ⟨e0,h0,rfl⟩:=List.mem_map.1 hx
     exact he2 e0 h0) hR (fun e hx hk K hl=>by
     obtain ⟨e0,h0,rfl⟩:=List.mem_map.1 hx
     exact hE e0 h0 hk _ (lookE_ghost hl)) hf) (fun _ _ h=>h)
   | make =>
    rw [hc] at hd
    simp only [onC_make] at hd ⊢
    exact onR_mono hd (fun v h' hf=>onF_mono hf fun fr' hf=>doesE_ok l fr' h' _ _ R R' hn2.2 hr2 (fun e hx=>by
     obtain ⟨e0,h0,rfl⟩:=List.mem_map.1 hx
     exact he2 e0 h0) hR (fun e hx hk K hl=>by
     obtain ⟨e0,h0,rfl⟩:=List.mem_map.1 hx
     exact hE e0 h0 hk _ (lookE_ghost hl)) hf) (fun _ _ h=>h)
  ·exact .inr ⟨hw,onF_mono hd fun fr' hf=>doesE_ok l fr' h E E' R R' hn2.2 hr2 he2 hR hE hf⟩
end
def nodupB:List Nat→Bool
 | []=>true
 | a::l=>!l.contains a && nodupB l
theorem nodupB_ok:∀ {l:List Nat},nodupB l = true→l.Nodup
 | [],_=>.nil
 | a::l,h=>by
  simp only [nodupB,Bool.and_eq_true,Bool.not_eq_true',List.contains_eq_mem,decide_eq_false_iff_not] at h
  exact List.nodup_cons.2 ⟨h.1,nodupB_ok h.2⟩
theorem doesE_cons (C:Conf) (ops:List Oper) (i:Nat) (js:List Nat) (kp:Bool) (l:List (Nat × List Nat × Bool)) (fr:Fr) (h:H) (E:List (Nat × H × H)) (R:List (Nat × Fr × AV)) (Q:Ex→Fr→H→Prop):DoesE C ops ((i,js,kp)::l) fr h E R Q =
  onO (ops[i]?) fun o=>onW (wantedA fr ops o)
   (onC (clsOf C.P o)
    (onR ((opA C.P C.cmp fr h o).bind (afterO (W C))) (fun v h'=>allJ js (fun j=>lookR R j fun fr1 v1=>onO (ops[j]?) fun q=>(opA C.P C.cmp fr1 h' q).bind valO = some v1) ∧
      onF (Fr.put fr o.dst v) fun fr'=>DoesE C ops l fr' h' (if kp then (i,h,h)::E else E) R Q) (fun _ _=>False))
    (onA ((opA C.P C.cmp fr h o).bind valO) fun v=>allJ js (fun j=>lookE E j fun h1 h2=>(opA C.P C.cmp fr h1 o).bind valO = some v ∨ (opA C.P C.cmp fr h2 o).bind valO = some v)∧onF (Fr.put fr o.dst v) fun fr'=>DoesE C ops l fr' h E (if kp then (i,fr,v)::R else R) Q)
    (onR ((opA C.P C.cmp fr h o).bind (afterO (W C))) (fun v h'=>onF (Fr.put fr o.dst v) fun fr'=>DoesE C ops l fr' h' (ghostE h h' E) R Q) (fun _ _=>False)))
   (onF (Fr.put fr o.dst .undef) fun fr'=>DoesE C ops l fr' h E R Q):=rfl
attribute [simp] allJ lookR lookE H.ghost_self
end Go.Ab
namespace Go.Ab
def seqQ (C:Conf) (b:Code) (Q:Ex→Fr→H→Prop) (x:Ex) (fr:Fr) (h:H):Prop:=match x with | .normal=>Does C b fr h Q | x=>Q x fr h
def blockQ (id:Nat) (Q:Ex→Fr→H→Prop) (x:Ex) (fr:Fr) (h:H):Prop:=match x with | .exit i=>if i = id then Q .normal fr h else Q (.exit i) fr h | x=>Q x fr h
@[simp] theorem seqQ_normal (C:Conf) (b:Code) (Q:Ex→Fr→H→Prop) (fr:Fr) (h:H):seqQ C b Q .normal fr h = Does C b fr h Q:=rfl
@[simp] theorem seqQ_exit (C:Conf) (b:Code) (Q:Ex→Fr→H→Prop) (i:Nat) (fr:Fr) (h:H):seqQ C b Q (.exit i) fr h = Q (.exit i) fr h:=rfl
@[simp] theorem seqQ_ret (C:Conf) (b:Code) (Q:Ex→Fr→H→Prop) (fr:Fr) (h:H):seqQ C b Q .ret fr h = Q .ret fr h:=rfl
@[simp] theorem seqQ_pan (C:Conf) (b:Code) (Q:Ex→Fr→H→Prop) (v:AS) (fr:Fr) (h:H):seqQ C b Q (.pan v) fr h = Q (.pan v) fr h:=rfl
@[simp] theorem blockQ_normal (id:Nat) (Q:Ex→Fr→H→Prop) (fr:Fr) (h:H):blockQ id Q .normal fr h = Q .normal fr h:=rfl
@[simp] theorem blockQ_exit (id:Nat) (Q:Ex→Fr→H→Prop) (i:Nat) (fr:Fr) (h:H):blockQ id Q (.exit i) fr h = if i = id then Q .normal fr h else Q (.exit i) fr h:=rfl
@[simp] theorem blockQ_ret (id:Nat) (Q:Ex→Fr→H→Prop) (fr:Fr) (h:H):blockQ id Q .ret fr h = Q .ret fr h:=rfl
@[simp] theorem blockQ_pan (id:Nat) (Q:Ex→Fr→H→Prop) (v:AS) (fr:Fr) (h:H):blockQ id Q (.pan v) fr h = Q (.pan v) fr h:=rfl
def stepK (C:Conf) (ops l:List Oper) (fr:Fr) (dst:Option Nat) (Q:Ex→Fr→H→Prop) (v:AV) (h:H):Prop:=onF (Fr.put fr dst v) fun fr'=>DoesO C ops l fr' h Q
def panK (fr:Fr) (Q:Ex→Fr→H→Prop) (v:AS) (h:H):Prop:=Q (.pan v) fr h
def stepF (C:Conf) (ops l:List Oper) (h:H) (Q:Ex→Fr→H→Prop) (fr:Fr):Prop:=DoesO C ops l fr h Q
@[simp] theorem stepF_eq (C:Conf) (ops l:List Oper) (h:H) (Q:Ex→Fr→H→Prop) (fr:Fr):stepF C ops l h Q fr = DoesO C ops l fr h Q:=rfl
@[simp] theorem stepK_eq (C:Conf) (ops l:List Oper) (fr:Fr) (dst:Option Nat) (Q:Ex→Fr→H→Prop) (v:AV) (h:H):stepK C ops l fr dst Q v h = onF (Fr.put fr dst v) (stepF C ops l h Q):=rfl
@[simp] theorem panK_eq (fr:Fr) (Q:Ex→Fr→H→Prop) (v:AS) (h:H):panK fr Q v h = Q (.pan v) fr h:=rfl
@[simp] theorem doesO_nil5 (C:Conf) (ops:List Oper) (fr:Fr) (h:H) (Q:Ex→Fr→H→Prop):DoesO C ops [] fr h Q = Q .normal fr h:=doesO_nil' C ops fr h Q
def wantK (C:Conf) (ops l:List Oper) (o:Oper) (fr:Fr) (h:H) (Q:Ex→Fr→H→Prop) (b:Option Bool):Prop :=
 onW b (onR ((opA C.P C.cmp fr h o).bind (afterO (W C))) (stepK C ops l fr o.dst Q) (panK fr Q)) (onF (Fr.put fr o.dst .undef) (stepF C ops l h Q))
@[simp] theorem wantK_true (C:Conf) (ops l:List Oper) (o:Oper) (fr:Fr) (h:H) (Q:Ex→Fr→H→Prop):wantK C ops l o fr h Q (some true) = onR ((opA C.P C.cmp fr h o).bind (afterO (W C))) (stepK C ops l fr o.dst Q) (panK fr Q):=by simp [wantK]
@[simp] theorem wantK_false (C:Conf) (ops l:List Oper) (o:Oper) (fr:Fr) (h:H) (Q:Ex→Fr→H→Prop):wantK C ops l o fr h Q (some false) = onF (Fr.put fr o.dst .undef) (stepF C ops l h Q):=by simp [wantK]
@[simp] theorem doesO_cons5 (C:Conf) (ops l:List Oper) (o:Oper) (fr:Fr) (h:H) (Q:Ex→Fr→H→Prop):DoesO C ops (o::l) fr h Q = wantK C ops l o fr h Q (wantedA fr ops o):=doesO_cons C ops l o fr h Q
theorem wS {C:Conf} {ops l:List Oper} {o:Oper} {fr:Fr} {h:H} {Q:Ex→Fr→H→Prop} {t:Bool} (h1:t = true→onR ((opA C.P C.cmp fr h o).bind (afterO (W C))) (stepK C ops l fr o.dst Q) (panK fr Q)) (h2:t = false→onF (Fr.put fr o.dst .undef) (stepF C ops l h Q)):wantK C ops l o fr h Q (some t):=by
 cases t
 ·simpa using h2 rfl
 ·simpa using h1 rfl
def condK (C:Conf) (a b:Code) (fr:Fr) (h:H) (Q:Ex→Fr→H→Prop) (c:Option AS):Prop:=CondQ c (Does C a fr h Q) (Does C b fr h Q)
@[simp] theorem condK_true (C:Conf) (a b:Code) (fr:Fr) (h:H) (Q:Ex→Fr→H→Prop):condK C a b fr h Q (some (.bool true)) = Does C a fr h Q:=by simp [condK]
@[simp] theorem condK_false (C:Conf) (a b:Code) (fr:Fr) (h:H) (Q:Ex→Fr→H→Prop):condK C a b fr h Q (some (.bool false)) = Does C b fr h Q:=by simp [condK]
theorem cF {C:Conf} {a b:Code} {fr:Fr} {h:H} {Q:Ex→Fr→H→Prop} {t:Bool} (h1:t = true→Does C a fr h Q) (h2:t = false→Does C b fr h Q):condK C a b fr h Q (some (.bool t)):=by
 cases t
 ·simpa using h2 rfl
 ·simpa using h1 rfl
@[congr] theorem seqQ_congr {C:Conf} {b:Code} {Q:Ex→Fr→H→Prop} {x y:Ex} {fr fr':Fr} {h h':H} (h0:x = y):seqQ C b Q x fr h = seqQ C b Q y fr h:=by rw [h0]
@[congr] theorem blockQ_congr {id:Nat} {Q:Ex→Fr→H→Prop} {x y:Ex} {fr:Fr} {h:H} (h0:x = y):blockQ id Q x fr h = blockQ id Q y fr h:=by rw [h0]
theorem stepK_id {C:Conf} {ops l:List Oper} {fr:Fr} {dst:Option Nat} {Q:Ex→Fr→H→Prop} {v:AV} {h:H}:stepK C ops l fr dst Q v h = stepK C ops l fr dst Q v h:=rfl
attribute [congr] stepK_id
section
variable {C:Conf} (hp:PrimOk C)
include hp
theorem does_seq5 (a b:Code) (fr:Fr) (h:H) (Q:Ex→Fr→H→Prop):Does C (.seq a b) fr h Q = Does C a fr h (seqQ C b Q):=by
 apply propext
 constructor
 ·intro hd
  unfold Does at hd ⊢
  rw [X_eq hp] at hd
  obtain ⟨x,fr',h',e,hq⟩:=hd
  simp only [step,oqE,oqB] at e
  obtain ⟨⟨x1,fr1,h1⟩,e1,e2⟩:=e
  refine ⟨x1,fr1,h1,e1, ?_⟩
  cases x1 with
  | normal=>exact ⟨x,fr',h',e2,hq⟩
  | exit i=>simp only [oqI,oqM] at e2;obtain ⟨rfl,rfl,rfl⟩:=e2;exact hq
  | ret=>simp only [oqI,oqM] at e2;obtain ⟨rfl,rfl,rfl⟩:=e2;exact hq
  | pan v=>simp only [oqI,oqM] at e2;obtain ⟨rfl,rfl,rfl⟩:=e2;exact hq
 ·intro hd
  refine does_seq hp ?_
  obtain ⟨x,fr',h',e,hq⟩:=hd
  refine ⟨x,fr',h',e, ?_⟩
  cases x <;> exact hq
theorem does_skip5 (fr:Fr) (h:H) (Q:Ex→Fr→H→Prop):Does C .skip fr h Q = Q .normal fr h:=by
 unfold Does;rw [X_eq hp];simp only [step,OptQ_some]
theorem does_exit5 (id:Nat) (fr:Fr) (h:H) (Q:Ex→Fr→H→Prop):Does C (.exit id) fr h Q = Q (.exit id) fr h:=by
 unfold Does;rw [X_eq hp];simp only [step,OptQ_some]
theorem does_ret5 (fr:Fr) (h:H) (Q:Ex→Fr→H→Prop):Does C .ret fr h Q = Q .ret fr h:=by
 unfold Does;rw [X_eq hp];simp only [step,OptQ_some]
theorem does_region5 (id:Nat) (l:List Oper) (fr:Fr) (h:H) (Q:Ex→Fr→H→Prop):Does C (.region id l.toArray false) fr h Q = DoesO C l l fr h Q:=by
 unfold Does;rw [X_eq hp];simp only [step,DoesO];rfl
theorem does_block5 (id:Nat) (b:Code) (fr:Fr) (h:H) (Q:Ex→Fr→H→Prop):Does C (.block id b) fr h Q = Does C b fr h (blockQ id Q):=by
 apply propext
 constructor
 ·intro hd
  unfold Does at hd ⊢
  rw [X_eq hp] at hd
  obtain ⟨x,fr',h',e,hq⟩:=hd
  simp only [step,oqE,oqB] at e
  obtain ⟨⟨x1,fr1,h1⟩,e1,e2⟩:=e
  refine ⟨x1,fr1,h1,e1, ?_⟩
  cases x1 with
  | exit i =>
   simp only [blockQ_exit] at e2 ⊢
   split at e2
   ·rename_i hi;rw [if_pos hi];simp only [oqI,oqM] at e2;obtain ⟨rfl,rfl,rfl⟩:=e2;exact hq
   ·rename_i hi;rw [if_neg hi];simp only [oqI,oqM] at e2;obtain ⟨rfl,rfl,rfl⟩:=e2;exact hq
  | normal=>simp only [oqI,oqM] at e2;obtain ⟨rfl,rfl,rfl⟩:=e2;exact hq
  | ret=>simp only [oqI,oqM] at e2;obtain ⟨rfl,rfl,rfl⟩:=e2;exact hq
  | pan v=>simp only [oqI,oqM] at e2;obtain ⟨rfl,rfl,rfl⟩:=e2;exact hq
 ·intro hd
  refine does_block hp ?_
  obtain ⟨x,fr',h',e,hq⟩:=hd
  refine ⟨x,fr',h',e, ?_⟩
  cases x <;> exact hq
theorem does_cond5 (c:Operand) (a b:Code) (fr:Fr) (h:H) (Q:Ex→Fr→H→Prop):Does C (.cond c a b) fr h Q = condK C a b fr h Q (evS fr c):=by
 apply propext
 constructor
 ·intro hd
  unfold Does at hd
  rw [X_eq hp] at hd
  obtain ⟨x,fr',h',e,hq⟩:=hd
  simp only [step,oqE,oqB] at e
  obtain ⟨t,e1,e2⟩:=e
  cases t with
  | bool t =>
   refine ⟨t,e1,fun ht=>?_,fun ht=>?_⟩
   ·subst ht;exact ⟨x,fr',h',e2,hq⟩
   ·subst ht;exact ⟨x,fr',h',e2,hq⟩
  | _=>cases e2
 ·exact fun hd=>does_cond' hp hd
end
theorem wN {C:Conf} {ops l:List Oper} {o:Oper} {fr:Fr} {h:H} {Q:Ex→Fr→H→Prop} {t:Bool} (h1:t = false→onR ((opA C.P C.cmp fr h o).bind (afterO (W C))) (stepK C ops l fr o.dst Q) (panK fr Q)) (h2:t = true→onF (Fr.put fr o.dst .undef) (stepF C ops l h Q)):wantK C ops l o fr h Q (some (!t)):=by
 cases t
 ·simpa using h1 rfl
 ·simpa using h2 rfl
@[simp] theorem condK_not (C:Conf) (a b:Code) (fr:Fr) (h:H) (Q:Ex→Fr→H→Prop) (t:Bool):condK C a b fr h Q (some (.bool (!t))) = condK C b a fr h Q (some (.bool t)):=by cases t <;> simp
attribute [simp] jsOf keepOf
def noK (v:AS) (h:H):Prop:=False
@[simp] theorem noK_eq (v:AS) (h:H):noK v h = False:=rfl
def DoesF (C:Conf) (ops:List Oper) (U:List (Nat × Nat)) (c:List Nat) (fr:Fr) (h:H) (E:List (Nat × H × H)) (R:List (Nat × Fr × AV)) (Q:Ex→Fr→H→Prop):Prop:=DoesE C ops (c.map (mkE U)) fr h E R Q
def stepG (C:Conf) (ops:List Oper) (U:List (Nat × Nat)) (c:List Nat) (h:H) (E:List (Nat × H × H)) (R:List (Nat × Fr × AV)) (Q:Ex→Fr→H→Prop) (fr:Fr):Prop:=DoesF C ops U c fr h E R Q
@[simp] theorem stepG_eq (C:Conf) (ops:List Oper) (U:List (Nat × Nat)) (c:List Nat) (h:H) (E:List (Nat × H × H)) (R:List (Nat × Fr × AV)) (Q:Ex→Fr→H→Prop) (fr:Fr):stepG C ops U c h E R Q fr = DoesF C ops U c fr h E R Q:=rfl
def againR (C:Conf) (ops:List Oper) (R:List (Nat × Fr × AV)) (h:H) (js:List Nat):Prop:=allJ js (fun j=>lookR R j fun fr1 v1=>onO (ops[j]?) fun q=>(opA C.P C.cmp fr1 h q).bind valO = some v1)
def againE (C:Conf) (o:Oper) (E:List (Nat × H × H)) (fr:Fr) (v:AV) (js:List Nat):Prop:=allJ js (fun j=>lookE E j fun h1 h2=>(opA C.P C.cmp fr h1 o).bind valO = some v ∨ (opA C.P C.cmp fr h2 o).bind valO = some v)
@[simp] theorem againR_nil (C:Conf) (ops:List Oper) (R:List (Nat × Fr × AV)) (h:H):againR C ops R h [] = True:=rfl
@[simp] theorem againE_nil (C:Conf) (o:Oper) (E:List (Nat × H × H)) (fr:Fr) (v:AV):againE C o E fr v [] = True:=rfl
@[simp] theorem againR_cons (C:Conf) (ops:List Oper) (R:List (Nat × Fr × AV)) (h:H) (j:Nat) (js:List Nat):againR C ops R h (j::js) = ((lookR R j fun fr1 v1=>onO (ops[j]?) fun q=>(opA C.P C.cmp fr1 h q).bind valO = some v1)∧againR C ops R h js):=rfl
@[simp] theorem againE_cons (C:Conf) (o:Oper) (E:List (Nat × H × H)) (fr:Fr) (v:AV) (j:Nat) (js:List Nat):againE C o E fr v (j::js) = ((lookE E j fun h1 h2=>(opA C.P C.cmp fr h1 o).bind valO = some v ∨ (opA C.P C.cmp fr h2 o).bind valO = some v)∧againE C o E fr v js):=rfl
def effK (C:Conf) (ops:List Oper) (U:List (Nat × Nat)) (i:Nat) (c:List Nat) (dst:Option Nat) (fr:Fr) (h0:H) (E:List (Nat × H × H)) (R:List (Nat × Fr × AV)) (Q:Ex→Fr→H→Prop) (v:AV) (h:H):Prop :=
 againR C ops R h (jsOf U i)∧onF (Fr.put fr dst v) (stepG C ops U c h (if keepOf U i then (i,h0,h0)::E else E) R Q)
def readK (C:Conf) (ops:List Oper) (U:List (Nat × Nat)) (i:Nat) (c:List Nat) (o:Oper) (fr:Fr) (h:H) (E:List (Nat × H × H)) (R:List (Nat × Fr × AV)) (Q:Ex→Fr→H→Prop) (v:AV):Prop :=
 againE C o E fr v (jsOf U i)∧onF (Fr.put fr o.dst v) (stepG C ops U c h E (if keepOf U i then (i,fr,v)::R else R) Q)
def pureK (C:Conf) (ops:List Oper) (U:List (Nat × Nat)) (c:List Nat) (dst:Option Nat) (fr:Fr) (h0:H) (E:List (Nat × H × H)) (R:List (Nat × Fr × AV)) (Q:Ex→Fr→H→Prop) (v:AV) (h:H):Prop:=onF (Fr.put fr dst v) (stepG C ops U c h (ghostE h0 h E) R Q)
@[simp] theorem effK_eq (C:Conf) (ops:List Oper) (U:List (Nat × Nat)) (i:Nat) (c:List Nat) (dst:Option Nat) (fr:Fr) (h0:H) (E:List (Nat × H × H)) (R:List (Nat × Fr × AV)) (Q:Ex→Fr→H→Prop) (v:AV) (h:H) :
  effK C ops U i c dst fr h0 E R Q v h = (againR C ops R h (jsOf U i)∧onF (Fr.put fr dst v) (stepG C ops U c h (if keepOf U i then (i,h0,h0)::E else E) R Q)):=rfl
@[simp] theorem readK_eq (C:Conf) (ops:List Oper) (U:List (Nat × Nat)) (i:Nat) (c:List Nat) (o:Oper) (fr:Fr) (h:H) (E:List (Nat × H × H)) (R:List (Nat × Fr × AV)) (Q:Ex→Fr→H→Prop) (v:AV) :
  readK C ops U i c o fr h E R Q v = (againE C o E fr v (jsOf U i)∧onF (Fr.put fr o.dst v) (stepG C ops U c h E (if keepOf U i then (i,fr,v)::R else R) Q)):=rfl
@[simp] theorem pureK_eq (C:Conf) (ops:List Oper) (U:List (Nat × Nat)) (c:List Nat) (dst:Option Nat) (fr:Fr) (h0:H) (E:List (Nat × H × H)) (R:List (Nat × Fr × AV)) (Q:Ex→Fr→H→Prop) (v:AV) (h:H) :
  pureK C ops U c dst fr h0 E R Q v h = onF (Fr.put fr dst v) (stepG C ops U c h (ghostE h0 h E) R Q):=rfl
def clsK (C:Conf) (ops:List Oper) (U:List (Nat × Nat)) (i:Nat) (c:List Nat) (o:Oper) (fr:Fr) (h:H) (E:List (Nat × H × H)) (R:List (Nat × Fr × AV)) (Q:Ex→Fr→H→Prop) (k:Cls):Prop :=
 onC k (onR ((opA C.P C.cmp fr h o).bind (afterO (W C))) (effK C ops U i c o.dst fr h E R Q) noK) (onA ((opA C.P C.cmp fr h o).bind valO) (readK C ops U i c o fr h E R Q)) (onR ((opA C.P C.cmp fr h o).bind (afterO (W C))) (pureK C ops U c o.dst fr h E R Q) noK)
def wantG (C:Conf) (ops:List Oper) (U:List (Nat × Nat)) (i:Nat) (c:List Nat) (o:Oper) (fr:Fr) (h:H) (E:List (Nat × H × H)) (R:List (Nat × Fr × AV)) (Q:Ex→Fr→H→Prop) (b:Option Bool):Prop :=
 onW b (clsK C ops U i c o fr h E R Q (clsOf C.P o)) (onF (Fr.put fr o.dst .undef) (stepG C ops U c h E R Q))
def opG (C:Conf) (ops:List Oper) (U:List (Nat × Nat)) (i:Nat) (c:List Nat) (fr:Fr) (h:H) (E:List (Nat × H × H)) (R:List (Nat × Fr × AV)) (Q:Ex→Fr→H→Prop) (o:Option Oper):Prop :=
 onO o fun o=>wantG C ops U i c o fr h E R Q (wantedA fr ops o)
section
variable (C:Conf) (ops:List Oper) (U:List (Nat × Nat)) (i:Nat) (c:List Nat) (o:Oper) (fr:Fr) (h:H) (E:List (Nat × H × H)) (R:List (Nat × Fr × AV)) (Q:Ex→Fr→H→Prop)
@[simp] theorem clsK_eff:clsK C ops U i c o fr h E R Q .eff = onR ((opA C.P C.cmp fr h o).bind (afterO (W C))) (effK C ops U i c o.dst fr h E R Q) noK:=by simp [clsK]
@[simp] theorem clsK_read:clsK C ops U i c o fr h E R Q .read = onA ((opA C.P C.cmp fr h o).bind valO) (readK C ops U i c o fr h E R Q):=by simp [clsK]
@[simp] theorem clsK_pure:clsK C ops U i c o fr h E R Q .pure = onR ((opA C.P C.cmp fr h o).bind (afterO (W C))) (pureK C ops U c o.dst fr h E R Q) noK:=by simp [clsK]
@[simp] theorem clsK_make:clsK C ops U i c o fr h E R Q .make = onR ((opA C.P C.cmp fr h o).bind (afterO (W C))) (pureK C ops U c o.dst fr h E R Q) noK:=by simp [clsK]
@[simp] theorem wantG_true:wantG C ops U i c o fr h E R Q (some true) = clsK C ops U i c o fr h E R Q (clsOf C.P o):=by simp [wantG]
@[simp] theorem wantG_false:wantG C ops U i c o fr h E R Q (some false) = onF (Fr.put fr o.dst .undef) (stepG C ops U c h E R Q):=by simp [wantG]
@[simp] theorem opG_some:opG C ops U i c fr h E R Q (some o) = wantG C ops U i c o fr h E R Q (wantedA fr ops o):=by simp [opG]
@[simp] theorem doesF_nil:DoesF C ops U [] fr h E R Q = Q .normal fr h:=rfl
@[simp] theorem doesF_cons:DoesF C ops U (i::c) fr h E R Q = opG C ops U i c fr h E R Q (ops[i]?):=by
 simp only [DoesF,List.map_cons,mkE,doesE_cons,opG,wantG,clsK]
 rfl
end
theorem doesF_gen {C:Conf} (hp:PrimOk C) {id:Nat} {l:List Oper} {fr:Fr} {h:H} {Q:Ex→Fr→H→Prop} (c:List Nat) (U:List (Nat × Nat)) (hq:DoesF C l U c fr h [] [] Q)
  (hk:(okDraw C.P l && (canon C.P l == c) && (loose C.P l (ancs l []) (canon C.P l) == U) && nodupB c) = true:=by kernel_rfl):Does C (.region id l.toArray true) fr h Q:=by
 rw [Bool.and_eq_true] at hk
 exact does_draw hp c U hk.1 (doesE_ok c fr h [] [] [] [] (nodupB_ok hk.2) (by simp) (by simp) (by simp) (by simp) hq)
theorem hide {C:Conf} {c:Code} {fr:Fr} {h:H} {Q:Ex→Fr→H→Prop} (hd:∀ Q':Ex→Fr→H→Prop,(∀ x fr h,Q x fr h→Q' x fr h)→Does C c fr h Q'):Does C c fr h Q:=hd Q fun _ _ _ h=>h
theorem hadQ {Q Q':Ex→Fr→H→Prop} {x:Ex} {fr:Fr} {h:H} (hQ:∀ x fr h,Q x fr h→Q' x fr h) (hq:Q x fr h):Q' x fr h:=hQ _ _ _ hq
theorem hideS {C:Conf} {b:Code} {x:Ex} {fr:Fr} {h:H} {Q:Ex→Fr→H→Prop} (hd:∀ Q':Ex→Fr→H→Prop,(∀ x fr h,Q x fr h→Q' x fr h)→seqQ C b Q' x fr h):seqQ C b Q x fr h:=hd Q fun _ _ _ h=>h
theorem hideB {id:Nat} {x:Ex} {fr:Fr} {h:H} {Q:Ex→Fr→H→Prop} (hd:∀ Q':Ex→Fr→H→Prop,(∀ x fr h,Q x fr h→Q' x fr h)→blockQ id Q' x fr h):blockQ id Q x fr h:=hd Q fun _ _ _ h=>h
end Go.Ab
namespace Go.Ab
def Owns (h:H) (size:Nat) (s:AS) (cells:List AS):Prop :=
 match s with
 | .nilslc=>cells = []
 | .slc b v o n s' c=>o = 0∧s' = size∧c = none∧cells.length = n * size∧b < h.next∧∃ B,h.f b = some B∧B.ver = v∧B.ext v = some cells.length∧B.cells = cells
 | _=>False
def ownB:AS→Option Nat
 | .slc b _ _ _ _ _=>some b
 | _=>none
theorem Owns.sees {h:H} {size:Nat} {s:AS} {cells:List AS} (ho:Owns h size s cells):Sees h size s cells:=by
 cases s <;> simp only [Owns] at ho
 ·exact ho
 ·rename_i b v o n s' c
  obtain ⟨rfl,rfl,rfl,hl,_,B,h1,h2,h3,h4⟩:=ho
  refine ⟨rfl, ?_⟩
  simp only [readC,h1,h3,oqE,oqS,Nat.zero_add]
  rw [if_pos (by omega)]
  unfold sub
  rw [h4,if_pos (by omega),List.drop_zero,← hl,List.take_length]
theorem Owns.keep {h h':H} {size:Nat} {s:AS} {cells:List AS} (ho:Owns h size s cells) (hn:h.next ≤ h'.next) (hf:∀ b,ownB s = some b→h'.f b = h.f b):Owns h' size s cells:=by
 cases s <;> simp only [Owns] at ho ⊢
 ·exact ho
 ·rename_i b v o n s' c
  obtain ⟨h1,h2,h3,h4,h5,B,h6,h7⟩:=ho
  exact ⟨h1,h2,h3,h4,by omega,B,by rw [hf b rfl];exact h6,h7⟩
theorem new_f {h:H} {k:Blk} {b:Nat} (hb:b ≠ h.next):(h.new k).f b = h.f b:=by simp [H.new,hb]
theorem Owns.new {h:H} {size:Nat} {s:AS} {cells:List AS} (ho:Owns h size s cells) (k:Blk):Owns (h.new k) size s cells:=by
 refine ho.keep (by simp [H.new]) fun b hb=>new_f ?_
 cases s <;> simp only [Owns,ownB] at ho hb
 ·cases hb
 ·simp only [oqI] at hb;subst hb;omega
 all_goals cases hb
theorem owns_made (h:H) (size n:Nat) (cells:List AS) (fixed:Bool) (hl:cells.length = n * size):Owns (h.new (blkOf cells fixed)) size (.slc h.next 0 0 n size none) cells:=by
 refine ⟨rfl,rfl,rfl,hl,by simp [H.new],blkOf cells fixed,by simp [H.new],rfl,by simp [Blk.ext,blkOf],rfl⟩
theorem append_own {h:H} {size bytes m:Nat} {s:AS} {cells new:List AS} {n:Nat} (ho:Owns h size s cells) (h0:0 < size) (hn:cells.length = n * size) (hm:0 < m) (hnew:new.length = m * size) (hlim:(n + m + 600) * bytes + (n + m) ≤ limit) :
  ∃ s' h',appendL size bytes m new h s = some (s',h')∧Owns h' size s' (cells++new)∧h.next ≤ h'.next∧(∀ b,b < h.next→ownB s ≠ some b→h'.f b = h.f b)∧(∀ b,ownB s' = some b→ownB s = some b ∨ h.next ≤ b)∧(ownB s').isSome:=by
 have hne:¬ (new.length ≠ m * size ∨ size = 0):=by omega
 cases s <;> simp only [Owns] at ho
 ·-- nil
  subst ho
  have hn0:n = 0:=by
   simp only [List.length_nil] at hn
   rcases Nat.mul_eq_zero.1 hn.symm with h | h <;> omega
  subst hn0
  refine ⟨.slc h.next 0 0 m size none,h.new (blkOf new false), ?_,by simpa using owns_made h size m new false hnew,by simp [H.new],fun b hb _=>new_f (by omega),fun b hb=>?_,rfl⟩
  ·simp only [appendL,if_neg hne,if_neg (Nat.ne_of_gt hm)]
   rw [if_pos (by simpa using hlim)]
  ·simp only [ownB,oqI] at hb;right;omega
 ·rename_i b v o k s' c
  obtain ⟨rfl,rfl,rfl,hl,hb,B,h1,rfl,h3,h4⟩:=ho
  have hk:n = k:=by rw [hl] at hn;exact (Nat.eq_of_mul_eq_mul_right h0 hn).symm
  subst hk
  have hlen:B.cells.length = n * s':=by rw [h4];exact hl
  have hrd:readC h (.ptr b B.ver 0) (n * s') = some cells:=by
   simp only [readC,h1,h3,oqE,oqS,Nat.zero_add]
   rw [if_pos (by omega)]
   unfold sub
   rw [h4,if_pos (by omega),List.drop_zero,← hl,List.take_length]
  have hlim':¬ limit < (n + m + 600) * bytes + (n + m):=by omega
  by_cases hfx:B.fixed = true
  ·refine ⟨.slc h.next 0 0 (n + m) s' none,h.new (blkOf (cells++new) false), ?_,owns_made h s' (n + m) (cells++new) false (by simp [hl,hnew,Nat.add_mul]),by simp [H.new],fun b hb _=>new_f (by omega),fun b hb=>?_,rfl⟩
   ·simp only [appendL,if_neg hne,if_neg (Nat.ne_of_gt hm),if_neg hlim',h1,h3,hrd,oqE,oqS,Nat.zero_add,ne_eq,not_true_eq_false,if_false]
    rw [if_neg (by rw [h4];simp),if_neg (by rw [hnew,hl];have:=Nat.mul_pos hm h0;omega),if_pos hfx]
   ·simp only [ownB,oqI] at hb;right;omega
  ·refine ⟨.slc b (B.ver + 1) 0 (n + m) s' none,h.set b ⟨B.ver + 1,(cells.length + new.length)::B.exts,false,B.cells++new⟩, ?_, ?_,Nat.le_refl _,fun b' hb' hne'=>?_,fun b' hb'=>.inl hb',rfl⟩
   ·simp only [appendL,if_neg hne,if_neg (Nat.ne_of_gt hm),if_neg hlim',h1,h3,hrd,oqE,oqS,Nat.zero_add,ne_eq,not_true_eq_false,if_false]
    rw [if_neg (by rw [h4];simp),if_neg (by rw [hnew,hl];have:=Nat.mul_pos hm h0;omega),if_neg hfx,if_pos hl.symm]
    rfl
   ·refine ⟨rfl,rfl,rfl,by simp [hl,hnew,Nat.add_mul],hb,⟨B.ver + 1,(cells.length + new.length)::B.exts,false,B.cells++new⟩,by simp [H.set],rfl,by simp [Blk.ext],by simp [h4]⟩
   ·have:b' ≠ b:=by rintro rfl;exact hne' rfl
    simp [H.set,this]
theorem append_slice {P:Program} {t u el size bytes:Nat} {h:H} {s x:AS} {m:Nat} {new:List AS} (h1:elemT P t = some el) (h2:sizeT P el = some size) (h3:bytesT P el = some bytes) (h4:P.underlying u = some (.slice el)) (hx:lenS x = some m) (he:elemsOf h size m x = some new) :
  appendA P t u h s x = appendL size bytes m new h s:=by
 simp only [appendA,h1,h2,h3,h4,hx,he,oqE,oqS]
theorem Sees.new {h:H} {size:Nat} {s:AS} {cells:List AS} (hs:Sees h size s cells) (k:Blk) (hw:∀ b,h.next ≤ b→h.f b = none):Sees (h.new k) size s cells:=by
 cases s <;> simp only [Sees] at hs ⊢
 ·exact hs
 ·rename_i b v o n s' c
  refine ⟨hs.1, ?_⟩
  have hr:=hs.2
  simp only [readC,oqE,oqB] at hr ⊢
  obtain ⟨B,hB,hr⟩:=hr
  refine ⟨B, ?_,hr⟩
  have:b ≠ h.next:=by rintro rfl;rw [hw _ (Nat.le_refl _)] at hB;cases hB
  rw [new_f this];exact hB
 ·exact hs
end Go.Ab
namespace Go.Ab
theorem pureS_weak:∀ {a:AS},pureS true a = true→pureS false a = true:=by
 intro a
 refine AS.rec (motive_1:=fun a=>pureS true a = true→pureS false a = true) (motive_2:=fun l=>pureL true l = true→pureL false l = true)
  ?_ ?_ ?_ ?_ ?_ ?_ ?_ ?_ ?_ ?_ ?_ ?_ ?_ ?_ ?_ ?_ ?_ ?_ ?_ a
 all_goals (intros;first | rfl | (rename_i h;exact h) | skip)
 ·rename_i ih h;simp only [pureS,Bool.and_eq_true,Bool.not_true,oqF,false_and] at h
 ·rename_i ih h;simp only [pureS,Bool.and_eq_true,Bool.not_false,Bool.true_or,true_and] at h ⊢;exact ih h.2
 ·rename_i i1 i2 h;simp only [pureS,Bool.and_eq_true] at h ⊢;exact ⟨i1 h.1,i2 h.2⟩
 ·rename_i ih h;simp only [pureS] at h ⊢;exact ih h
 ·rename_i i1 i2 h;simp only [pureL,Bool.and_eq_true] at h ⊢;exact ⟨i1 h.1,i2 h.2⟩
theorem mapM_weak {f g:AS→Option AS} (hg:∀ a b,f a = some b→g a = some b):∀ {l m:List AS},l.mapM f = some m→l.mapM g = some m
 | [],m,h=>by simpa using h
 | a::l,m,h=>by
  simp only [List.mapM_cons,oqE,oqB,oqP,oqI] at h ⊢
  obtain ⟨b,h1,q,h2,rfl⟩:=h
  exact ⟨b,hg _ _ h1,q,mapM_weak hg h2,rfl⟩
theorem frzS_weak {h:H}:∀ n a b,frzS true h n a = some b→frzS false h n a = some b
 | 0,a,b,e=>by simp [frzS] at e
 | n + 1,a,b,e=>by
  have other:(if pureS true a = true then some a else none) = some b→(if pureS false a = true then some a else none) = some b:=by
   intro e
   split at e
   ·rename_i hp;rw [if_pos (pureS_weak hp)];exact e
   ·cases e
  cases a with
  | slc x v o k s c =>
   simp only [frzS,oqE,oqB,oqI] at e ⊢
   obtain ⟨l,h1,m,h2,rfl⟩:=e
   exact ⟨l,h1,m,mapM_weak (frzS_weak n) h2,rfl⟩
  | _=>simpa [frzS] using other (by simpa [frzS] using e)
theorem frzP_weak {h:H}:∀ {l m:List (Bool × List AS)},frzP true h l = some m→frzP false h l = some m
 | [],m,e=>by simpa [frzP] using e
 | p::l,m,e=>by
  simp only [frzP,oqE,oqB,oqI] at e ⊢
  obtain ⟨q,h1,r,h2,rfl⟩:=e
  exact ⟨q,mapM_weak (frzS_weak 64) h1,r,frzP_weak h2,rfl⟩
theorem frzV_weak {h:H} {a b:AV} (e:frzV true h a = some b):frzV false h a = some b:=by
 cases a with
 | one a =>
  simp only [frzV,oqE,oqB,oqI] at e ⊢
  obtain ⟨x,h1,rfl⟩:=e
  exact ⟨x,frzS_weak 64 _ _ h1,rfl⟩
 | agg l =>
  simp only [frzV,oqE,oqB,oqI] at e ⊢
  obtain ⟨x,h1,rfl⟩:=e
  exact ⟨x,mapM_weak (frzS_weak 64) h1,rfl⟩
 | tup ps =>
  simp only [frzV,oqE,oqB,oqI] at e ⊢
  obtain ⟨x,h1,rfl⟩:=e
  exact ⟨x,frzP_weak h1,rfl⟩
 | opq=>exact e
 | undef=>simp [frzV] at e
theorem outV_weak {own:Bool} {h1 h:H} {a:AV} {r:CR} (e:outV own true h1 h a = some r):outV own false h1 h a = some r:=by
 unfold outV at e ⊢
 split at e
 ·simp only [oqE,oqB] at e ⊢
  obtain ⟨B,hB,e⟩:=e
  refine ⟨B,hB, ?_⟩
  split at e
  ·rename_i hc
   rw [if_pos hc]
   simp only [oqB] at e ⊢
   obtain ⟨l,h1,e⟩:=e
   exact ⟨l,mapM_weak (frzS_weak 64) h1,e⟩
  ·cases e
 ·simp only [oqE,oqB] at e ⊢
  obtain ⟨v,hv,e⟩:=e
  exact ⟨v,frzV_weak hv,e⟩
def finA (C:Conf) (rs:List ResultVar) (Q:AV→H→Prop) (x:Ex) (fr:Fr) (h:H):Prop :=
 match x with
 | .normal | .ret=>onA (resultA C fr h rs) fun v=>Q v h
 | _=>False
@[simp] theorem finA_normal (C:Conf) (rs:List ResultVar) (Q:AV→H→Prop) (fr:Fr) (h:H):finA C rs Q .normal fr h = onA (resultA C fr h rs) fun v=>Q v h:=rfl
@[simp] theorem finA_ret (C:Conf) (rs:List ResultVar) (Q:AV→H→Prop) (fr:Fr) (h:H):finA C rs Q .ret fr h = onA (resultA C fr h rs) fun v=>Q v h:=rfl
@[simp] theorem finA_exit (C:Conf) (rs:List ResultVar) (Q:AV→H→Prop) (fr:Fr) (h:H) (i:Nat):finA C rs Q (.exit i) fr h = False:=rfl
@[simp] theorem finA_pan (C:Conf) (rs:List ResultVar) (Q:AV→H→Prop) (fr:Fr) (h:H) (v:AS):finA C rs Q (.pan v) fr h = False:=rfl
def Apart (C:Conf) (f:Nat) (args:List AV) (Q:AV→H→Prop):Prop :=
 ∃ fn c,C.prim f = none∧C.ext f = none∧C.frz f = true∧C.P.funcs[f]? = some fn∧fn.body = some c∧args.length ≤ fn.ntmps∧Does C c (args++List.replicate (fn.ntmps - args.length) .undef) H.empty (finA C fn.results.toList Q)
theorem viewA_length {h:H} {l l':List AV} (e:viewA h l = some l'):l'.length = l.length:=by
 unfold viewA at e
 split at e
 ·cases e;rfl
 ·have:∀ {l l':List AV},l.mapM (viewV h) = some l'→l'.length = l.length:=by
   intro l
   induction l with
   | nil=>intro l' e;simp at e;subst e;rfl
   | cons a l ih =>
    intro l' e
    simp only [List.mapM_cons,oqE,oqB,oqP,oqI] at e
    obtain ⟨b,_,q,h2,rfl⟩:=e
    simp [ih h2]
  exact this e
theorem W_apart {C:Conf} (hp:PrimOk C) {f:Nat} {args args':List AV} {h:H} {r:CR} (hv:viewA h args = some args') (ha:Apart C f args' fun v h1=>outV (C.own f) (!args.all pureV) h1 h v = some r):W C f args h = some r:=by
 obtain ⟨fn,c,h1,h2,h3,h4,h5,h6,x,fr,hh,e,hx⟩:=ha
 have hl:=viewA_length hv
 rw [hl] at h6 e
 rw [W_eq hp]
 unfold callF
 rw [h1,h2]
 simp only [h4,oqE,oqS,h5,if_neg (Nat.not_lt.2 h6),if_pos h3,hv,e]
 cases x with
 | normal=>obtain ⟨v,hv,hr⟩:=hx;simp only [hv,oqS];exact hr
 | ret=>obtain ⟨v,hv,hr⟩:=hx;simp only [hv,oqS];exact hr
 | exit i=>exact hx.elim
 | pan v=>exact hx.elim
theorem W_pure {C:Conf} (hp:PrimOk C) {f:Nat} {args:List AV} {h:H} {r:CR} (hv:args.all pureV = true) (ha:Apart C f args fun v h1=>outV (C.own f) false h1 h v = some r):W C f args h = some r:=by
 refine W_apart hp (args':=args) (by unfold viewA;rw [if_pos hv]) ?_
 rw [hv];exact ha
def Fun (C:Conf) (f:Nat) (args:List AV) (r:H→CR):Prop:=args.all pureV = true∧∀ h,Apart C f args fun v h1=>outV (C.own f) true h1 h v = some (r h)
theorem Apart.mono {C:Conf} {f:Nat} {args:List AV} {Q Q':AV→H→Prop} (ha:Apart C f args Q) (hq:∀ v h,Q v h→Q' v h):Apart C f args Q':=by
 obtain ⟨fn,c,h1,h2,h3,h4,h5,h6,hd⟩:=ha
 refine ⟨fn,c,h1,h2,h3,h4,h5,h6,hd.mono fun x fr h hx=>?_⟩
 cases x with
 | normal=>obtain ⟨v,hv,hx⟩:=hx;exact ⟨v,hv,hq _ _ hx⟩
 | ret=>obtain ⟨v,hv,hx⟩:=hx;exact ⟨v,hv,hq _ _ hx⟩
 | exit i=>exact hx
 | pan v=>exact hx
theorem Fun.pure {C:Conf} (hp:PrimOk C) {f:Nat} {args:List AV} {r:H→CR} (hf:Fun C f args r) (h:H):W C f args h = some (r h) :=
 W_pure hp hf.1 ((hf.2 h).mono fun _ _ e=>outV_weak e)
theorem Fun.view {C:Conf} (hp:PrimOk C) {f:Nat} {args args0:List AV} {r:H→CR} (hf:Fun C f args r) {h:H} (hv:viewA h args0 = some args):W C f args0 h = some (r h):=by
 refine W_apart hp hv ((hf.2 h).mono fun _ _ e=>?_)
 cases args0.all pureV with
 | true=>exact outV_weak e
 | false=>exact e
theorem pureL_append (st:Bool):∀ (l m:List AS),pureL st (l++m) = (pureL st l && pureL st m)
 | [],m=>by simp [pureL]
 | a::l,m=>by simp [pureL,pureL_append st l m,Bool.and_assoc]
theorem frzS_pure {st:Bool} {h:H} {n:Nat} {a:AS} (hp:pureS st a = true):frzS st h (n + 1) a = some a:=by
 cases a with
 | slc x v o k s c=>simp [pureS] at hp
 | _=>simp only [frzS,hp,if_true]
theorem mapM_pure {st:Bool} {h:H} {n:Nat}:∀ {l:List AS},pureL st l = true→l.mapM (frzS st h (n + 1)) = some l
 | [],_=>rfl
 | a::l,hp=>by
  simp only [pureL,Bool.and_eq_true] at hp
  simp only [List.mapM_cons,frzS_pure hp.1,mapM_pure hp.2,oqE,oqS,oqP]
theorem viewS_pure {h:H} {n:Nat} {a:AS} (hp:pureS false a = true) (hn:∀ f x c,a ≠ .fn f x c) (hi:∀ t v,a ≠ .ifc t v):viewS h (n + 1) a = some a:=by
 cases a with
 | slc x v o k s c=>simp [pureS] at hp
 | ptr b v o=>simp [pureS] at hp
 | fn f x c=>exact absurd rfl (hn f x c)
 | ifc t v=>exact absurd rfl (hi t v)
 | _=>simp only [viewS,hp,if_true]
end Go.Ab
