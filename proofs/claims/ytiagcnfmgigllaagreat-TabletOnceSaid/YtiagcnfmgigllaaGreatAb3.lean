/- From the abstract machine to the given statements; rules for walking in it. No conditions. -/
import Derived.Test.YtiagcnfmgigllaaGreatAb2
import GoSem.ClaimChange
import Derived.Below
import Derived.Carry
import Derived.Handed
import Derived.JoinedOf
import Derived.ChangeSame
import Derived.RowKit
import Derived.KernelRfl
set_option linter.all false
namespace Go.Ab
def w0i:Ext->(Array Value->Sem Value)
 | .bits=>Extern.MathFloatBits.float64bits
 | .frombits=>Extern.MathFloatBits.float64frombits
 | .cmpBytes | .cmpStr=>Extern.BytealgCompare.compare
structure ExtT (P:Program) (f:Nat) (x:Ext):Prop where
 fn:∃ fn,P.funcs[f]? = some fn/\fn.body = none/\(fn.name == "runtime.NumGoroutine") = false/\(Extern.findNext fn).isNone = true/\Extern.find fn = some (w0i x)
theorem z0C {P:Program} {f:Nat} {x:Ext} (h:ExtT P f x) (args:Array Value) (w:World):(callFunc f args).run P w = ((w0i x args).run P w).andThen fun v w'=>.ok (.value v) w':=by
 obtain ⟨fn,h1,h2,h3,h4,h5⟩:=h.fn
 have h4':Extern.findNext fn = none:=by simpa using h4
 have h3':¬ fn.name = "runtime.NumGoroutine" := by simpa using h3
 simp only [callFunc,Sem.run_bind,run_program,Result.andThen_ok,h1,h2,beq_iff_eq,h3',if_false,Option.isNone_none,if_true,run_mark,h4',h5]
 simp [Sem.run_bind]
theorem C0Q (a b:List UInt8):(match (List.range (min a.length b.length)).find? fun i=>a[i]! != b[i]! with
  | some i=>if a[i]! < b[i]! then (-1:Int) else 1
  | none=>if a.length < b.length then -1 else if a.length > b.length then 1 else 0) = a0j a b:=by
 induction a generalizing b with
 | nil=>cases b <;> simp [a0j,Op.bytesLess]
 | cons x a ih =>
  cases b with
  | nil=>simp [a0j,Op.bytesLess]
  | cons y b =>
   have hr:List.range (min (x::a).length (y::b).length) = 0::(List.range (min a.length b.length)).map (· + 1):=by
    simp only [oqb,Nat.succ_min_succ]
    rw [List.range_succ_eq_map]
   rw [hr]
   by_cases hxy:x = y
   ·subst hxy
    have h0:((x::a)[0]! != (x::b)[0]!) = false:=by simp
    rw [List.find?_cons,h0]
    simp only [List.find?_map]
    have hcomp:((fun i=>(x::a)[i]! != (x::b)[i]!) ∘ (· + 1)) = fun i=>a[i]! != b[i]!:=by funext i;simp
    rw [hcomp]
    have:=ih b
    have hl:¬ (x < x):=by simp [UInt8.lt_iff_toNat_lt]
    have e:a0j (x::a) (x::b) = a0j a b:=by simp [a0j,Op.bytesLess,hl]
    rw [e,<- this]
    cases hf:(List.range (min a.length b.length)).find? fun i=>a[i]! != b[i]! with
    | none=>simp
    | some i=>simp
   ·have h0:((x::a)[0]! != (y::b)[0]!) = true:=by simp [hxy]
    rw [List.find?_cons,h0]
    simp only [a0j,Op.bytesLess]
    have hb:(x == y) = false:=by simp [hxy]
    simp [hb]
theorem u0Y (a b:ByteArray):Extern.BytealgCompare.cmp a b = a0j a.data.toList b.data.toList:=by
 rw [<- C0Q]
 unfold Extern.BytealgCompare.cmp
 have hg:∀ (x:ByteArray) (i:Nat),x[i]! = x.data.toList[i]!:=by
  intro x i
  rw [getElem!_def,getElem!_def]
  by_cases h:i < x.size
  ·have h':i < x.data.toList.length:=by simpa using h
   rw [getElem?_pos x i h,List.getElem?_eq_getElem h']
   simp [ByteArray.getElem_eq_getElem_data]
  ·have h':¬ i < x.data.toList.length:=by simpa using h
   rw [getElem?_neg x i h,List.getElem?_eq_none (by omega)]
 simp only [hg]
 have hs:∀ x:ByteArray,x.size = x.data.toList.length:=fun x=>(Array.length_toList (xs:=x.data)).symm
 simp only [hs]
 rfl
theorem d0M {P:Program} {w:World} (b:Nat):∀ (s:List UInt8) (o:Nat) (acc:ByteArray),(∀ j v,(s.map fun c=>Value.int .u8 (c.toNat:Int))[j]? = some v->w.cell? ⟨b,o + j,none⟩ = some v) ->
  (Extern.Bytes.loadBytes ⟨b,o,none⟩ s.length acc).run P w = .ok ⟨acc.data++s.toArray⟩ w
 | [],o,acc,_=>by
  show (Sem.run P (pure acc) w) = _
  rw [Sem.run_pure];simp
 | c::s,o,acc,h=>by
  have h0:=h 0 _ rfl
  simp only [oqb,Extern.Bytes.loadBytes,Sem.run_bind]
  simp only [Nat.add_zero] at h0
  rw [run_load,h0]
  simp only [Result.andThen_ok,a0I]
  have ih:=d0M (P:=P) (w:=w) b s (o + 1) (acc.push c) (fun j v hj=>by
   rw [show o + 1 + j = o + (j + 1) by omega]
   exact h (j + 1) v (by simpa using hj))
  have e:((c.toNat:Int).toNat).toUInt8 = c:=by simp
  rw [e,ih]
  congr 1
  simp [ByteArray.push]
theorem g0M:∀ t:List UInt8,bytesOf (t.map F7) = some t
 | []=>rfl
 | c::t=>by
  have hc:(0:Int) <= (c.toNat:Int)/\(c.toNat:Int) < 256:=⟨by omega,by have:=c.toNat_lt;omega⟩
  simp only [List.map_cons,F7,bytesOf,if_pos hc,g0M t]
  simp
section
variable {P:Program} {φ:Phi} {h:H} {w:World}
theorem j0k (R:Rel φ h w) {x:AS} {xv:Value} {N:Nat} {l:List AS} {s:List UInt8} (hx:VR φ (Nf φ) w x xv) (hN:U9 x = some N) (he:C6 h 1 N x = some l) (hb:bytesOf l = some s) :
  (Extern.Bytes.bytesOf xv).run P w = .ok ⟨s.toArray⟩ w:=by
 have key:∀ (b o N':Nat) (c:Nat) (vs:List Value),VRL φ (Nf φ) w l vs->vs.length = N'->(∀ j v,vs[j]? = some v->w.cell? ⟨b,o + j,none⟩ = some v)->(Extern.Bytes.bytesOf (.slice (some ⟨b,o,none⟩) N' c)).run P w = .ok ⟨s.toArray⟩ w:=by
  intro b o N' c vs hvs hlen hc
  have e:=f0I hvs hb
  have hn:N' = s.length:=by rw [<- hlen,e];simp
  subst hn
  have:=d0M (P:=P) (w:=w) b s o ByteArray.empty (fun j v hj=>hc j v (by rw [e];simpa using hj))
  simp only [Extern.Bytes.bytesOf]
  rw [this];simp
 cases hx with
 | nilslc =>
  simp only [U9,oqI] at hN;subst hN
  simp only [C6,if_true,oqI] at he;subst he
  simp only [bytesOf,oqI] at hb;subst hb
  rfl
 | str t =>
  simp only [U9,oqI] at hN;subst hN
  simp only [C6,oqg,if_true,List.take_length,oqI] at he;subst he
  have:s = t:=by
   rw [g0M] at hb;exact (Option.some.inj hb).symm
  subst this;rfl
 | slc b v o n sz c L a cap h1 h2 h3 h4 h5 h6 =>
  simp only [U9,oqI] at hN;subst hN
  simp only [C6] at he
  split at he
  ·rename_i hc
   obtain ⟨b',o',vs,hp,hvs,hlen,hcell⟩:=f0l R (VR.ptr b v o L h1) he
   simp only [Value.pointer.injEq,oqI,Addr.mk.injEq,and_true] at hp
   obtain ⟨rfl,rfl⟩:=hp
   rw [Nat.mul_one] at hlen
   by_cases hcap:0 < cap
   ·rw [h3 hcap]
    exact key _ _ _ _ vs hvs hlen hcell
   ·have hn:n = 0:=by omega
    subst hn
    have:vs = []:=List.eq_nil_of_length_eq_zero hlen
    subst this
    cases hvs
    simp only [bytesOf,oqI] at hb;subst hb
    simp [Extern.Bytes.bytesOf,Extern.Bytes.loadBytes];rfl
  ·cases he
 | vs n sz cells blk base cap spot vs h1 h2 h3 h4 h5 h6 h7 h8 =>
  simp only [U9,oqI] at hN;subst hN
  simp only [C6] at he
  split at he
  ·rename_i hc
   obtain ⟨q1,q2⟩:=VRL.of_sub h7 he
   rw [Nat.mul_one] at q2 q1
   by_cases hn:0 < n
   ·rw [h6 hn]
    refine key _ _ _ _ _ q1 (by rw [<- q1.length,q2]) fun j v hj=>?_
    simp only [List.drop_zero,List.getElem?_take] at hj
    split at hj
    ·exact h8 _ _ hj
    ·cases hj
   ·have hn0:n = 0:=by omega
    subst hn0
    have:l = []:=List.eq_nil_of_length_eq_zero (by simpa using q2)
    subst this
    simp only [bytesOf,oqI] at hb;subst hb
    simp [Extern.Bytes.bytesOf,Extern.Bytes.loadBytes];rfl
  ·cases he
 | _=>simp [U9] at hN
theorem C0d {f:Nat} {x:Ext} (hx:ExtT P f x) {args:List AV} {r:CR} (hr:u0q x args h = some r) {cargs:List Value} (R:Rel φ h w) (ha:AVL φ (Nf φ) w args cargs):CallR P φ h w f cargs r:=by
 have fin:∀ (a:AS) (v:Value),r = .ret (.one a) h->(w0i x cargs.toArray).run P w = .ok v w->VR φ (Nf φ) w a v->CallR P φ h w f cargs r:=by
  rintro a v rfl hrun hv
  left
  refine ⟨v,w, ?_,.one a,h,φ,rfl,R,Grow.refl _ _ _,.one _ _ hv⟩
  rw [z0C hx,hrun];rfl
 have one:∀ {a:AS} {cargs:List Value},AVL φ (Nf φ) w [.one a] cargs->∃ v,cargs = [v]/\VR φ (Nf φ) w a v:=by
  intro a cargs ha
  cases ha with | cons _ v _ _ h1 h2=>cases h2;exact ⟨v,rfl,h1.one_inv⟩
 have two:∀ {a b:AS} {cargs:List Value},AVL φ (Nf φ) w [.one a,.one b] cargs->∃ v u,cargs = [v,u]/\VR φ (Nf φ) w a v/\VR φ (Nf φ) w b u:=by
  intro a b cargs ha
  cases ha with | cons _ v _ _ h1 h2=>cases h2 with | cons _ u _ _ h3 h4=>cases h4;exact ⟨v,u,rfl,h1.one_inv,h3.one_inv⟩
 unfold u0q at hr
 split at hr
 ·obtain ⟨v,rfl,hv⟩:=one ha
  cases hv
  simp only [oqI] at hr
  exact fin _ _ hr.symm rfl (.int _ _)
 ·obtain ⟨v,rfl,hv⟩:=one ha
  cases hv with
  | nan y hy =>
   simp only [oqI] at hr
   exact fin _ _ hr.symm rfl (.nanb _ hy)
 ·obtain ⟨v,rfl,hv⟩:=one ha
  cases hv
  simp only [oqI] at hr
  exact fin _ _ hr.symm rfl (.flt _)
 ·obtain ⟨v,rfl,hv⟩:=one ha
  cases hv with
  | nanb y hy =>
   simp only [oqI] at hr
   exact fin _ _ hr.symm rfl (.nan _ hy)
 ·rename_i a b
  obtain ⟨v,u,rfl,hv,hu⟩:=two ha
  simp only [oqE,oqB,oqI] at hr
  obtain ⟨na,hna,la,hla,xa,hxa,nb,hnb,lb,hlb,xb,hxb,hr⟩:=hr
  refine fin _ _ hr.symm ?_ (.int _ _)
  show (Sem.run P (do pure (goInt (Extern.BytealgCompare.cmp (<- Extern.Bytes.bytesOf v) (<- Extern.Bytes.bytesOf u)))) w) = _
  simp only [Sem.run_bind,j0k (P:=P) R hv hna hla hxa,Result.andThen_ok,j0k (P:=P) R hu hnb hlb hxb,u0Y,Sem.run_pure,goInt]
 ·rename_i a b
  obtain ⟨v,u,rfl,hv,hu⟩:=two ha
  cases hv;cases hu
  simp only [oqI] at hr
  refine fin _ _ hr.symm ?_ (.int _ _)
  show (Sem.run P (do pure (goInt (Extern.BytealgCompare.cmp (<- Extern.Bytes.bytesOf (.string ⟨a.toArray⟩)) (<- Extern.Bytes.bytesOf (.string ⟨b.toArray⟩))))) w) = _
  simp only [Extern.Bytes.bytesOf,Sem.run_bind,Sem.run_pure,Result.andThen_ok,u0Y,goInt]
 ·cases hr
end
inductive CS where
 | bool
 | int (k:IntKind)
 | flt
 | str
 | slc (l:List CS)
section
variable (P:Program)
def h0U (g:TypeId->Option (List CS)):List Field->Nat->Option (List CS)
 | [],_=>some []
 | f::fs,o=>if f.offset = o then do
   let s <- g f.type
   let r <- h0U g fs (o + s.length)
   some (s++r)
  else none
def t0u (s:List CS):Nat->List CS
 | 0=>[]
 | n + 1=>s++t0u s n
def l0B (g:TypeId->Option (List CS)):TypeDesc->Option (List CS)
 | .bool=>some [.bool]
 | .int k=>some [.int k]
 | .float .f64=>some [.flt]
 | .string=>some [.str]
 | .slice e=>(g e).bind fun s=>if s.length = 0 then none else some [.slc s]
 | .struct fs=>h0U g fs.toList 0
 | .array m e=>(g e).bind fun s=>some (t0u s m)
 | _=>none
def c0y:Nat->TypeId->Option (List CS)
 | 0,_=>none
 | n + 1,t=>(P.underlying t).bind fun d=>(l0B (c0y n) d).bind fun sh=>if sh.length = P.cellsOf t then some sh else none
end
mutual
inductive Fit:CS->AS->Prop
 | bool (b:Bool):Fit .bool (.bool b)
 | int (k:IntKind) (n:Int):k.min <= n->n <= k.max->Fit (.int k) (.int k n)
 | flt (b:Nat):b < 2 ^ 64->Fit .flt (.flt b)
 | str (s:List UInt8):s.length <= maxLen->Fit .str (.str s)
 | nil (l:List CS):Fit (.slc l) .nilslc
 | slc (l:List CS) (n s:Nat) (cells:List AS):s = l.length->n <= maxLen->FitN l n cells->Fit (.slc l) (.vs n s cells)
inductive FitL:List CS->List AS->Prop
 | nil:FitL [] []
 | cons (c:CS) (a:AS) (cs:List CS) (l:List AS):Fit c a->FitL cs l->FitL (c::cs) (a::l)
inductive FitN:List CS->Nat->List AS->Prop
 | zero (s:List CS):FitN s 0 []
 | succ (s:List CS) (n:Nat) (a l:List AS):FitL s a->FitN s n l->FitN s (n + 1) (a++l)
end
theorem FitL.length:∀ {s:List CS} {l:List AS},FitL s l->l.length = s.length
 | _,_,.nil=>rfl
 | _,_,.cons _ _ _ _ _ h=>by simp [h.length]
theorem FitL.append:∀ {s t:List CS} {l m:List AS},FitL s l->FitL t m->FitL (s++t) (l++m)
 | _,_,_,_,.nil,h=>h
 | _,_,_,_,.cons _ _ _ _ h t,k=>.cons _ _ _ _ h (t.append k)
theorem FitN.length:∀ {s:List CS} {n:Nat} {l:List AS},FitN s n l->l.length = n * s.length
 | _,_,_,.zero _=>by simp
 | _,_,_,.succ s n a l h t=>by simp [h.length,t.length,Nat.succ_mul];omega
def start (w:World):Phi:=⟨fun _ _=>none,fun k=>k < w.heap.size,Go.undef⟩
theorem t0Y (w:World):Rel (start w) H.empty w:=by
 refine ⟨fun b k h=>(by cases h),fun b k v e h=>(by cases h),fun b k v e l b' k' v' e' l' h=>(by cases h),fun b v l h=>(by cases h),fun b k v l h=>(by cases h),fun k hk=>⟨hk, ?_⟩⟩
 rintro ⟨b,k,v,e,l,h,_⟩
 cases h
section
variable {P:Program} {w:World} {H':Type} {enc:TypeId × Value->H'} {sp:Nat->Bool} {held:Bool}
abbrev RL (w:World):=VRL (start w) (Nf (start w)) w
theorem m0J {base:Nat} {a:Addr} {n:Nat} {cs:List Value} (h:w.cells? base a n = some cs):cs.length = n/\∀ i,i < n->∃ v,cs[i]? = some v/\w.cell? (a.add i) = some v:=by
 unfold World.cells? at h
 split at h
 ·have key:∀ (l:List Nat) (cs:List Value),l.mapM (fun i=>w.cell? (a.add i)) = some cs->cs.length = l.length/\∀ (j i:Nat),l[j]? = some i->∃ v,cs[j]? = some v/\w.cell? (a.add i) = some v:=by
   intro l
   induction l with
   | nil=>intro cs h;simp at h;subst h;simp
   | cons x l ih =>
    intro cs h
    simp only [List.mapM_cons,oqE,oqB,oqP,oqI] at h
    obtain ⟨v,hv,vs,hvs,rfl⟩:=h
    obtain ⟨h1,h2⟩:=ih vs hvs
    refine ⟨by simp [h1],fun j i hj=>?_⟩
    cases j with
    | zero=>simp only [List.getElem?_cons_zero,oqI] at hj;subst hj;exact ⟨v,rfl,hv⟩
    | succ j=>simpa using h2 j i (by simpa using hj)
  obtain ⟨h1,h2⟩:=key _ _ h
  refine ⟨by simpa using h1,fun i hi=>h2 i i (by simp [hi])⟩
 ·cases h
theorem p0F {a:Addr} {v:Value} (h:w.cell? a = some v):a.spot = none/\a.block < w.heap.size:=by
 unfold World.cell? at h
 split at h
 ·rename_i c e fz hc
  have hlt:=(Array.getElem?_eq_some_iff.1 hc).1
  refine ⟨?_,hlt⟩
  cases hs:a.spot with
  | none=>rfl
  | some s=>simp [hs] at h
 ·cases h
theorem C0x {a:Addr} {x i:Nat} (h:((a.add x).add i).spot = none):(a.add x).add i = ⟨a.block,a.off + x + i,none⟩:=by
 obtain ⟨b,o,s⟩:=a
 unfold Addr.add at h |-
 split <;> split <;> simp_all <;> omega
theorem k0y {α β:Type} {f:α->Option β}:∀ {l:List α} {r:List β},l.mapM f = some r->r.length = l.length/\∀ (j:Nat) (x:α),l[j]? = some x->∃ y,r[j]? = some y/\f x = some y
 | [],r,h=>by simp at h;subst h;simp
 | x::l,r,h=>by
  simp only [List.mapM_cons,oqE,oqB,oqP,oqI] at h
  obtain ⟨v,hv,vs,hvs,rfl⟩:=h
  obtain ⟨h1,h2⟩:=k0y hvs
  refine ⟨by simp [h1],fun j y hj=>?_⟩
  cases j with
  | zero=>simp only [List.getElem?_cons_zero,oqI] at hj;subst hj;exact ⟨v,rfl,hv⟩
  | succ j=>simpa using h2 j y (by simpa using hj)
theorem x0o:∀ (n:Nat) (t:TypeId) (sh:List CS),c0y P n t = some sh->∀ (fuel:Nat) (cs:List Value) (d:DataW H') (ps:List MemPlace),DataW.trod enc P w 0 sp held fuel t cs = some (d,ps) ->
  ∃ l,RL w l cs/\FitL sh l/\sh.length = P.cellsOf t:=by
 intro n
 induction n with
 | zero=>intro t sh h;simp [c0y] at h
 | succ n ih =>
  intro t sh h fuel cs d ps htr
  simp only [c0y,oqB] at h
  obtain ⟨desc,hu,sh',hsh,hlen⟩:=h
  split at hlen
  rotate_left
  ·cases hlen
  rename_i hlen'
  simp only [oqI] at hlen;subst hlen
  cases fuel with
  | zero=>simp [DataW.trod] at htr
  | succ fuel =>
   suffices hx:∃ l,RL w l cs/\FitL sh' l by
    obtain ⟨l,h1,h2⟩:=hx;exact ⟨l,h1,h2,hlen'⟩
   unfold DataW.trod at htr
   rw [hu] at htr
   ·cases desc <;> simp only [l0B,reduceCtorEq] at hsh
    case bool =>
     simp only [oqI] at hsh;subst hsh
     split at htr <;> simp_all
     exact ⟨_,.cons _ _ _ _ (.bool _) .nil,.cons _ _ _ _ (.bool _) .nil⟩
    case int k =>
     simp only [oqI] at hsh;subst hsh
     split at htr <;> simp_all
     obtain ⟨⟨rfl,hwf⟩,_⟩:=htr
     simp only [Lit.wf,oqd,oqj] at hwf
     exact ⟨_,.cons _ _ _ _ (.int _ _) .nil,.cons _ _ _ _ (.int _ _ hwf.1 hwf.2) .nil⟩
    case float k =>
     cases k <;> simp only [l0B,reduceCtorEq,oqI] at hsh
     subst hsh
     split at htr <;> simp_all
     obtain ⟨⟨rfl,hwf⟩,_⟩:=htr
     subst_vars
     simp only [Lit.wf,oqj] at hwf
     exact ⟨_,.cons _ _ _ _ (.flt _) .nil,.cons _ _ _ _ (.flt _ hwf) .nil⟩
    case string =>
     simp only [oqI] at hsh;subst hsh
     split at htr <;> simp_all
     rename_i s
     refine ⟨[.str s.data.toList],.cons _ _ _ _ ?_ .nil,.cons _ _ _ _ (.str _ (by have:=htr.1;rwa [Array.length_toList])) .nil⟩
     have:=VR.str (φ:=start w) (O:=Nf (start w)) (w:=w) s.data.toList
     simpa using this
    case slice e =>
     simp only [oqB] at hsh
     obtain ⟨s,hs,hsh⟩:=hsh
     split at hsh
     ·cases hsh
     rename_i hs0
     simp only [oqI] at hsh;subst hsh
     split at htr <;> (try simp_all;done)
     ·-- nil
      exact ⟨_,.cons _ _ _ _ .nilslc .nil,.cons _ _ _ _ (.nil _) .nil⟩
     ·rename_i e' a len cap he
      simp only [oqI,TypeDesc.slice.injEq] at he;subst he
      split at htr
      rotate_left
      ·cases htr
      rename_i hb
      simp only [oqB] at htr
      obtain ⟨elems,helems,htr⟩:=htr
      clear htr
      obtain ⟨g1,g2⟩:=k0y helems
      have hel:∀ i,i < len->∃ cs' d' ps',w.cells? 0 (a.add (i * P.cellsOf e)) (P.cellsOf e) = some cs'/\DataW.trod enc P w 0 sp held fuel e cs' = some (d',ps'):=by
       intro i hi
       obtain ⟨y,_,hy⟩:=g2 i i (by simp [hi])
       simp only [oqB] at hy
       obtain ⟨cs',h1,h2⟩:=hy
       exact ⟨cs',y.1,y.2,h1,h2⟩
      clear helems g1 g2
      have hcells:∀ m,m <= len->∃ cells vs,RL w cells vs/\FitN s m cells/\∀ i v,vs[i]? = some v->w.cell? ⟨a.block,a.off + (len - m) * P.cellsOf e + i,none⟩ = some v:=by
       intro m
       induction m with
       | zero=>exact fun _=>⟨[],[],.nil,.zero _,by simp⟩
       | succ m ihm =>
        intro hm
        obtain ⟨cells,vs,q1,q2,q3⟩:=ihm (by omega)
        obtain ⟨cs',d',ps',h1,h2⟩:=hel (len - (m + 1)) (by omega)
        obtain ⟨l,r1,r2,r3⟩:=ih e s hs fuel cs' d' ps' h2
        obtain ⟨c1,c2⟩:=m0J h1
        refine ⟨l++cells,cs'++vs,r1.append q1,.succ _ _ _ _ r2 q2,fun i v hi=>?_⟩
        rw [List.getElem?_append] at hi
        split at hi
        ·rename_i hlt
         obtain ⟨v',hv',hc⟩:=c2 i (by omega)
         rw [hi] at hv';cases hv'
         have hsp:=p0F hc
         rw [<- hc,C0x hsp.1]
        ·rename_i hge
         have:=q3 _ _ hi
         rw [<- this]
         congr 2
         rw [c1] at hge |-
         have e1:(len - m) * P.cellsOf e = (len - (m + 1)) * P.cellsOf e + P.cellsOf e:=by
          rw [<- Nat.succ_mul];congr 1;omega
         omega
      obtain ⟨cells,vs,q1,q2,q3⟩:=hcells len (oqg _)
      have hse:0 < s.length:=by omega
      have hsp:0 < len->a.spot = none/\a.block < w.heap.size:=by
       intro hl
       obtain ⟨cs',d',ps',h1,h2⟩:=hel 0 hl
       obtain ⟨l,r1,r2,r3⟩:=ih e s hs fuel cs' d' ps' h2
       obtain ⟨c1,c2⟩:=m0J h1
       obtain ⟨v',hv',hc⟩:=c2 0 (by omega)
       have:=p0F hc
       simpa [Addr.add] using this
      refine ⟨[.vs len s.length cells],.cons _ _ _ _ ?_ .nil,.cons _ _ _ _ (.slc _ _ _ _ rfl (by omega) q2) .nil⟩
      have ha:a = ⟨a.block,a.off,a.spot⟩:=rfl
      rw [ha]
      refine VR.vs _ _ _ _ _ _ _ vs hb.2.1 (.inl hse) q2.length (fun hl hn=>hn (hsp hl).2) (fun hl=>(hsp hl).2) (fun hl=>(hsp hl).1) q1 (fun i v hi=>?_)
      have:=q3 i v hi
      simpa using this
    case struct fs =>
     split at htr <;> (try simp_all;done)
     rename_i cs _ _ fs' he
     simp only [oqI,TypeDesc.struct.injEq] at he;subst he
     split at htr
     rotate_left
     ·cases htr
     rename_i hcl
     simp only [Option.map_eq_some_iff] at htr
     obtain ⟨xs,hxs,_⟩:=htr
     have key:∀ (l:List Field) (o:Nat) (r:List CS),h0U (c0y P n) l o = some r->∀ xs,(l.mapM fun f=>DataW.trod enc P w 0 sp held fuel f.type ((cs.drop f.offset).take (P.cellsOf f.type))) = some xs->o + r.length <= cs.length ->
       ∃ m,RL w m ((cs.drop o).take r.length)/\FitL r m:=by
      intro l
      induction l with
      | nil=>intro o r hr xs _ _;simp only [h0U,oqI] at hr;subst hr;exact ⟨[],by simp;exact .nil,.nil⟩
      | cons f l ihl =>
       intro o r hr xs hxs hle
       simp only [h0U] at hr
       split at hr
       rotate_left
       ·cases hr
       rename_i hof
       simp only [oqE,oqB,oqI] at hr
       obtain ⟨s,hs,r',hr',rfl⟩:=hr
       simp only [List.mapM_cons,oqE,oqB,oqP,oqI] at hxs
       obtain ⟨x,hx,xs',hxs',rfl⟩:=hxs
       obtain ⟨m1,a1,a2,a3⟩:=ih f.type s hs fuel _ x.1 x.2 hx
       simp only [oqa] at hle
       obtain ⟨m2,b1,b2⟩:=ihl (o + s.length) r' hr' xs' hxs' (by omega)
       refine ⟨m1++m2, ?_,a2.append b2⟩
       have:=a1.append b1
       rw [hof,<- a3] at this
       have e:(cs.drop o).take (s++r').length = (cs.drop o).take s.length++(cs.drop (o + s.length)).take r'.length:=by
        rw [oqa,List.take_add,List.drop_drop]
       rw [e];exact this
     obtain ⟨m,h1,h2⟩:=key fs.toList 0 sh' hsh xs hxs (by omega)
     refine ⟨m, ?_,h2⟩
     simpa [hlen',<- hcl] using h1
    case array m e =>
     simp only [oqB,oqI] at hsh
     obtain ⟨s,hs,rfl⟩:=hsh
     split at htr <;> (try simp_all;done)
     rename_i cs _ _ m' e' he
     simp only [oqI,TypeDesc.array.injEq] at he
     obtain ⟨rfl,rfl⟩:=he
     split at htr
     rotate_left
     ·cases htr
     rename_i hcl
     simp only [Option.map_eq_some_iff] at htr
     obtain ⟨xs,hxs,_⟩:=htr
     obtain ⟨_,g2⟩:=k0y hxs
     have hrl:∀ k,(t0u s k).length = k * s.length:=by
      intro k;induction k with
      | zero=>simp [t0u]
      | succ k ihk=>simp [t0u,ihk,Nat.succ_mul];omega
     have hel:∀ i,i < m->∃ l,RL w l ((cs.drop (i * s.length)).take s.length)/\FitL s l:=by
      intro i hi
      obtain ⟨y,_,hy⟩:=g2 i i (by simp [hi])
      obtain ⟨l,a1,a2,a3⟩:=ih e s hs fuel _ y.1 y.2 hy
      rw [<- a3] at a1
      exact ⟨l,a1,a2⟩
     have key:∀ k,k <= m->∃ l,RL w l ((cs.drop ((m - k) * s.length)).take (k * s.length))/\FitL (t0u s k) l:=by
      intro k
      induction k with
      | zero=>exact fun _=>⟨[],by simp;exact .nil,.nil⟩
      | succ k ihk =>
       intro hk
       obtain ⟨l2,b1,b2⟩:=ihk (by omega)
       obtain ⟨l1,a1,a2⟩:=hel (m - (k + 1)) (by omega)
       refine ⟨l1++l2, ?_,a2.append b2⟩
       have:=a1.append b1
       have e1:(m - k) * s.length = (m - (k + 1)) * s.length + s.length:=by rw [<- Nat.succ_mul];congr 1;omega
       rw [e1] at this
       have e2:(cs.drop ((m - (k + 1)) * s.length)).take ((k + 1) * s.length) = (cs.drop ((m - (k + 1)) * s.length)).take s.length++(cs.drop ((m - (k + 1)) * s.length + s.length)).take (k * s.length):=by
        rw [Nat.succ_mul,Nat.add_comm (k * s.length),List.take_add,List.drop_drop]
       rw [e2];exact this
     obtain ⟨l,h1,h2⟩:=key m (oqg _)
     refine ⟨l, ?_,h2⟩
     rw [hrl] at hlen'
     simpa [hlen',<- hcl] using h1
end
end Go.Ab
namespace Go.Ab
open Go.ChangeShapes Go.RowKit
def i0O (p:Bool × List CS) (a:AV):Prop:=if p.1 then ∃ l,a = .agg l/\FitL p.2 l else ∃ x c,p.2 = [c]/\a = .one x/\Fit c x
inductive FitAL:List (Bool × List CS)->List AV->Prop
 | nil:FitAL [] []
 | cons (p:Bool × List CS) (a:AV) (ps:List (Bool × List CS)) (xs:List AV):i0O p a->FitAL ps xs->FitAL (p::ps) (a::xs)
def c0k (P:Program) (n:Nat):List TypeId->Option (List (Bool × List CS))
 | []=>some []
 | t::ts=>do
  let g <- B9 P t
  let s <- c0y P n t
  let r <- c0k P n ts
  some ((g,s)::r)
section
variable {P:Program} {w:World} {H':Type} {enc:TypeId × Value->H'} {sp:Nat->Bool} {held:Bool}
theorem w0X {n:Nat} {t:TypeId} {g:Bool} {sh:List CS} (hg:B9 P t = some g) (hs:c0y P n t = some sh) {base:Nat} {v:Value} {d:DataW H'} {ps:List MemPlace} (h:DataW.Trod enc P w 0 sp held t v d ps) (hv:Value.okWide P w .any base t v) :
  ∃ a,AVR (start w) (Nf (start w)) w a v/\i0O (g,sh) a:=by
 obtain ⟨fuel,h⟩:=h
 obtain ⟨l,h1,h2,h3⟩:=x0o n t sh hs fuel _ d ps h
 simp only [B9,oqE,oqB] at hg
 obtain ⟨desc,hu,hg⟩:=hg
 unfold Value.okWide at hv
 rw [hu] at hv
 cases g with
 | true =>
  have hagg:∃ cs,v = .agg cs:=by
   cases desc <;> simp at hg
   ·obtain ⟨cs,h,_⟩:=hv;exact ⟨cs,h⟩
   ·obtain ⟨cs,h,_⟩:=hv;exact ⟨cs,h⟩
  obtain ⟨cs,rfl⟩:=hagg
  refine ⟨.agg l, ?_, ?_⟩
  ·have:=AVR.agg (φ:=start w) (O:=Nf (start w)) (w:=w) l cs.toList (by simpa [Value.cells] using h1)
   simpa using this
  ·show (if true = true then _ else _)
   rw [if_pos rfl];exact ⟨l,rfl,h2⟩
 | false =>
  have hone:∃ c,sh = [c]:=by
   cases n with
   | zero=>simp [c0y] at hs
   | succ n =>
    simp only [c0y,hu,oqS,oqB] at hs
    obtain ⟨s',hs',hl⟩:=hs
    split at hl
    ·simp only [oqI] at hl;subst hl
     cases desc <;> simp only [l0B,reduceCtorEq,oqI,oqB] at hs' hg
     case bool=>exact ⟨_,hs'.symm⟩
     case int=>exact ⟨_,hs'.symm⟩
     case float k=>cases k <;> simp only [l0B,reduceCtorEq,oqI] at hs';exact ⟨_,hs'.symm⟩
     case string=>exact ⟨_,hs'.symm⟩
     case slice e =>
      obtain ⟨s,_,hs'⟩:=hs'
      split at hs'
      ·cases hs'
      ·simp only [oqI] at hs';exact ⟨_,hs'.symm⟩
    ·cases hl
  obtain ⟨c,rfl⟩:=hone
  have hnagg:∀ cs,v ≠ .agg cs:=by
   rintro cs rfl
   cases desc <;> simp_all [Cell.okWide,Cell.ok]
  have hcells:v.cells.toList = [v]:=by
   cases v <;> first | rfl | exact absurd rfl (hnagg _)
  rw [hcells] at h1
  cases h2 with
  | cons _ x _ _ hx ht =>
   cases ht
   cases h1 with
   | cons _ _ _ _ hxv _ =>
    refine ⟨.one x,.one _ _ hxv, ?_⟩
    show (if false = true then _ else _)
    rw [if_neg (by simp)];exact ⟨x,c,rfl,rfl,hx⟩
theorem n0g {n:Nat}:∀ {ts:List TypeId} {shs:List (Bool × List CS)},c0k P n ts = some shs->∀ {base:Nat} {vs:List Value} {ds:List (DataW H')} {ps:List MemPlace},DataW.TrodAll enc P w 0 sp held ts vs ds ps ->
  (∀ (j:Nat) (t:TypeId) (v:Value),ts[j]? = some t->vs[j]? = some v->Value.okWide P w .any base t v)->∃ xs,AVL (start w) (Nf (start w)) w xs vs/\FitAL shs xs
 | [],shs,h,base,vs,ds,ps,ht,_=>by
  simp only [c0k,oqI] at h;subst h
  obtain ⟨rfl,rfl,rfl⟩:=trodAll_nil ht
  exact ⟨[],.nil,.nil⟩
 | t::ts,shs,h,base,vs,ds,ps,ht,hv=>by
  simp only [c0k,oqE,oqB,oqI] at h
  obtain ⟨g,hg,s,hs,r,hr,rfl⟩:=h
  obtain ⟨v,vs',d,ds',p,q,rfl,rfl,rfl,h1,h2⟩:=trodAll_cons ht
  obtain ⟨a,a1,a2⟩:=w0X hg hs h1 (hv 0 t v rfl rfl)
  obtain ⟨xs,b1,b2⟩:=n0g hr h2 (fun j t' v' hj hj'=>hv (j + 1) t' v' (by simpa using hj) (by simpa using hj'))
  exact ⟨a::xs,.cons _ _ _ _ a1 b1,.cons _ _ _ _ a2 b2⟩
theorem g0B (hl:laidOutB P = true) {W W':World} {sp':Nat->Bool}:∀ {ts:List TypeId} {vs:List Value} {ds:List (DataW H')} {ps:List MemPlace},(∀ t ∈ ts,P.readableRec t = true/\t < P.types.size) ->
  DataW.TrodAll enc P W 0 (fun _=>true) true ts vs ds ps->(∀ p ∈ ps,W.sameAt W' p)->(∀ p ∈ ps,sp' p.block = true)->DataW.TrodAll enc P W' 0 sp' true ts vs ds ps
 | [],vs,ds,ps,_,h,_,_=>by obtain ⟨rfl,rfl,rfl⟩:=trodAll_nil h;rfl
 | t::ts,vs,ds,ps,ht,h,h1,h2=>by
  obtain ⟨v,vs',d,ds',p,q,rfl,rfl,rfl,g1,g2⟩:=trodAll_cons h
  exact ⟨p,q,WideElems.Trod_stays hl (ht t (by simp)).1 (ht t (by simp)).2 g1 (fun x hx=>h1 x (by simp [hx])) (fun x hx=>h2 x (by simp [hx])),
   g0B hl (fun t' h'=>ht t' (by simp [h'])) g2 (fun x hx=>h1 x (by simp [hx])) (fun x hx=>h2 x (by simp [hx])),rfl⟩
end
theorem t0j {C:Conf} (hW:J3 C.P (W C)) {f:Nat} {fn:Func} {c:Code} (hf:C.P.funcs[f]? = some fn) (hb:fn.body = some c) (hn:(fn.name == "runtime.NumGoroutine") = false) {xs:List AV} {args:List Value} {w:World}
  (ha:AVL (start w) (Nf (start w)) w xs args) (hlaw:∃ h',W C f xs H.empty = some (.ret (.one (.bool true)) h')):Calls C.P f args.toArray w fun e w'=>e = .returned (.bool true)/\Below w.heap.size w w':=by
 obtain ⟨h',hh⟩:=hlaw
 have hn':¬ fn.name = "runtime.NumGoroutine" := by simpa using hn
 rcases hW f xs H.empty _ hh (start w) w args (t0Y w) ha with ⟨cv,w',hr,_⟩ | ⟨_,hC⟩
 ·simp only [callFunc,Sem.run_bind,run_program,Result.andThen_ok,hf,hb,beq_iff_eq,hn',if_false,Option.isNone_some,oqF,Sem.run_pure] at hr
  cases hr
 ·refine Calls.mono hC ?_
  intro e w' he
  cases e with
  | returned cv =>
   obtain ⟨v,h1,φ',e1,R',G,hv⟩:=he
   cases e1
   have:=hv.one_inv.bool_inv
   subst this
   exact ⟨rfl,G.os,G.tape,G.output,G.size,fun k hk=>G.keepF k hk hk⟩
  | panicked ch =>
   obtain ⟨v,h1,φ',cv,e1,_⟩:=he
   cases e1
  | outgrown=>exact he.elim
structure LawSpec (s:ChangeSpec) (n:Nat):Prop where
 vars:s.vars = []
 fn:∀ (H:Type) (ds:List (DataW H)),ds.length = n->s.fn H ds = { results:=[.lit (.bool true)],args:=ds }
theorem r0C {Ck:Checked} {os:Os} {f:FuncId} {fn:Func} {s:ChangeSpec} {H':Type} {enc:TypeId × Value->H'} {a:Assume} (own:ownKnob Ck.prog.godebug = none) (started:os.Started) (noInit:Ck.prog.inits.idxOf? f = none)
  (hf:Ck.prog.funcs[f]? = some fn) (hl:laidOutB Ck.prog = true) {tb:TypeId} (hrt:fn.resultTypes = #[tb]) (hb:Ck.prog.underlying tb = some .bool) (hpr:∀ t ∈ fn.params.toList,Ck.prog.readableRec t = true/\t < Ck.prog.types.size)
  (hs:LawSpec s fn.params.size)
  (witness:∃ (w:World) (tape:Tape) (i:Input),w.os = os/\(w.forCall tape i).Shaped Ck.prog/\i.vars = []/\Input.okWide Ck.prog (w.forCall tape i) .any w.heap.size f i /\
   s.pre6 enc Ck.prog fn [] false (w.forCall tape i).memory i.args/\a.holds Ck.prog (lone (Frame.enter Ck.prog f i.args .normal) [] (w.forCall tape i)))
  {n:Nat} {shs:List (Bool × List CS)} (hsh:c0k Ck.prog n fn.params.toList = some shs)
  (hlaw:∀ (w:World) (xs:List AV) (args:List Value),FitAL shs xs->AVL (start w) (Nf (start w)) w xs args->Calls Ck.prog f args.toArray w fun e w'=>e = .returned (.bool true)/\Below w.heap.size w w') :
  ReturnsInHanded a Ck os f .any (s.pre6 enc Ck.prog fn [] false) (s.post enc Ck.prog fn false true false false):=by
 refine returnsInHanded_of_change (C:=Ck) own started noInit hf witness ?_
 intro W base args ds gs before hval hW _ _
 have hW':=hW
 obtain ⟨p,q,hA,hV,rfl,hfz,hnd⟩:=hW
 have hv0:=hV
 rw [hs.vars] at hv0
 obtain ⟨rfl,rfl⟩:=trodVars_none hv0
 obtain ⟨xs,h1,h2⟩:=n0g hsh hA (base:=base) (fun j t v hj hj'=>hval j t v (by simpa using hj) (by simpa using hj'))
 have hcall:=hlaw W xs args.toList h2 h1
 have hlen:∀ {ts:List TypeId} {vs:List Value} {ds:List (DataW H')} {ps:List MemPlace},DataW.TrodAll enc Ck.prog W 0 (fun _=>true) true ts vs ds ps->ds.length = ts.length:=by
  intro ts
  induction ts with
  | nil=>intro vs ds ps h;obtain ⟨rfl,rfl,rfl⟩:=trodAll_nil h;rfl
  | cons t ts ih =>
   intro vs ds ps h
   obtain ⟨v,vs',d,ds',p,q,rfl,rfl,rfl,g1,g2⟩:=trodAll_cons h
   simp [ih g2]
 have hfn:=hs.fn H' ds (by rw [hlen hA];simp)
 refine Calls.mono (by simpa using hcall) ?_
 rintro e W' ⟨rfl,hbel⟩
 refine ⟨_,rfl,ds,[],p++[],[],p,[],hW', ?_, ?_, ?_, ?_,fun h=>by cases h⟩
 ·rw [List.append_nil,hfn,hrt]
  exact trodAll_mk1 (by simpa [Value.resultList] using shut_bool hb true)
 ·rw [List.append_nil,hfn]
  exact g0B hl hpr hA (fun x hx=>hbel.same (hW'.lt x (by simp [hx]))) (fun x hx=>by simpa using hW'.lt x (by simp [hx]))
 ·rw [List.append_nil,hfn,hs.vars];rfl
 ·refine World.keptBut_mono (fun x hx=>⟨hx,.inr (.inl (by simpa using hx))⟩) (hbel.frame (· ∈ p++[]))
def I0a (P:Program):Bool:=(List.range P.types.size).all fun t=>match P.types[t]? with
 | some i=>(match i.zero with | some z=>Nat.beq z.cells.size i.size | none=>false) &&
   (match P.underlying t with | some (.struct fs)=>fs.toList.all fun f=>(P.info? f.type).isSome | _=>true)
 | none=>false
theorem C0Y {P:Program} (h:I0a P = true):OkT P:=by
 have hall:∀ t,t < P.types.size->∃ i,P.types[t]? = some i/\(∃ z,i.zero = some z/\z.cells.size = i.size)/\∀ fs,P.underlying t = some (.struct fs)->∀ f ∈ fs.toList,(P.info? f.type).isSome = true:=by
  intro t ht
  have:=oqn.1 h t (by simpa using ht)
  have hi:P.types[t]? = some P.types[t]:=by simp [ht]
  rw [hi] at this
  simp only [oqd] at this
  refine ⟨_,hi, ?_,fun fs hfs=>?_⟩
  ·have h1:=this.1
   split at h1
   ·rename_i z hz;exact ⟨z,hz,by simpa using h1⟩
   ·cases h1
  ·have h2:=this.2
   rw [hfs] at h2
   exact oqn.1 h2
 refine ⟨fun t i ht hi=>?_,fun t fs ht hfs=>?_⟩
 ·obtain ⟨i',h1,h2,_⟩:=hall t ht
  unfold Tables.info? at hi
  rw [if_pos ht,h1] at hi
  cases hi;exact h2
 ·obtain ⟨i',h1,_,h3⟩:=hall t ht
  exact h3 fs hfs
def okNB (P:Program):Bool:=P.funcs.toList.all fun fn=>fn.body.isNone || !(fn.name == "runtime.NumGoroutine")
theorem C0s {P:Program} (h:okNB P = true):∀ (f:Nat) (fn:Func),P.funcs[f]? = some fn->fn.body.isSome = true->(fn.name == "runtime.NumGoroutine") = false:=by
 intro f fn hf hb
 have hm:fn ∈ P.funcs.toList:=by
  have:P.funcs.toList[f]? = some fn:=by simpa using hf
  exact List.mem_of_getElem? this
 have:=oqn.1 h fn hm
 cases hbb:fn.body with
 | none=>rw [hbb] at hb;cases hb
 | some c=>rw [hbb] at this;simpa using this
def OptQ (o:Out) (Q:Ex->Fr->H->Prop):Prop:=∃ x fr h,o = some (x,fr,h)/\Q x fr h
theorem d0O (x:Ex) (fr:Fr) (h:H) (Q:Ex->Fr->H->Prop):OptQ (some (x,fr,h)) Q = Q x fr h:=by
 simp only [OptQ,oqI,oqM]
 apply propext
 constructor
 ·rintro ⟨_,_,_,⟨rfl,rfl,rfl⟩,hq⟩;exact hq
 ·exact fun hq=>⟨_,_,_,⟨rfl,rfl,rfl⟩,hq⟩
theorem OptQ.mono {o:Out} {Q Q':Ex->Fr->H->Prop} (h:OptQ o Q) (hq:∀ x fr h,Q x fr h->Q' x fr h):OptQ o Q':=by
 obtain ⟨x,fr,h',e,hx⟩:=h;exact ⟨x,fr,h',e,hq _ _ _ hx⟩
def l0Y (t:Bool) (A B:Prop):Prop:=(t = true->A)/\(t = false->B)
theorem u0h {A B:Prop}:l0Y true A B = A:=by simp [l0Y]
theorem r0H {A B:Prop}:l0Y false A B = B:=by simp [l0Y]
def p0v (o:Option AS) (A B:Prop):Prop:=∃ t,o = some (.bool t)/\l0Y t A B
theorem r0G (t:Bool) (A B:Prop):p0v (some (.bool t)) A B = l0Y t A B:=by
 apply propext
 constructor
 ·rintro ⟨t',h,hf⟩;cases h;exact hf
 ·exact fun hf=>⟨t,rfl,hf⟩
section
variable {C:Conf} (hp:PrimOk C)
include hp
def M4 (C:Conf) (c:Code) (fr:Fr) (h:H) (Q:Ex->Fr->H->Prop):Prop:=OptQ (X C c fr h) Q
def b0P (C:Conf) (ops l:List Oper) (fr:Fr) (h:H) (Q:Ex->Fr->H->Prop):Prop:=OptQ (U6 C (W C) ops l fr h) Q
theorem w0G {a b:Code} {fr:Fr} {h:H} {Q:Ex->Fr->H->Prop} (hq:M4 C a fr h fun x fr' h'=>match x with | .normal=>M4 C b fr' h' Q | x=>Q x fr' h'):M4 C (.seq a b) fr h Q:=by
 unfold M4;rw [i0Y hp]
 obtain ⟨x,fr',h',e,hx⟩:=hq
 simp only [step,e,oqE,oqS]
 cases x with
 | normal=>exact hx
 | _=>exact ⟨_,_,_,rfl,hx⟩
theorem t0L {c:Operand} {a b:Code} {fr:Fr} {h:H} {Q:Ex->Fr->H->Prop} {t:Bool} (hc:evS fr c = some (.bool t)) (hq:M4 C (if t then a else b) fr h Q):M4 C (.cond c a b) fr h Q:=by
 unfold M4;rw [i0Y hp]
 simp only [step,hc,oqE,oqS]
 exact hq
theorem r0r {c:Operand} {a b:Code} {fr:Fr} {h:H} {Q:Ex->Fr->H->Prop} (hq:p0v (evS fr c) (M4 C a fr h Q) (M4 C b fr h Q)):M4 C (.cond c a b) fr h Q:=by
 obtain ⟨t,h1,h2,h3⟩:=hq
 refine t0L hp h1 ?_
 cases t
 ·exact h3 rfl
 ·exact h2 rfl
theorem q0E {id:Nat} {b:Code} {fr:Fr} {h:H} {Q:Ex->Fr->H->Prop} (hq:M4 C b fr h fun x fr' h'=>match x with | .exit i=>if i = id then Q .normal fr' h' else Q (.exit i) fr' h' | x=>Q x fr' h'):M4 C (.block id b) fr h Q:=by
 unfold M4;rw [i0Y hp]
 obtain ⟨x,fr',h',e,hx⟩:=hq
 simp only [step,e,oqE,oqS]
 cases x with
 | exit i =>
  simp only at hx |-
  split
  ·rename_i hi;rw [if_pos hi] at hx;exact ⟨_,_,_,rfl,hx⟩
  ·rename_i hi;rw [if_neg hi] at hx;exact ⟨_,_,_,rfl,hx⟩
 | _=>exact ⟨_,_,_,rfl,hx⟩
theorem b0x {b:Code} (I:Nat->Fr->H->Prop) {Q:Ex->Fr->H->Prop} (hI:∀ n fr h,I n fr h->M4 C b fr h fun x fr' h'=>match x with | .normal=>∃ m,m < n/\I m fr' h' | x=>Q x fr' h') :
  ∀ n fr h,I n fr h->M4 C (.loop b) fr h Q:=by
 intro n
 induction n using Nat.strongRecOn with
 | _ n ih =>
  intro fr h hi
  unfold M4;rw [i0Y hp]
  obtain ⟨x,fr',h',e,hx⟩:=hI n fr h hi
  simp only [step,e,oqE,oqS]
  cases x with
  | normal=>obtain ⟨m,hm,hi'⟩:=hx;exact ih m hm fr' h' hi'
  | _=>exact ⟨_,_,_,rfl,hx⟩
def fin (C:Conf) (rs:List ResultVar) (r:CR) (x:Ex) (fr:Fr) (h:H):Prop :=
 match x with
 | .normal | .ret=>∃ v,O4 C fr h rs = some v/\r = .ret v h
 | .pan v=>r = .pan v h
 | .exit _=>False
theorem k0E {f:Nat} {fn:Func} {c:Code} (h1:C.prim f = none) (h2:C.ext f = none) (h3:C.frz f = false) (h4:C.P.funcs[f]? = some fn) (h5:fn.body = some c) {args:List AV} {h:H} {r:CR} (h6:args.length <= fn.ntmps)
  (hq:M4 C c (args++List.replicate (fn.ntmps - args.length) .undef) h (fin C fn.results.toList r)):W C f args h = some r:=by
 rw [u0d hp]
 unfold callF
 rw [h1,h2]
 obtain ⟨x,fr',h',e,hx⟩:=hq
 have h3':¬ C.frz f = true:=by rw [h3];simp
 simp only [h4,oqE,oqS,h5,if_neg (Nat.not_lt.2 h6),if_neg h3',e]
 cases x with
 | normal=>obtain ⟨v,hv,rfl⟩:=hx;simp [hv]
 | ret=>obtain ⟨v,hv,rfl⟩:=hx;simp [hv]
 | pan v=>have hx:r = .pan v h':=hx;rw [hx]
 | exit i=>exact hx.elim
theorem p0p {f:Nat} {x:Ext} (h1:C.prim f = none) (h2:C.ext f = some x) (args:List AV) (h:H):W C f args h = u0q x args h:=by
 rw [u0d hp];unfold callF;rw [h1,h2]
end
section
variable {C:Conf} {ops l:List Oper} {fr:Fr} {h:H} {Q:Ex->Fr->H->Prop} {o:Oper}
theorem u0D:b0P C ops [] fr h Q = Q .normal fr h:=by simp only [b0P,U6,d0O]
end
theorem r0u {α β:Type} {x y:Option α} {f:α->Option β} (h:x = y):x.bind f = y.bind f:=by rw [h]
theorem w0l (a:AV) (l:Fr):Fr.get (a::l) 0 = a:=rfl
theorem w0y (a:AV) (l:Fr) (n:Nat):Fr.get (a::l) (n + 1) = Fr.get l n:=rfl
theorem z0b (fr:Fr) (i j:Nat) (v:AV):Fr.get (fr.set i v) j = if i = j/\j < fr.length then v else Fr.get fr j:=by
 have:=c0T fr (some i) v j
 simpa [h0T] using this
def Sees (h:H) (size:Nat) (s:AS) (cells:List AS):Prop :=
 match s with
 | .nilslc=>cells = []
 | .vs n s' q=>s' = size/\q = cells/\cells.length = n * size
 | .slc b v o n s' _=>s' = size/\K8 h (.ptr b v o) (n * size) = some cells
 | _=>False
def atS (size:Nat) (s:AS) (i:Nat):AS :=
 match s with
 | .slc b v o _ _ _=>.ptr b v (o + i * size)
 | .vs _ _ q=>.rp q (i * size)
 | _=>.nilptr
theorem l0w {l q:List AS} {o n:Nat} (h:sub l o n = some q):o + n <= l.length/\q = (l.drop o).take n:=by
 unfold sub at h
 split at h
 ·exact ⟨‹_›,(Option.some.inj h).symm⟩
 ·cases h
theorem m0x {h:H} {p:AS} {n:Nat} {q:List AS} (hr:K8 h p n = some q):q.length = n:=by
 cases p <;> simp only [K8,reduceCtorEq,oqE,oqB] at hr
 ·obtain ⟨k,_,e,_,hr⟩:=hr
  split at hr
  ·obtain ⟨h1,h2⟩:=l0w hr;rw [h2];simp;omega
  ·cases hr
 ·obtain ⟨h1,h2⟩:=l0w hr;rw [h2];simp;omega
theorem u0a {h:H} {b v o n:Nat} {q:List AS} (hr:K8 h (.ptr b v o) n = some q) {i m:Nat} (hi:i + m <= n):K8 h (.ptr b v (o + i)) m = some ((q.drop i).take m):=by
 simp only [K8,oqE,oqB] at hr |-
 obtain ⟨k,hk,e,he,hr⟩:=hr
 split at hr
 ·rename_i hle
  obtain ⟨h1,h2⟩:=l0w hr
  refine ⟨k,hk,e,he, ?_⟩
  rw [if_pos (by omega)]
  unfold sub
  rw [if_pos (by omega),h2,List.drop_take,List.take_take,List.drop_drop]
  congr 2;omega
 ·cases hr
section
variable {h:H} {size:Nat} {s:AS} {cells:List AS} {n:Nat}
theorem f0z (hs:Sees h size s cells) (h0:0 < size) (hn:cells.length = n * size):U9 s = some n:=by
 cases s <;> simp only [Sees] at hs
 ·subst hs
  simp only [oqc] at hn
  have:n = 0:=by rcases Nat.mul_eq_zero.1 hn.symm with h | h <;> omega
  rw [this];rfl
 ·rename_i b v o m s' c
  obtain ⟨rfl,hr⟩:=hs
  have:=m0x hr
  rw [hn] at this
  have:=Nat.eq_of_mul_eq_mul_right h0 this
  rw [this];rfl
 ·rename_i m s' q
  obtain ⟨rfl,rfl,hl⟩:=hs
  rw [hn] at hl
  have:=Nat.eq_of_mul_eq_mul_right h0 hl
  rw [this];rfl
theorem a0b {P:Program} {t u:Nat} (ht:P.underlying t = some (.slice u)) (hu:B5 P u = some size) (hs:Sees h size s cells) (h0:0 < size) (hn:cells.length = n * size) {i:Nat} (hi:i < n):U7 P t s i = some (atS size s i):=by
 unfold U7
 simp only [ht,hu,oqE,oqS]
 have hl:=f0z hs h0 hn
 cases s <;> simp only [Sees] at hs
 ·simp only [U9,oqI] at hl;omega
 ·simp only [U9,oqI] at hl
  obtain ⟨rfl,hr⟩:=hs
  simp only [atS,h0,hl,hi,true_and,if_true]
 ·simp only [U9,oqI] at hl
  obtain ⟨rfl,hr⟩:=hs
  simp only [atS,h0,hl,hi,true_and,if_true]
theorem a0z (hs:Sees h size s cells) (h0:0 < size) (hn:cells.length = n * size) {i:Nat} (hi:i < n):K8 h (atS size s i) size = some ((cells.drop (i * size)).take size):=by
 have hl:=f0z hs h0 hn
 have him:i * size + size <= n * size:=by rw [<- Nat.succ_mul];exact Nat.mul_le_mul_right _ hi
 cases s <;> simp only [Sees] at hs
 ·simp only [U9,oqI] at hl;omega
 ·simp only [U9,oqI] at hl
  obtain ⟨rfl,hr⟩:=hs
  rw [hl] at hr
  exact u0a hr him
 ·simp only [U9,oqI] at hl
  obtain ⟨rfl,rfl,hr⟩:=hs
  simp only [atS,K8,sub]
  rw [if_pos (by omega)]
end
attribute [congr] r0u
def onW (b:Option Bool) (A B:Prop):Prop:=(b = some true/\A) \/ (b = some false/\B)
@[simp] theorem w0Q (A B:Prop):onW (some true) A B = A:=by simp [onW]
@[simp] theorem t0Q (A B:Prop):onW (some false) A B = B:=by simp [onW]
@[congr] theorem D0B {b c:Option Bool} {A B:Prop} (h:b = c):onW b A B = onW c A B:=by rw [h]
def onF (f:Option Fr) (K:Fr->Prop):Prop:=∃ fr,f = some fr/\K fr
@[simp] theorem F0N (fr:Fr) (K:Fr->Prop):onF (some fr) K = K fr:=by simp [onF]
@[congr] theorem D0u {f g:Option Fr} {K:Fr->Prop} (h:f = g):onF f K = onF g K:=by rw [h]
def onR (r:Option RO) (K:AV->H->Prop) (Kp:AS->H->Prop):Prop:=(∃ v h,r = some (.ok v h)/\K v h) \/ (∃ v h,r = some (.pan v h)/\Kp v h)
@[simp] theorem n0U (v:AV) (h:H) (K:AV->H->Prop) (Kp:AS->H->Prop):onR (some (.ok v h)) K Kp = K v h:=by
 apply propext;constructor
 ·rintro (⟨_,_,e,hk⟩ | ⟨_,_,e,_⟩)
  ·cases e;exact hk
  ·cases e
 ·exact fun hk=>.inl ⟨_,_,rfl,hk⟩
@[simp] theorem A0i (v:AS) (h:H) (K:AV->H->Prop) (Kp:AS->H->Prop):onR (some (.pan v h)) K Kp = Kp v h:=by
 apply propext;constructor
 ·rintro (⟨_,_,e,_⟩ | ⟨_,_,e,hk⟩)
  ·cases e
  ·cases e;exact hk
 ·exact fun hk=>.inr ⟨_,_,rfl,hk⟩
@[congr] theorem D0Z {r s:Option RO} {K:AV->H->Prop} {Kp:AS->H->Prop} (h:r = s):onR r K Kp = onR s K Kp:=by rw [h]
@[congr] theorem A0I {o p:Option AS} {A B:Prop} (h:o = p):p0v o A B = p0v p A B:=by rw [h]
@[congr] theorem B0S {s t:Bool} {A B:Prop} (h:s = t):l0Y s A B = l0Y t A B:=by rw [h]
@[congr] theorem B0s {C:Conf} {c:Code} {fr fr':Fr} {h h':H} {Q:Ex->Fr->H->Prop} (h1:fr = fr') (h2:h = h'):M4 C c fr h Q = M4 C c fr' h' Q:=by rw [h1,h2]
@[congr] theorem B0c {C:Conf} {ops l:List Oper} {fr fr':Fr} {h h':H} {Q:Ex->Fr->H->Prop} (h1:fr = fr') (h2:h = h'):b0P C ops l fr h Q = b0P C ops l fr' h' Q:=by rw [h1,h2]
@[congr] theorem C0L {P P':Program} {cmp:Nat->Option (List AS)} {fr:Fr} {h:H} {o:Oper} (h1:P = P'):opA P cmp fr h o = opA P' cmp fr h o:=by rw [h1]
@[congr] theorem v0F {fr fr':Fr} {ops:List Oper} {o:Oper} (h1:fr = fr'):O8 fr ops o = O8 fr' ops o:=by rw [h1]
attribute [simp] u0h r0H r0G w0l w0y z0b
def W9 (W:C2):OR->Option RO
 | .val v h=>some (.ok v h)
 | .skip h=>some (.ok .undef h)
 | .call f args h=>(W f args h).bind fun r=>match r with | .ret v h=>some (.ok v h) | .pan v h=>some (.pan v h)
 | .pan v h=>some (.pan v h)
@[simp] theorem D0c (W:C2) (v:AV) (h:H):W9 W (.val v h) = some (.ok v h):=rfl
@[simp] theorem A0N (W:C2) (h:H):W9 W (.skip h) = some (.ok .undef h):=rfl
@[simp] theorem B0w (W:C2) (v:AS) (h:H):W9 W (.pan v h) = some (.pan v h):=rfl
def crO:CR->Option RO
 | .ret v h=>some (.ok v h)
 | .pan v h=>some (.pan v h)
@[simp] theorem o0q (v:AV) (h:H):crO (.ret v h) = some (.ok v h):=rfl
@[simp] theorem z0w (v:AS) (h:H):crO (.pan v h) = some (.pan v h):=rfl
@[simp] theorem A0X (W:C2) (f:Nat) (args:List AV) (h:H):W9 W (.call f args h) = (W f args h).bind crO:=by
 simp only [W9]
 cases W f args h with
 | none=>rfl
 | some r=>cases r <;> rfl
theorem f0j (C:Conf) (W:C2) (fr:Fr) (h:H) (o:Oper):W6 C W fr h o = (opA C.P C.cmp fr h o).bind (W9 W):=by
 simp only [W6,oqE]
 cases opA C.P C.cmp fr h o with
 | none=>rfl
 | some r=>cases r <;> rfl
theorem r0X (C:Conf) (ops:List Oper) (fr:Fr) (h:H) (Q:Ex->Fr->H->Prop):b0P C ops [] fr h Q = Q .normal fr h:=u0D
theorem q0X (C:Conf) (ops l:List Oper) (o:Oper) (fr:Fr) (h:H) (Q:Ex->Fr->H->Prop):b0P C ops (o::l) fr h Q =
  onW (O8 fr ops o) (onR ((opA C.P C.cmp fr h o).bind (W9 (W C))) (fun v h'=>onF (Fr.put fr o.dst v) fun fr'=>b0P C ops l fr' h' Q) (fun v h'=>Q (.pan v) fr h'))
   (onF (Fr.put fr o.dst .undef) fun fr'=>b0P C ops l fr' h Q):=by
 rw [<- f0j]
 unfold b0P
 simp only [U6,d0g,oqE]
 cases O8 fr ops o with
 | none=>simp [OptQ,onW]
 | some b =>
  cases b with
  | true =>
   simp only [oqS,if_true,w0Q]
   cases W6 C (W C) fr h o with
   | none=>simp [OptQ,onR]
   | some r =>
    cases r with
    | ok v h' =>
     simp only [oqS,n0U]
     cases Fr.put fr o.dst v with
     | none=>simp [OptQ,onF]
     | some fr'=>simp [onF]
    | pan v h'=>simp [d0O]
  | false =>
   simp only [oqS,oqF,if_false,t0Q]
   cases Fr.put fr o.dst .undef with
   | none=>simp [OptQ,onF]
   | some fr'=>simp [onF]
section
variable (fr:Fr) (ops:List Oper) (dst:Option Nat) (op:Op) (ty:TypeId) (pos:String) (af:Array Edge)
@[simp] theorem B0k:O8 fr ops ⟨dst,op,ty,pos,af,none⟩ = some true:=rfl
def r0x (v:AV) (want:Bool):Option Bool:=match v with | .one (.bool b)=>some (b == want) | .undef=>some false | _=>none
@[simp] theorem A0y (b want:Bool):r0x (.one (.bool b)) want = some (b == want):=rfl
@[simp] theorem y0w (want:Bool):r0x .undef want = some false:=rfl
@[simp] theorem A0B (j:Nat) (want:Bool):O8 fr ops ⟨dst,op,ty,pos,af,some (j,want)⟩ = (ops[j]?).bind fun q=>q.dst.bind fun d=>r0x (Fr.get fr d) want:=by
 simp only [O8,oqE];rfl
@[simp] theorem F0l (v:AV):Fr.put fr none v = some fr:=rfl
@[simp] theorem F0j (d:Nat) (v:AV):Fr.put fr (some d) v = if d < fr.length then some (fr.set d v) else none:=rfl
@[simp] theorem C0o (t:Nat):ev fr (.tmp t) = some (Fr.get fr t):=rfl
@[simp] theorem F0D (v:Value):ev fr (.const v) = b0C v:=rfl
@[simp] theorem H0n (f:Nat):ev fr (.func f) = some (.one (.fn f [] [])):=rfl
def v0z:AV->Option AS | .one a=>some a | _=>none
@[simp] theorem F0W (a:AS):v0z (.one a) = some a:=rfl
@[simp] theorem s0D (x:Operand):evS fr x = (ev fr x).bind v0z:=by
 simp only [evS,oqE]
 cases ev fr x with
 | none=>rfl
 | some v=>cases v <;> rfl
@[simp] theorem A0K (b:Bool):b0C (.bool b) = some (.one (.bool b)):=rfl
@[simp] theorem C0Z (k:IntKind) (n:Int):b0C (.int k n) = some (.one (.int k n)):=rfl
@[simp] theorem z0Y (n:Nat):b0C (.float .f64 n) = some (.one (.flt n)):=rfl
@[simp] theorem y0j (s:ByteArray):b0C (.string s) = some (.one (.str s.data.toList)):=rfl
@[simp] theorem y0b:b0C (.pointer none) = some (.one .nilptr):=rfl
@[simp] theorem x0Z:b0C (.slice none 0 0) = some (.one .nilslc):=rfl
@[simp] theorem z0J:b0C .nilFunc = some (.one .nilfn):=rfl
@[simp] theorem y0c:b0C .nilIface = some (.one .nilifc):=rfl
@[simp] theorem B0X (cs:Array Value):b0C (.agg cs) = (d0j cs.toList).bind fun l=>some (.agg l):=rfl
@[simp] theorem C0k:d0j [] = some []:=rfl
@[simp] theorem A0r (v:Value) (l:List Value):d0j (v::l) = (a0Z v).bind fun a=>(d0j l).bind fun r=>some (a::r):=rfl
attribute [simp] a0Z
@[simp] theorem H0C:evL fr [] = some []:=rfl
@[simp] theorem G0J (x:Operand) (l:List Operand):evL fr (x::l) = (ev fr x).bind fun a=>(evL fr l).bind fun r=>some (a::r):=rfl
@[simp] theorem F0z:f0M fr [] = some []:=rfl
@[simp] theorem D0o (x:Operand) (l:List Operand):f0M fr (x::l) = ((ev fr x).bind v0z).bind fun a=>(f0M fr l).bind fun r=>some (a::r):=by
 simp only [f0M,s0D,oqE]
@[simp] theorem G0f:evO fr none = some none:=rfl
@[simp] theorem G0v (x:Operand):evO fr (some x) = (ev fr x).bind fun v=>some (some v):=rfl
attribute [simp] AV.cells Z6 u0r
end
section
variable (P:Program) (cmp:Nat->Option (List AS)) (fr:Fr) (h:H) (d:Option Nat) (ty:TypeId) (pos:String) (af:Array Edge) (g:Option (Nat × Bool))
@[simp] theorem G0m (x:Operand):opA P cmp fr h ⟨d,.move x,ty,pos,af,g⟩ = (ev fr x).bind fun v=>some (.val v h):=rfl
@[simp] theorem B0Y (x:Operand):opA P cmp fr h ⟨d,.assign x,ty,pos,af,g⟩ = (ev fr x).bind fun v=>some (.val v h):=rfl
def o0U (c:AS) (a b:Option AV) (h:H):Option OR:=match c with | .bool t=>(if t then a else b).bind fun v=>some (.val v h) | _=>none
@[simp] theorem B0V (a b:Option AV):o0U (.bool true) a b h = a.bind fun v=>some (.val v h):=rfl
@[simp] theorem B0j (a b:Option AV):o0U (.bool false) a b h = b.bind fun v=>some (.val v h):=rfl
@[simp] theorem D0k (t u:Bool):o0U (.bool t) (some (.one (.bool u))) (some (.one (.bool false))) h = some (.val (.one (.bool (t && u))) h):=by cases t <;> rfl
@[simp] theorem G0g (t u:Bool):o0U (.bool t) (some (.one (.bool true))) (some (.one (.bool u))) h = some (.val (.one (.bool (t || u))) h):=by cases t <;> rfl
@[simp] theorem F0X (c a b:Operand):opA P cmp fr h ⟨d,.pick c a b,ty,pos,af,g⟩ = (evS fr c).bind fun t=>o0U t (ev fr a) (ev fr b) h:=by
 simp only [opA,oqE];congr 1;funext t;cases t
 case bool b=>cases b <;> rfl
 all_goals rfl
@[simp] theorem D0N (t:TypeId):opA P cmp fr h ⟨d,.alloc t,ty,pos,af,g⟩ = (I7 P t).bind fun z=>some (one (.ptr h.next 0 0) (h.new (F0 z true))):=rfl
@[simp] theorem H0G (t:TypeId) (x:Operand):opA P cmp fr h ⟨d,.box t x,ty,pos,af,g⟩ = (ev fr x).bind fun v=>v.cells.bind fun l=>some (one (.ptr h.next 0 0) (h.new (F0 l true))):=rfl
def r0A (t:TypeId) (ps:List (Nat × Operand)):Option OR :=
 (P.underlying t).bind fun u=>match u with
  | .struct fs=>if t < P.types.size then (I7 P t).bind fun z=>(parts (fun i=>(fs[i]?).bind fun f=>(B5 P f.type).bind fun s=>some (f.offset,s)) fr ps z).bind fun l=>some (.val (.agg l) h) else none
  | .array _ u=>(B5 P u).bind fun size=>(I7 P t).bind fun z=>(parts (fun i=>some (i * size,size)) fr ps z).bind fun l=>some (.val (.agg l) h)
  | _=>none
@[simp] theorem D0A (t:TypeId) (ps:Array (Nat × Operand)):opA P cmp fr h ⟨d,.build t ps,ty,pos,af,g⟩ = r0A P fr h t ps.toList:=by
 simp only [opA,r0A,oqE]
 rfl
def t0c (t:TypeId) (n:Nat) (ps:List (Nat × Operand)):Option OR :=
 (V3 P t).bind fun el=>(B5 P el).bind fun size=>(I7 P el).bind fun z=>if z.length = size/\0 < size/\n * size <= 16777216 then
  (parts (fun i=>some (i * size,size)) fr ps (f0p z n)).bind fun l=>some (one (.slc h.next 0 0 n size none) (h.new (F0 l true))) else none
@[simp] theorem w0K (t:TypeId) (n:Nat) (ps:Array (Nat × Operand)):opA P cmp fr h ⟨d,.buildSlice t n ps,ty,pos,af,g⟩ = t0c P fr h t n ps.toList:=rfl
@[simp] theorem G0D (t:TypeId) (x:Operand):opA P cmp fr h ⟨d,.load t x,ty,pos,af,g⟩ = (evS fr x).bind fun p=>(B5 P t).bind fun n=>(K8 h p n).bind fun l=>(B9 P t).bind fun a=>(Z6 a l).bind fun v=>some (.val v h):=rfl
@[simp] theorem D0t (t:TypeId) (x y:Operand):opA P cmp fr h ⟨d,.store t x y,ty,pos,af,g⟩ = (ev fr y).bind fun v=>v.cells.bind fun l=>if B5 P t = some l.length then (evS fr x).bind fun p=>(b0n h p l).bind fun h'=>some (.skip h') else none:=by
 simp only [opA,oqE]
def y0E (a:AS) (h:H):Option OR:=match a with | .ptr .. | .rp .. | .fn ..=>some (one a h) | _=>none
@[simp] theorem G0r (b v o:Nat):y0E (.ptr b v o) h = some (one (.ptr b v o) h):=rfl
@[simp] theorem H0k (c:List AS) (o:Nat):y0E (.rp c o) h = some (one (.rp c o) h):=rfl
@[simp] theorem H0m (f:Nat) (a b:List AS):y0E (.fn f a b) h = some (one (.fn f a b) h):=rfl
@[simp] theorem A0m (x:Operand):opA P cmp fr h ⟨d,.nilCheck x,ty,pos,af,g⟩ = (evS fr x).bind fun a=>y0E a h:=by
 simp only [opA,oqE];congr 1
@[simp] theorem D0K (op:BinOp) (t u:TypeId) (x y:Operand):opA P cmp fr h ⟨d,.binOp op t x y u,ty,pos,af,g⟩ = (ev fr x).bind fun a=>(ev fr y).bind fun b=>(bin P cmp op t a b).bind fun r=>some (one r h):=rfl
@[simp] theorem G0w (op:UnOp) (t:TypeId) (x:Operand):opA P cmp fr h ⟨d,.unOp op t x,ty,pos,af,g⟩ = (ev fr x).bind fun a=>(un op a).bind fun r=>some (one r h):=rfl
@[simp] theorem A0O (s t:TypeId) (x:Operand):opA P cmp fr h ⟨d,.convert s t x,ty,pos,af,g⟩ = (evS fr x).bind fun a=>B6 P s t a h:=rfl
@[simp] theorem z0D (f:Nat) (a b:Array Operand):opA P cmp fr h ⟨d,.makeFunc (.func f) a b,ty,pos,af,g⟩ = (f0M fr a.toList).bind fun l=>(f0M fr b.toList).bind fun m=>some (one (.fn f l m) h):=rfl
@[simp] theorem D0S (t:TypeId) (x:Operand) (lo hi mx:Option Operand):opA P cmp fr h ⟨d,.slice t x lo hi mx,ty,pos,af,g⟩ = (evS fr x).bind fun a=>(N7 P t a).bind fun size=>if (mx.isSome && hi.isNone) = true then none else
  (evO fr lo).bind fun l=>(evO fr hi).bind fun u=>(evO fr mx).bind fun m=>(N4 h size a l u m).bind fun s=>some (one s h):=rfl
def n0A (o:Nat) (a:AS) (h:H):Option OR:=match a with | .ptr b v q=>some (one (.ptr b v (q + o)) h) | .rp c q=>some (one (.rp c (q + o)) h) | _=>none
@[simp] theorem A0x (o b v q:Nat):n0A o (.ptr b v q) h = some (one (.ptr b v (q + o)) h):=rfl
@[simp] theorem C0I (o q:Nat) (c:List AS):n0A o (.rp c q) h = some (one (.rp c (q + o)) h):=rfl
@[simp] theorem y0h (t:TypeId) (x:Operand) (f:Nat):opA P cmp fr h ⟨d,.fieldAddr t x f,ty,pos,af,g⟩ = (y9 P t f).bind fun p=>(B5 P p.2).bind fun n=>if n = 0 then none else (evS fr x).bind fun a=>n0A p.1 a h:=by
 simp only [opA,oqE];congr 1
def G0k:AV->Option (List AS) | .agg l=>some l | _=>none
@[simp] theorem F0H (l:List AS):G0k (.agg l) = some l:=rfl
@[simp] theorem D0j (t:TypeId) (x:Operand) (f:Nat):opA P cmp fr h ⟨d,.field t x f,ty,pos,af,g⟩ = (y9 P t f).bind fun p=>(ev fr x).bind fun v=>(G0k v).bind fun l=>(B5 P p.2).bind fun n=>(sub l p.1 n).bind fun q=>(B9 P p.2).bind fun a=>(Z6 a q).bind fun v=>some (.val v h):=by
 simp only [opA,oqE];congr 1;funext p;congr 1;funext v;cases v <;> rfl
@[simp] theorem y0n (t:TypeId) (x i:Operand):opA P cmp fr h ⟨d,.indexAddr t x i,ty,pos,af,g⟩ = (evS fr x).bind fun a=>(evS fr i).bind fun j=>(c0v j).bind fun n=>(U7 P t a n).bind fun p=>some (one p h):=rfl
def F0E:AV->Option (List (Bool × List AS)) | .tup l=>some l | _=>none
@[simp] theorem G0z (l:List (Bool × List AS)):F0E (.tup l) = some l:=rfl
@[simp] theorem B0b (x:Operand) (i:Nat):opA P cmp fr h ⟨d,.extract x i,ty,pos,af,g⟩ = (ev fr x).bind fun v=>(F0E v).bind fun ps=>(ps[i]?).bind fun p=>(Z6 p.1 p.2).bind fun v=>some (.val v h):=by
 simp only [opA,oqE];congr 1;funext v;cases v <;> rfl
@[simp] theorem D0v (f:Nat) (args:Array Operand) (ts:Array TypeId):opA P cmp fr h ⟨d,.call ⟨.value (.func f),args,ts⟩,ty,pos,af,g⟩ = (evL fr args.toList).bind fun l=>some (.call f l h):=by
 simp [opA,h0J,evS,ev]
def fnO:AS->Option (Nat × List AS × List AS) | .fn f a b=>some (f,a,b) | _=>none
@[simp] theorem I0l (f:Nat) (a b:List AS):fnO (.fn f a b) = some (f,a,b):=rfl
@[simp] theorem D0I (t:Nat) (args:Array Operand) (ts:Array TypeId):opA P cmp fr h ⟨d,.call ⟨.value (.tmp t),args,ts⟩,ty,pos,af,g⟩ = (v0z (Fr.get fr t)).bind fun a=>(fnO a).bind fun q=>(evL fr args.toList).bind fun l=>some (.call q.1 (u0r q.2.1++(l++u0r q.2.2)) h):=by
 simp only [opA,h0J,s0D,C0o,oqE,oqS];congr 1;funext a;cases a <;> rfl
@[simp] theorem A0t (b:Builtin) (args:Array Operand) (ts:Array TypeId):opA P cmp fr h ⟨d,.call ⟨.builtin b,args,ts⟩,ty,pos,af,g⟩ = (f0M fr args.toList).bind fun l=>N9 P b ts.toList l h:=rfl
def V9 (x:AS) (d:Option TypeDesc) (h:H):Option OR:=match x,d with
 | .str s,some .string=>some (one (.int .i64 s.length) h)
 | .str _,_=>none
 | x,some (.slice _)=>(U9 x).bind fun n=>some (one (.int .i64 n) h)
 | _,_=>none
@[simp] theorem B0f (t:TypeId) (x:AS):N9 P .len [t] [x] h = V9 x (P.underlying t) h:=by
 simp only [N9,oqE,List.getElem?_cons_zero,oqS]
 cases hu:P.underlying t with
 | none=>cases x <;> simp [U9,V9]
 | some d=>cases x <;> cases d <;> simp [U9,V9]
@[simp] theorem F0a (s:List UInt8):V9 (.str s) (some .string) h = some (one (.int .i64 s.length) h):=rfl
theorem x0h {x:AS} {n:Nat} {u:TypeId} (hx:U9 x = some n) (hs:∀ s,x ≠ .str s):V9 x (some (.slice u)) h = some (one (.int .i64 n) h):=by
 cases x <;> simp_all [V9]
@[simp] theorem F0S (u:TypeId):V9 .nilslc (some (.slice u)) h = some (one (.int .i64 0) h):=rfl
@[simp] theorem C0q (b v o n s:Nat) (c:Option Nat) (u:TypeId):V9 (.slc b v o n s c) (some (.slice u)) h = some (one (.int .i64 n) h):=rfl
@[simp] theorem H0y (n s:Nat) (q:List AS) (u:TypeId):V9 (.vs n s q) (some (.slice u)) h = some (one (.int .i64 n) h):=rfl
theorem U4 {h':H} {size:Nat} {s:AS} {cells:List AS} {n:Nat} (u:TypeId) (hs:Sees h' size s cells) (h0:0 < size) (hn:cells.length = n * size):V9 s (some (.slice u)) h = some (one (.int .i64 n) h):=by
 refine x0h _ (f0z hs h0 hn) ?_
 rintro x rfl
 exact hs
@[simp] theorem x0O (t u:TypeId) (s x:AS):N9 P .append [t,u] [s,x] h = (X9 P t u h s x).bind fun p=>some (one p.1 p.2):=rfl
@[simp] theorem y0x (t u:TypeId) (s x:AS):N9 P .copy [t,u] [s,x] h = (s0c P t h s x).bind fun p=>some (one p.1 p.2):=rfl
@[simp] theorem y0d (t:TypeId) (x:AS):N9 P .clear [t] [x] h = (d0T P t h x).bind fun h'=>some (.val (.tup []) h'):=rfl
@[simp] theorem B0a (ts:List TypeId) (a:AS) (l:List AS):N9 P .max ts (a::l) h = (S8 true a l).bind fun r=>some (one r h):=by
 cases ts <;> rfl
@[simp] theorem A0C (ts:List TypeId) (a:AS) (l:List AS):N9 P .min ts (a::l) h = (S8 false a l).bind fun r=>some (one r h):=by
 cases ts <;> rfl
attribute [simp] one S8 X8
@[simp] theorem D0r (k:IntKind) (n:Int):c0v (.int k n) = if 0 <= n then some n.toNat else none:=rfl
@[simp] theorem y0l (t:TypeId) (x y:Operand):opA P cmp fr h ⟨d,.makeSlice t x y,ty,pos,af,g⟩ = (V3 P t).bind fun el=>(B5 P el).bind fun size=>(C3 P el).bind fun bytes=>(I7 P el).bind fun z=>(evS fr x).bind fun a=>(c0v a).bind fun n=>(evS fr y).bind fun b=>(c0v b).bind fun m =>
  if n <= m/\m * bytes + m <= N3/\z.length = size/\0 < size then some (one (.slc h.next 0 0 n size none) (h.new (F0 (f0p z m) true))) else none:=rfl
end
section
variable (P:Program) (cmp:Nat->Option (List AS)) (t:TypeId) (k:IntKind) (x y:Int) (s u:List UInt8) (a b:Nat)
@[simp] theorem H0w:bin P cmp .add t (.one (.int k x)) (.one (.int k y)) = some (.int k (k.wrap (x + y))):=by simp [bin,b0o]
@[simp] theorem H0l:bin P cmp .sub t (.one (.int k x)) (.one (.int k y)) = some (.int k (k.wrap (x - y))):=by simp [bin,b0o]
@[simp] theorem H0s:bin P cmp .mul t (.one (.int k x)) (.one (.int k y)) = some (.int k (k.wrap (x * y))):=by simp [bin,b0o]
@[simp] theorem H0B:bin P cmp .quo t (.one (.int k x)) (.one (.int k y)) = if y = 0 then none else some (.int k (k.wrap (x.tdiv y))):=by simp [bin,b0o]
@[simp] theorem H0D:bin P cmp .rem t (.one (.int k x)) (.one (.int k y)) = if y = 0 then none else some (.int k (x.tmod y)):=by simp [bin,b0o]
@[simp] theorem G0S:bin P cmp .eql t (.one (.int k x)) (.one (.int k y)) = some (.bool (x == y)):=by simp [bin,b0o]
@[simp] theorem G0Q:bin P cmp .neq t (.one (.int k x)) (.one (.int k y)) = some (.bool (x != y)):=by simp [bin,b0o]
@[simp] theorem H0u:bin P cmp .lss t (.one (.int k x)) (.one (.int k y)) = some (.bool (decide (x < y))):=by simp [bin,b0o]
@[simp] theorem H0P:bin P cmp .leq t (.one (.int k x)) (.one (.int k y)) = some (.bool (decide (x <= y))):=by simp [bin,b0o]
@[simp] theorem H0i:bin P cmp .gtr t (.one (.int k x)) (.one (.int k y)) = some (.bool (decide (y < x))):=by simp [bin,b0o]
@[simp] theorem H0R:bin P cmp .geq t (.one (.int k x)) (.one (.int k y)) = some (.bool (decide (y <= x))):=by simp [bin,b0o]
@[simp] theorem G0X:bin P cmp .and t (.one (.int k x)) (.one (.int k y)) = some (.int k (q0n k x y)):=by simp [bin,b0o]
@[simp] theorem H0X:bin P cmp .or t (.one (.int k x)) (.one (.int k y)) = some (.int k (orI k x y)):=by simp [bin,b0o]
@[simp] theorem G0R:bin P cmp .xor t (.one (.int k x)) (.one (.int k y)) = some (.int k (C0H k x y)):=by simp [bin,b0o]
@[simp] theorem C0n:bin P cmp .andNot t (.one (.int k x)) (.one (.int k y)) = some (.int k (j0K k x y)):=by simp [bin,b0o]
@[simp] theorem H0H (k':IntKind):bin P cmp .shl t (.one (.int k x)) (.one (.int k' y)) = a0Y .shl k x y:=rfl
@[simp] theorem H0q (k':IntKind):bin P cmp .shr t (.one (.int k x)) (.one (.int k' y)) = a0Y .shr k x y:=rfl
@[simp] theorem H0h (op:BinOp):bin P cmp op t (.one (.str s)) (.one (.str u)) = O7 op s u:=rfl
@[simp] theorem H0c (op:BinOp):bin P cmp op t (.one (.flt a)) (.one (.flt b)) = (match op with | .add | .sub | .mul=>b0Q op (.flt a) (.flt b) | _=>(h0y op ((FloatKind.format .f64).order a b)).bind fun r=>some (.bool r)):=rfl
@[simp] theorem B0i:bin P cmp .and t (.one .nanb) (.one (.int .u64 9218868437227405312)) = some (.int .u64 9218868437227405312):=rfl
@[simp] theorem B0e:bin P cmp .and t (.one .nanb) (.one (.int .u64 4503599627370495)) = some .nanf:=rfl
@[simp] theorem F0U:bin P cmp .neq t (.one .nanf) (.one (.int .u64 0)) = some (.bool true):=rfl
@[simp] theorem z0z:bin P cmp .neq t (.one .nan) (.one .nan) = some (.bool true):=rfl
@[simp] theorem H0z {P:Program} {t:TypeId} (cmp:Nat->Option (List AS)) (p q:Bool) (ht:P.underlying t = some .bool):bin P cmp .eql t (.one (.bool p)) (.one (.bool q)) = some (.bool (p == q)):=by simp [bin,d0W,a0L,ht]
@[simp] theorem H0o {P:Program} {t:TypeId} (cmp:Nat->Option (List AS)) (p q:Bool) (ht:P.underlying t = some .bool):bin P cmp .neq t (.one (.bool p)) (.one (.bool q)) = some (.bool (p != q)):=by simp [bin,d0W,a0L,ht,bne]
@[simp] theorem I0h (p:Bool):un .not (.one (.bool p)) = some (.bool (!p)):=rfl
@[simp] theorem I0g:un .neg (.one (.int k x)) = some (.int k (k.wrap (0 - x))):=rfl
@[simp] theorem H0Z:un .xor (.one (.int k x)) = some (.int k (y0Q k x)):=rfl
@[simp] theorem H0t:un .neg (.one (.flt a)) = some (.flt (Op.negFloat .f64 a)):=rfl
end
section
variable (C:Conf) (fr:Fr) (h:H) (r:CR)
def x0g (v:AV):Option AV:=(d0f v).bind fun p=>Z6 p.1 p.2
@[simp] theorem D0w (a:AS):x0g (.one a) = some (.one a):=rfl
@[simp] theorem D0X (l:List AS):x0g (.agg l) = some (.agg l):=rfl
def y0W (v:Option AV) (h:H) (r:CR):Prop:=∃ x,v = some x/\r = .ret x h
@[simp] theorem D0Q (v:AV):y0W (some v) h r = (r = .ret v h):=by simp [y0W]
@[simp] theorem C0O (rs:List ResultVar):fin C rs r .normal fr h = y0W (O4 C fr h rs) h r:=rfl
@[simp] theorem H0N (rs:List ResultVar):fin C rs r .ret fr h = y0W (O4 C fr h rs) h r:=rfl
@[simp] theorem H0J (rs:List ResultVar) (v:AS):fin C rs r (.pan v) fr h = (r = .pan v h):=rfl
@[simp] theorem C0W (t:Nat):c0r C fr h (.tmp t) = some (Fr.get fr t):=rfl
@[simp] theorem A0z (a t:Nat):c0r C fr h (.cell a t) = (v0z (Fr.get fr a)).bind fun p=>(B5 C.P t).bind fun n=>(K8 h p n).bind fun l=>(B9 C.P t).bind fun g=>Z6 g l:=by
 simp only [c0r,oqE]
 cases Fr.get fr a <;> rfl
@[simp] theorem C0u (x:ResultVar):O4 C fr h [x] = (c0r C fr h x).bind x0g:=by
 simp only [O4,oqE];congr 1
@[simp] theorem C0v:O4 C fr h [] = some (.tup []):=rfl
@[simp] theorem A0G (x y:ResultVar) (l:List ResultVar):O4 C fr h (x::y::l) = (W8 C fr h (x::y::l)).bind fun ps=>some (.tup ps):=rfl
@[simp] theorem y0L:W8 C fr h [] = some []:=rfl
@[simp] theorem y0m (x:ResultVar) (l:List ResultVar):W8 C fr h (x::l) = (c0r C fr h x).bind fun v=>(d0f v).bind fun p=>(W8 C fr h l).bind fun ps=>some (p::ps):=by
 simp only [W8,oqE,Option.bind_assoc]
attribute [simp] d0f
end
def loose (P:Program) (ops:List Oper) (A:List Nat):List Nat->List (Nat × Nat)
 | []=>[]
 | i::l=>(l.filterMap fun j=>if (clsB P ops i == 1 && clsB P ops j == 2 || clsB P ops i == 2 && clsB P ops j == 1) && !I6 A i j then some (i,j) else none)++loose P ops A l
where clsB (P:Program) (ops:List Oper) (i:Nat):Nat:=match ops[i]? with | some o=>(match K7 P o with | .read=>1 | .eff=>2 | .make=>3 | .pure=>0) | none=>0
structure Log where
 effs:List (Nat × H × H)
 rds:List (Nat × Fr × AV)
def b0E (h h':H) (E:List (Nat × H × H)):List (Nat × H × H):=E.map fun e=>(e.1,e.2.1,e.2.2.ghost h h')
@[simp] theorem B0n (h h':H):b0E h h' [] = []:=rfl
@[simp] theorem q0d (h h':H) (e:Nat × H × H) (E:List (Nat × H × H)):b0E h h' (e::E) = (e.1,e.2.1,e.2.2.ghost h h')::b0E h h' E:=rfl
def c0H (C:Conf) (ops:List Oper) (U:List (Nat × Nat)):List Nat->Fr->H->Log->(Ex->Fr->H->Prop)->Prop
 | [],fr,h,_,Q=>Q .normal fr h
 | i::l,fr,h,s,Q=>∃ o,ops[i]? = some o /\
  onW (O8 fr ops o)
   (match K7 C.P o with
    | .eff=>onR ((opA C.P C.cmp fr h o).bind (W9 (W C))) (fun v h'=>(∀ r ∈ s.rds,(r.1,i) ∈ U->∃ q,ops[r.1]? = some q/\ask C r.2.1 q h' = some r.2.2) /\
      onF (Fr.put fr o.dst v) fun fr'=>c0H C ops U l fr' h' ⟨(i,h,h)::s.effs,s.rds⟩ Q) (fun _ _=>False)
    | .read=>∃ v,ask C fr o h = some v/\(∀ e ∈ s.effs,(e.1,i) ∈ U->ask C fr o e.2.1 = some v \/ ask C fr o e.2.2 = some v)/\onF (Fr.put fr o.dst v) fun fr'=>c0H C ops U l fr' h ⟨s.effs,(i,fr,v)::s.rds⟩ Q
    | _=>onR ((opA C.P C.cmp fr h o).bind (W9 (W C))) (fun v h'=>onF (Fr.put fr o.dst v) fun fr'=>c0H C ops U l fr' h' ⟨b0E h h' s.effs,s.rds⟩ Q) (fun _ _=>False))
   (onF (Fr.put fr o.dst .undef) fun fr'=>c0H C ops U l fr' h s Q)
theorem q0q {b:Option Bool} {A B:Prop} (h:onW b A B):(b = some true/\A) \/ (b = some false/\B):=h
structure LogR (C:Conf) (ops:List Oper) (s:Log) (t:Seen):Prop where
 effs:t.effs = s.effs
 rds:∀ r ∈ t.rds,∃ fr v q,(r.1,fr,v) ∈ s.rds/\ops[r.1]? = some q/\r.2.1 = ask C fr q/\r.2.2 = v
section
variable {C:Conf} {ops:List Oper} {A:List Nat} {U:List (Nat × Nat)} {Q:Ex->Fr->H->Prop}
theorem d0L:∀ (l:List Nat) (pre:List Nat) (fr:Fr) (h:H) (s:Log) (t:Seen),LogR C ops s t->(∀ r ∈ t.rds,r.1 ∈ pre/\loose.clsB C.P ops r.1 = 1)->(∀ e ∈ t.effs,e.1 ∈ pre/\loose.clsB C.P ops e.1 = 2) ->
  (∀ i ∈ pre,∀ j ∈ l,loose.clsB C.P ops i = 1/\loose.clsB C.P ops j = 2 \/ loose.clsB C.P ops i = 2/\loose.clsB C.P ops j = 1->I6 A i j = true \/ (i,j) ∈ U) ->
  (∀ l1 i l2,l = l1++i::l2->∀ j ∈ l2,loose.clsB C.P ops i = 1/\loose.clsB C.P ops j = 2 \/ loose.clsB C.P ops i = 2/\loose.clsB C.P ops j = 1->I6 A i j = true \/ (i,j) ∈ U) ->
  c0H C ops U l fr h s Q->OptQ (runD C (W C) ops A none l fr h t) Q
 | [],pre,fr,h,s,t,_,_,_,_,_,hd=>by
  simp only [c0H] at hd
  simp only [runD]
  exact ⟨_,_,_,rfl,hd⟩
 | i::l,pre,fr,h,s,t,hL,hr,he,hp,hl,hd=>by
  simp only [c0H] at hd
  obtain ⟨o,ho,hd⟩:=hd
  rw [runD]
  simp only [oqF,if_false,ho,oqE,oqS,Option.isSome_none]
  have hcls:∀ c,K7 C.P o = c->loose.clsB C.P ops i = (match c with | .read=>1 | .eff=>2 | .make=>3 | .pure=>0):=by
   rintro c rfl;simp only [loose.clsB,ho]
  have hp':∀ k ∈ pre++[i],∀ j ∈ l,loose.clsB C.P ops k = 1/\loose.clsB C.P ops j = 2 \/ loose.clsB C.P ops k = 2/\loose.clsB C.P ops j = 1->I6 A k j = true \/ (k,j) ∈ U:=by
   intro k hk j hj hc
   rcases oqe.1 hk with hk | hk
   ·exact hp k hk j (by simp [hj]) hc
   ·simp at hk;subst hk
    exact hl [] k l rfl j hj hc
  have hl':∀ l1 k l2,l = l1++k::l2->∀ j ∈ l2,loose.clsB C.P ops k = 1/\loose.clsB C.P ops j = 2 \/ loose.clsB C.P ops k = 2/\loose.clsB C.P ops j = 1->I6 A k j = true \/ (k,j) ∈ U:=by
   intro l1 k l2 e j hj hc
   exact hl (i::l1) k l2 (by simp [e]) j hj hc
  have hr':∀ r ∈ t.rds,r.1 ∈ pre++[i]/\loose.clsB C.P ops r.1 = 1:=fun r hx=>⟨by simp [(hr r hx).1],(hr r hx).2⟩
  have he':∀ e ∈ t.effs,e.1 ∈ pre++[i]/\loose.clsB C.P ops e.1 = 2:=fun r hx=>⟨by simp [(he r hx).1],(he r hx).2⟩
  rcases q0q hd with ⟨hw,hd⟩ | ⟨hw,hd⟩
  ·simp only [hw,oqS,if_true]
   cases hc:K7 C.P o with
   | eff =>
    rw [hc] at hd
    simp only at hd |-
    rw [<- f0j] at hd
    rcases hd with ⟨v,h',hro,hck,fr',hput,hd⟩ | ⟨_,_,_,hf⟩
    ·simp only [hro,oqS]
     have hall:∀ r ∈ t.rds,I6 A r.1 i = true \/ r.2.1 h' = some r.2.2:=by
      intro r hx
      rcases hp r.1 (hr r hx).1 i (by simp) (.inl ⟨(hr r hx).2,hcls _ hc⟩) with ha | ha
      ·exact .inl ha
      ·right
       obtain ⟨frx,vx,q,g1,g2,g3,g4⟩:=hL.rds r hx
       obtain ⟨q',g5,g6⟩:=hck _ g1 ha
       rw [g2] at g5;cases g5
       rw [g3,g4];exact g6
     rw [if_pos hall]
     simp only [hput,oqS]
     refine d0L l (pre++[i]) fr' h' ⟨(i,h,h)::s.effs,s.rds⟩ _ ⟨by simp [hL.effs],fun r hx=>hL.rds r hx⟩ hr' ?_ hp' hl' hd
     intro e hx
     rcases oqf.1 hx with rfl | hx
     ·exact ⟨by simp,hcls _ hc⟩
     ·exact he' e hx
    ·exact hf.elim
   | read =>
    rw [hc] at hd
    simp only at hd |-
    obtain ⟨v,ha,hck,fr',hput,hd⟩:=hd
    simp only [ha,oqS]
    have hall:∀ e ∈ t.effs,I6 A e.1 i = true \/ ask C fr o e.2.1 = some v \/ ask C fr o e.2.2 = some v:=by
     intro e hx
     rcases hp e.1 (he e hx).1 i (by simp) (.inr ⟨(he e hx).2,hcls _ hc⟩) with h2 | h2
     ·exact .inl h2
     ·right
      exact hck e (by rw [<- hL.effs];exact hx) h2
    rw [if_pos hall]
    simp only [hput,oqS]
    refine d0L l (pre++[i]) fr' h ⟨s.effs,(i,fr,v)::s.rds⟩ _ ⟨hL.effs,fun r hx=>?_⟩ ?_ he' hp' hl' hd
    ·rcases oqf.1 hx with rfl | hx
     ·exact ⟨fr,v,o,by simp,ho,rfl,rfl⟩
     ·obtain ⟨a,b,c,d,e⟩:=hL.rds r hx
      exact ⟨a,b,c,by simp [d],e⟩
    ·intro r hx
     rcases oqf.1 hx with rfl | hx
     ·exact ⟨by simp,hcls _ hc⟩
     ·exact hr' r hx
   | pure =>
    rw [hc] at hd
    simp only at hd |-
    rw [<- f0j] at hd
    rcases hd with ⟨v,h',hro,fr',hput,hd⟩ | ⟨_,_,_,hf⟩
    ·simp only [hro,oqS,hput]
     exact d0L l (pre++[i]) fr' h' ⟨b0E h h' s.effs,s.rds⟩ (t.ghost h h') ⟨by simp only [Seen.ghost,hL.effs,b0E],hL.rds⟩ hr' (fun e hx=>by
      obtain ⟨e0,h0,rfl⟩:=List.mem_map.1 hx
      exact he' e0 h0) hp' hl' hd
    ·exact hf.elim
   | make =>
    rw [hc] at hd
    simp only at hd |-
    rw [<- f0j] at hd
    rcases hd with ⟨v,h',hro,fr',hput,hd⟩ | ⟨_,_,_,hf⟩
    ·simp only [hro,oqS,hput]
     exact d0L l (pre++[i]) fr' h' ⟨b0E h h' s.effs,s.rds⟩ (t.ghost h h') ⟨by simp only [Seen.ghost,hL.effs,b0E],hL.rds⟩ hr' (fun e hx=>by
      obtain ⟨e0,h0,rfl⟩:=List.mem_map.1 hx
      exact he' e0 h0) hp' hl' hd
    ·exact hf.elim
  ·obtain ⟨fr',hput,hd⟩:=hd
   simp only [hw,oqS,oqF,if_false,hput]
   exact d0L l (pre++[i]) fr' h s t hL hr' he' hp' hl' hd
theorem k0B (P:Program) (ops:List Oper) (A:List Nat):∀ (l:List Nat) (l1:List Nat) (i:Nat) (l2:List Nat),l = l1++i::l2->∀ j ∈ l2,loose.clsB P ops i = 1/\loose.clsB P ops j = 2 \/ loose.clsB P ops i = 2/\loose.clsB P ops j = 1 ->
  I6 A i j = true \/ (i,j) ∈ loose P ops A l
 | [],l1,i,l2,e,_,_,_=>by simp at e
 | k::l,[],i,l2,e,j,hj,hc=>by
  simp only [oql,List.cons.injEq] at e
  obtain ⟨rfl,rfl⟩:=e
  cases ha:I6 A k j with
  | true=>exact .inl rfl
  | false =>
   right
   simp only [loose,oqe,List.mem_filterMap]
   refine .inl ⟨j,hj, ?_⟩
   rcases hc with ⟨h1,h2⟩ | ⟨h1,h2⟩ <;> simp [h1,h2,ha]
 | k::l,x::l1,i,l2,e,j,hj,hc=>by
  simp only [oqm,List.cons.injEq] at e
  obtain ⟨rfl,e⟩:=e
  rcases k0B P ops A l l1 i l2 e j hj hc with h | h
  ·exact .inl h
  ·right;simp only [loose,oqe];exact .inr h
end
theorem u0s {C:Conf} (hp:PrimOk C) {id:Nat} {l:List Oper} {fr:Fr} {h:H} {Q:Ex->Fr->H->Prop} (c:List Nat) (U:List (Nat × Nat))
  (hk:(f0N C.P l && (d0u C.P l == c) && (loose C.P l (a0m l []) (d0u C.P l) == U)) = true) (hq:c0H C l U c fr h ⟨[],[]⟩ Q):M4 C (.region id l.toArray true) fr h Q:=by
 simp only [oqd,beq_iff_eq] at hk
 obtain ⟨⟨h1,h2⟩,h3⟩:=hk
 unfold M4
 rw [i0Y hp]
 simp only [step,if_true]
 rw [if_pos h1,h2]
 subst h2
 refine d0L (A:=a0m l []) (U:=U) _ [] fr h _ _ ⟨rfl,by simp⟩ (by simp) (by simp) (by simp) ?_ hq
 intro l1 i l2 e j hj hc
 have:=k0B C.P l (a0m l []) _ l1 i l2 e j hj hc
 rw [h3] at this
 exact this
def onO (o:Option Oper) (K:Oper->Prop):Prop:=∃ x,o = some x/\K x
@[simp] theorem F0T (o:Oper) (K:Oper->Prop):onO (some o) K = K o:=by simp [onO]
@[congr] theorem D0G {a b:Option Oper} {K:Oper->Prop} (h:a = b):onO a K = onO b K:=by rw [h]
def onC (c:Cls) (E R O:Prop):Prop:=match c with | .eff=>E | .read=>R | _=>O
@[simp] theorem z0U (E R O:Prop):onC .eff E R O = E:=rfl
@[simp] theorem w0P (E R O:Prop):onC .read E R O = R:=rfl
@[simp] theorem v0r (E R O:Prop):onC .pure E R O = O:=rfl
@[simp] theorem v0m (E R O:Prop):onC .make E R O = O:=rfl
@[congr] theorem D0P {c d:Cls} {E R O:Prop} (h:c = d):onC c E R O = onC d E R O:=by rw [h]
def onA (v:Option AV) (K:AV->Prop):Prop:=∃ x,v = some x/\K x
@[simp] theorem G0p (v:AV) (K:AV->Prop):onA (some v) K = K v:=by simp [onA]
@[congr] theorem D0O {a b:Option AV} {K:AV->Prop} (h:a = b):onA a K = onA b K:=by rw [h]
def d0l:OR->Option AV | .val v _=>some v | _=>none
@[simp] theorem G0K (v:AV) (h:H):d0l (.val v h) = some v:=rfl
theorem B0E (C:Conf) (fr:Fr) (o:Oper) (h:H):ask C fr o h = (opA C.P C.cmp fr h o).bind d0l:=by
 unfold ask
 cases opA C.P C.cmp fr h o with
 | none=>rfl
 | some r=>cases r <;> rfl
theorem q0L (C:Conf) (ops:List Oper) (U:List (Nat × Nat)) (i:Nat) (l:List Nat) (fr:Fr) (h:H) (E:List (Nat × H × H)) (R:List (Nat × Fr × AV)) (Q:Ex->Fr->H->Prop):c0H C ops U (i::l) fr h ⟨E,R⟩ Q =
  onO (ops[i]?) fun o=>onW (O8 fr ops o)
   (onC (K7 C.P o)
    (onR ((opA C.P C.cmp fr h o).bind (W9 (W C))) (fun v h'=>(∀ r ∈ R,(r.1,i) ∈ U->onO (ops[r.1]?) fun q=>(opA C.P C.cmp r.2.1 h' q).bind d0l = some r.2.2) /\
      onF (Fr.put fr o.dst v) fun fr'=>c0H C ops U l fr' h' ⟨(i,h,h)::E,R⟩ Q) (fun _ _=>False))
    (onA ((opA C.P C.cmp fr h o).bind d0l) fun v=>(∀ e ∈ E,(e.1,i) ∈ U->(opA C.P C.cmp fr e.2.1 o).bind d0l = some v \/ (opA C.P C.cmp fr e.2.2 o).bind d0l = some v)/\onF (Fr.put fr o.dst v) fun fr'=>c0H C ops U l fr' h ⟨E,(i,fr,v)::R⟩ Q)
    (onR ((opA C.P C.cmp fr h o).bind (W9 (W C))) (fun v h'=>onF (Fr.put fr o.dst v) fun fr'=>c0H C ops U l fr' h' ⟨b0E h h' E,R⟩ Q) (fun _ _=>False)))
   (onF (Fr.put fr o.dst .undef) fun fr'=>c0H C ops U l fr' h ⟨E,R⟩ Q):=by
 simp only [c0H,B0E]
 unfold onO
 congr 1
section
variable (P:Program) (d:Option Nat) (ty:TypeId) (pos:String) (af:Array Edge) (g:Option (Nat × Bool))
@[congr] theorem A0u {P P':Program} {o:Oper} (h:P = P'):K7 P o = K7 P' o:=by rw [h]
@[simp] theorem F0q (x:Operand):K7 P ⟨d,.move x,ty,pos,af,g⟩ = .pure:=rfl
@[simp] theorem C0r (x:Operand):K7 P ⟨d,.assign x,ty,pos,af,g⟩ = .pure:=rfl
@[simp] theorem F0h (a b c:Operand):K7 P ⟨d,.pick a b c,ty,pos,af,g⟩ = .pure:=rfl
@[simp] theorem D0p (t:TypeId):K7 P ⟨d,.alloc t,ty,pos,af,g⟩ = .make:=rfl
@[simp] theorem H0j (t:TypeId) (x:Operand):K7 P ⟨d,.box t x,ty,pos,af,g⟩ = .make:=rfl
@[simp] theorem D0m (t:TypeId) (ps:Array (Nat × Operand)):K7 P ⟨d,.build t ps,ty,pos,af,g⟩ = .pure:=rfl
@[simp] theorem x0P (t:TypeId) (n:Nat) (ps:Array (Nat × Operand)):K7 P ⟨d,.buildSlice t n ps,ty,pos,af,g⟩ = .make:=rfl
@[simp] theorem G0q (t:TypeId) (x:Operand):K7 P ⟨d,.load t x,ty,pos,af,g⟩ = .read:=rfl
@[simp] theorem D0T (t:TypeId) (x y:Operand):K7 P ⟨d,.store t x y,ty,pos,af,g⟩ = .eff:=rfl
@[simp] theorem z0V (x:Operand):K7 P ⟨d,.nilCheck x,ty,pos,af,g⟩ = .pure:=rfl
@[simp] theorem D0q (op:BinOp) (t u:TypeId) (x y:Operand):K7 P ⟨d,.binOp op t x y u,ty,pos,af,g⟩ = .pure:=rfl
@[simp] theorem G0F (op:UnOp) (t:TypeId) (x:Operand):K7 P ⟨d,.unOp op t x,ty,pos,af,g⟩ = .pure:=rfl
@[simp] theorem A0H (s t:TypeId) (x:Operand):K7 P ⟨d,.convert s t x,ty,pos,af,g⟩ = (match P.underlying s,P.underlying t with | some (.slice _),some .string=>.read | some .string,some (.slice _)=>.make | some (.slice _),some (.slice _)=>.eff | _,_=>.pure):=rfl
@[simp] theorem y0M (f:Fn) (a b:Array Operand):K7 P ⟨d,.makeFunc f a b,ty,pos,af,g⟩ = .pure:=rfl
@[simp] theorem y0f (t:TypeId) (x y:Operand):K7 P ⟨d,.makeSlice t x y,ty,pos,af,g⟩ = .make:=rfl
@[simp] theorem D0R (t:TypeId) (x:Operand) (lo hi mx:Option Operand):K7 P ⟨d,.slice t x lo hi mx,ty,pos,af,g⟩ = .read:=rfl
@[simp] theorem y0g (t:TypeId) (x:Operand) (f:Nat):K7 P ⟨d,.fieldAddr t x f,ty,pos,af,g⟩ = .pure:=rfl
@[simp] theorem D0E (t:TypeId) (x:Operand) (f:Nat):K7 P ⟨d,.field t x f,ty,pos,af,g⟩ = .pure:=rfl
@[simp] theorem y0i (t:TypeId) (x i:Operand):K7 P ⟨d,.indexAddr t x i,ty,pos,af,g⟩ = .pure:=rfl
@[simp] theorem D0D (t:TypeId) (x i:Operand):K7 P ⟨d,.index t x i,ty,pos,af,g⟩ = .pure:=rfl
@[simp] theorem A0F (x:Operand) (i:Nat):K7 P ⟨d,.extract x i,ty,pos,af,g⟩ = .pure:=rfl
@[simp] theorem G0o (x:Operand) (args:Array Operand) (ts:Array TypeId):K7 P ⟨d,.call ⟨.value x,args,ts⟩,ty,pos,af,g⟩ = .eff:=rfl
@[simp] theorem H0f (args:Array Operand) (ts:Array TypeId):K7 P ⟨d,.call ⟨.builtin .len,args,ts⟩,ty,pos,af,g⟩ = .pure:=rfl
@[simp] theorem C0D (args:Array Operand) (ts:Array TypeId):K7 P ⟨d,.call ⟨.builtin .append,args,ts⟩,ty,pos,af,g⟩ = .eff:=rfl
end
@[simp] theorem D0i (place:Nat->Option (Nat × Nat)) (fr:Fr) (z:List AS):parts place fr [] z = some z:=rfl
@[simp] theorem B0J (place:Nat->Option (Nat × Nat)) (fr:Fr) (i:Nat) (x:Operand) (l:List (Nat × Operand)) (z:List AS):parts place fr ((i,x)::l) z =
  (place i).bind fun p=>(ev fr x).bind fun v=>v.cells.bind fun c=>if c.length = p.2/\p.1 + p.2 <= z.length then parts place fr l (lay z p.1 c) else none:=rfl
attribute [simp] lay f0p t0c r0A
@[simp] theorem G0M (l:List AS):sub l 0 0 = some []:=by simp [sub]
@[simp] theorem G0e (a:AS) (l:List AS) (n:Nat):sub (a::l) 0 (n + 1) = (sub l 0 n).map (a::·):=by
 simp only [sub,Nat.zero_add,oqb,List.drop_zero,List.take_succ_cons]
 by_cases h:n <= l.length
 ·rw [if_pos (by omega),if_pos h];rfl
 ·rw [if_neg (by omega),if_neg h];rfl
@[simp] theorem D0z (a:AS) (l:List AS) (o n:Nat):sub (a::l) (o + 1) n = sub l o n:=by
 simp only [sub,oqb,List.drop_succ_cons]
 by_cases h:o + n <= l.length
 ·rw [if_pos (by omega),if_pos h]
 ·rw [if_neg (by omega),if_neg h]
def p0n (C:Conf) (rs:List ResultVar) (K:CR->Prop) (x:Ex) (fr:Fr) (h:H):Prop :=
 match x with
 | .normal | .ret=>onA (O4 C fr h rs) fun v=>K (.ret v h)
 | .pan v=>K (.pan v h)
 | .exit _=>False
@[simp] theorem A0Q (C:Conf) (rs:List ResultVar) (K:CR->Prop) (fr:Fr) (h:H):p0n C rs K .normal fr h = onA (O4 C fr h rs) fun v=>K (.ret v h):=rfl
@[simp] theorem F0Q (C:Conf) (rs:List ResultVar) (K:CR->Prop) (fr:Fr) (h:H):p0n C rs K .ret fr h = onA (O4 C fr h rs) fun v=>K (.ret v h):=rfl
@[simp] theorem G0x (C:Conf) (rs:List ResultVar) (K:CR->Prop) (fr:Fr) (h:H) (v:AS):p0n C rs K (.pan v) fr h = K (.pan v h):=rfl
theorem j0P {C:Conf} (hp:PrimOk C) {f:Nat} {fn:Func} {c:Code} (h1:C.prim f = none) (h2:C.ext f = none) (h3:C.frz f = false) (h4:C.P.funcs[f]? = some fn) (h5:fn.body = some c) {args:List AV} {h:H} {K:CR->Prop} (h6:args.length <= fn.ntmps)
  (hq:M4 C c (args++List.replicate (fn.ntmps - args.length) .undef) h (p0n C fn.results.toList K)):∃ r,W C f args h = some r/\K r:=by
 obtain ⟨x,fr',h',e,hx⟩:=hq
 cases x with
 | normal =>
  obtain ⟨v,hv,hk⟩:=hx
  exact ⟨_,k0E hp h1 h2 h3 h4 h5 h6 ⟨_,_,_,e,v,hv,rfl⟩,hk⟩
 | ret =>
  obtain ⟨v,hv,hk⟩:=hx
  exact ⟨_,k0E hp h1 h2 h3 h4 h5 h6 ⟨_,_,_,e,v,hv,rfl⟩,hk⟩
 | pan v=>exact ⟨_,k0E hp h1 h2 h3 h4 h5 h6 ⟨_,_,_,e,rfl⟩,hx⟩
 | exit i=>exact hx.elim
def q0Y (U:List (Nat × Nat)) (i:Nat):List Nat:=(U.filter fun p=>p.2 == i).map (·.1)
def c0R (U:List (Nat × Nat)) (i:Nat):Bool:=U.any fun p=>p.1 == i
def mkE (U:List (Nat × Nat)) (i:Nat):Nat × List Nat × Bool:=(i,q0Y U i,c0R U i)
def h0A:List (Nat × Fr × AV)->Nat->(Fr->AV->Prop)->Prop
 | [],_,_=>True
 | r::l,j,K=>if r.1 = j then K r.2.1 r.2.2 else h0A l j K
def f0r:List (Nat × H × H)->Nat->(H->H->Prop)->Prop
 | [],_,_=>True
 | e::l,j,K=>if e.1 = j then K e.2.1 e.2.2 else f0r l j K
def n0K:List Nat->(Nat->Prop)->Prop
 | [],_=>True
 | j::l,K=>K j/\n0K l K
theorem l0t {K:Nat->Prop}:∀ {l:List Nat},n0K l K->∀ j ∈ l,K j
 | [],_,_,h=>by simp at h
 | a::l,h,j,hj=>by
  rcases oqf.1 hj with rfl | hj
  ·exact h.1
  ·exact l0t h.2 j hj
def f0s (C:Conf) (ops:List Oper):List (Nat × List Nat × Bool)->Fr->H->List (Nat × H × H)->List (Nat × Fr × AV)->(Ex->Fr->H->Prop)->Prop
 | [],fr,h,_,_,Q=>Q .normal fr h
 | p::l,fr,h,E,R,Q=>onO (ops[p.1]?) fun o=>onW (O8 fr ops o)
   (onC (K7 C.P o)
    (onR ((opA C.P C.cmp fr h o).bind (W9 (W C))) (fun v h'=>n0K p.2.1 (fun j=>h0A R j fun fr1 v1=>onO (ops[j]?) fun q=>(opA C.P C.cmp fr1 h' q).bind d0l = some v1) /\
      onF (Fr.put fr o.dst v) fun fr'=>f0s C ops l fr' h' (if p.2.2 then (p.1,h,h)::E else E) R Q) (fun _ _=>False))
    (onA ((opA C.P C.cmp fr h o).bind d0l) fun v=>n0K p.2.1 (fun j=>f0r E j fun h1 h2=>(opA C.P C.cmp fr h1 o).bind d0l = some v \/ (opA C.P C.cmp fr h2 o).bind d0l = some v)/\onF (Fr.put fr o.dst v) fun fr'=>f0s C ops l fr' h E (if p.2.2 then (p.1,fr,v)::R else R) Q)
    (onR ((opA C.P C.cmp fr h o).bind (W9 (W C))) (fun v h'=>onF (Fr.put fr o.dst v) fun fr'=>f0s C ops l fr' h' (b0E h h' E) R Q) (fun _ _=>False)))
   (onF (Fr.put fr o.dst .undef) fun fr'=>f0s C ops l fr' h E R Q)
theorem f0J {h h':H} {j:Nat} {K:H->H->Prop}:∀ {E:List (Nat × H × H)},f0r (b0E h h' E) j K->f0r E j fun a b=>K a (b.ghost h h')
 | [],_=>trivial
 | e::E,hl=>by
  simp only [q0d,f0r] at hl |-
  split at hl
  ·rename_i he;rw [if_pos he];exact hl
  ·rename_i he;rw [if_neg he];exact f0J hl
theorem j0X {r:Option RO} {K K':AV->H->Prop} {Kp Kp':AS->H->Prop} (h:onR r K Kp) (h1:∀ v h,K v h->K' v h) (h2:∀ v h,Kp v h->Kp' v h):onR r K' Kp':=by
 rcases h with ⟨v,h,e,k⟩ | ⟨v,h,e,k⟩
 ·exact .inl ⟨v,h,e,h1 v h k⟩
 ·exact .inr ⟨v,h,e,h2 v h k⟩
theorem f0Q {f:Option Fr} {K K':Fr->Prop} (h:onF f K) (h1:∀ fr,K fr->K' fr):onF f K':=by
 obtain ⟨fr,e,k⟩:=h;exact ⟨fr,e,h1 fr k⟩
section
variable {C:Conf} {ops:List Oper} {U:List (Nat × Nat)} {Q:Ex->Fr->H->Prop}
theorem x0T {j i:Nat} (h:(j,i) ∈ U):j ∈ q0Y U i/\c0R U j = true:=by
 refine ⟨List.mem_map.2 ⟨(j,i),List.mem_filter.2 ⟨h,by simp⟩,rfl⟩,List.any_eq_true.2 ⟨(j,i),h,by simp⟩⟩
theorem d0N:∀ (l:List Nat) (fr:Fr) (h:H) (E E':List (Nat × H × H)) (R R':List (Nat × Fr × AV)),l.Nodup->(∀ r ∈ R,r.1 ∉ l)->(∀ e ∈ E,e.1 ∉ l) ->
  (∀ r ∈ R,c0R U r.1 = true->∀ K,h0A R' r.1 K->K r.2.1 r.2.2)->(∀ e ∈ E,c0R U e.1 = true->∀ K,f0r E' e.1 K->K e.2.1 e.2.2) ->
  f0s C ops (l.map (mkE U)) fr h E' R' Q->c0H C ops U l fr h ⟨E,R⟩ Q
 | [],fr,h,E,E',R,R',_,_,_,_,_,hd=>hd
 | i::l,fr,h,E,E',R,R',hn,hr,he,hR,hE,hd=>by
  have hn2:=(List.nodup_cons.1 hn)
  have hr2:∀ r ∈ R,r.1 ∉ l:=fun r hx hm=>hr r hx (List.mem_cons_of_mem _ hm)
  have he2:∀ e ∈ E,e.1 ∉ l:=fun e hx hm=>he e hx (List.mem_cons_of_mem _ hm)
  have hri:∀ r ∈ R,r.1 ≠ i:=fun r hx e=>hr r hx (by rw [e];exact List.mem_cons_self)
  have hei:∀ r ∈ E,r.1 ≠ i:=fun r hx e=>he r hx (by rw [e];exact List.mem_cons_self)
  rw [q0L]
  simp only [List.map_cons,f0s,mkE] at hd
  obtain ⟨o,ho,hd⟩:=hd
  refine ⟨o,ho, ?_⟩
  rcases q0q hd with ⟨hw,hd⟩ | ⟨hw,hd⟩
  ·refine .inl ⟨hw, ?_⟩
   cases hc:K7 C.P o with
   | eff =>
    rw [hc] at hd
    simp only [z0U] at hd |-
    refine j0X hd (fun v h' ⟨hq,hf⟩=>⟨fun r hx hu=>?_,f0Q hf fun fr' hf=>?_⟩) (fun _ _ h=>h)
    ·obtain ⟨m1,m2⟩:=x0T hu
     exact hR r hx m2 _ (l0t hq _ m1)
    ·refine d0N l fr' h' _ _ R R' hn2.2 hr2 ?_ hR ?_ hf
     ·intro e hx
      rcases oqf.1 hx with rfl | hx
      ·exact hn2.1
      ·exact he2 e hx
     ·intro e hx hk K hl
      rcases oqf.1 hx with rfl | hx
      ·simp only at hk
       rw [hk] at hl
       simpa [f0r] using hl
      ·refine hE e hx hk K ?_
       cases hki:c0R U i
       ·rw [hki] at hl;exact hl
       ·rw [hki] at hl
        simp only [if_true,f0r] at hl
        rwa [if_neg (Ne.symm (hei e hx))] at hl
   | read =>
    rw [hc] at hd
    simp only [w0P] at hd |-
    obtain ⟨v,hv,hq,hf⟩:=hd
    refine ⟨v,hv,fun e hx hu=>?_,f0Q hf fun fr' hf=>?_⟩
    ·obtain ⟨m1,m2⟩:=x0T hu
     exact hE e hx m2 _ (l0t hq _ m1)
    ·refine d0N l fr' h E E' _ _ hn2.2 ?_ he2 ?_ hE hf
     ·intro e hx
      rcases oqf.1 hx with rfl | hx
      ·exact hn2.1
      ·exact hr2 e hx
     ·intro e hx hk K hl
      rcases oqf.1 hx with rfl | hx
      ·simp only at hk
       rw [hk] at hl
       simpa [h0A] using hl
      ·refine hR e hx hk K ?_
       cases hki:c0R U i
       ·rw [hki] at hl;exact hl
       ·rw [hki] at hl
        simp only [if_true,h0A] at hl
        rwa [if_neg (Ne.symm (hri e hx))] at hl
   | pure =>
    rw [hc] at hd
    simp only [v0r] at hd |-
    exact j0X hd (fun v h' hf=>f0Q hf fun fr' hf=>d0N l fr' h' _ _ R R' hn2.2 hr2 (fun e hx=>by
     obtain ⟨e0,h0,rfl⟩:=List.mem_map.1 hx
     exact he2 e0 h0) hR (fun e hx hk K hl=>by
     obtain ⟨e0,h0,rfl⟩:=List.mem_map.1 hx
     exact hE e0 h0 hk _ (f0J hl)) hf) (fun _ _ h=>h)
   | make =>
    rw [hc] at hd
    simp only [v0m] at hd |-
    exact j0X hd (fun v h' hf=>f0Q hf fun fr' hf=>d0N l fr' h' _ _ R R' hn2.2 hr2 (fun e hx=>by
     obtain ⟨e0,h0,rfl⟩:=List.mem_map.1 hx
     exact he2 e0 h0) hR (fun e hx hk K hl=>by
     obtain ⟨e0,h0,rfl⟩:=List.mem_map.1 hx
     exact hE e0 h0 hk _ (f0J hl)) hf) (fun _ _ h=>h)
  ·exact .inr ⟨hw,f0Q hd fun fr' hf=>d0N l fr' h E E' R R' hn2.2 hr2 he2 hR hE hf⟩
end
def i0D:List Nat->Bool
 | []=>true
 | a::l=>!l.contains a && i0D l
theorem n0s:∀ {l:List Nat},i0D l = true->l.Nodup
 | [],_=>.nil
 | a::l,h=>by
  simp only [i0D,oqd,Bool.not_eq_true',List.contains_eq_mem,decide_eq_false_iff_not] at h
  exact List.nodup_cons.2 ⟨h.1,n0s h.2⟩
theorem r0E (C:Conf) (ops:List Oper) (i:Nat) (js:List Nat) (kp:Bool) (l:List (Nat × List Nat × Bool)) (fr:Fr) (h:H) (E:List (Nat × H × H)) (R:List (Nat × Fr × AV)) (Q:Ex->Fr->H->Prop):f0s C ops ((i,js,kp)::l) fr h E R Q =
  onO (ops[i]?) fun o=>onW (O8 fr ops o)
   (onC (K7 C.P o)
    (onR ((opA C.P C.cmp fr h o).bind (W9 (W C))) (fun v h'=>n0K js (fun j=>h0A R j fun fr1 v1=>onO (ops[j]?) fun q=>(opA C.P C.cmp fr1 h' q).bind d0l = some v1) /\
      onF (Fr.put fr o.dst v) fun fr'=>f0s C ops l fr' h' (if kp then (i,h,h)::E else E) R Q) (fun _ _=>False))
    (onA ((opA C.P C.cmp fr h o).bind d0l) fun v=>n0K js (fun j=>f0r E j fun h1 h2=>(opA C.P C.cmp fr h1 o).bind d0l = some v \/ (opA C.P C.cmp fr h2 o).bind d0l = some v)/\onF (Fr.put fr o.dst v) fun fr'=>f0s C ops l fr' h E (if kp then (i,fr,v)::R else R) Q)
    (onR ((opA C.P C.cmp fr h o).bind (W9 (W C))) (fun v h'=>onF (Fr.put fr o.dst v) fun fr'=>f0s C ops l fr' h' (b0E h h' E) R Q) (fun _ _=>False)))
   (onF (Fr.put fr o.dst .undef) fun fr'=>f0s C ops l fr' h E R Q):=rfl
attribute [simp] n0K h0A f0r H.ghost_self
theorem S7 {C:Conf} {f:Nat} {args:List AV} {h:H} {K:AV->H->Prop} {Kp:AS->H->Prop} (hx:onR ((W C f args h).bind crO) K Kp):onR ((W C f args h).bind crO) K Kp:=hx
def j0T (C:Conf) (b:Code) (Q:Ex->Fr->H->Prop) (x:Ex) (fr:Fr) (h:H):Prop:=match x with | .normal=>M4 C b fr h Q | x=>Q x fr h
def c0O (id:Nat) (Q:Ex->Fr->H->Prop) (x:Ex) (fr:Fr) (h:H):Prop:=match x with | .exit i=>if i = id then Q .normal fr h else Q (.exit i) fr h | x=>Q x fr h
@[simp] theorem A0U (C:Conf) (b:Code) (Q:Ex->Fr->H->Prop) (fr:Fr) (h:H):j0T C b Q .normal fr h = M4 C b fr h Q:=rfl
@[simp] theorem D0V (C:Conf) (b:Code) (Q:Ex->Fr->H->Prop) (i:Nat) (fr:Fr) (h:H):j0T C b Q (.exit i) fr h = Q (.exit i) fr h:=rfl
@[simp] theorem F0i (C:Conf) (b:Code) (Q:Ex->Fr->H->Prop) (fr:Fr) (h:H):j0T C b Q .ret fr h = Q .ret fr h:=rfl
@[simp] theorem G0u (C:Conf) (b:Code) (Q:Ex->Fr->H->Prop) (v:AS) (fr:Fr) (h:H):j0T C b Q (.pan v) fr h = Q (.pan v) fr h:=rfl
@[simp] theorem y0a (id:Nat) (Q:Ex->Fr->H->Prop) (fr:Fr) (h:H):c0O id Q .normal fr h = Q .normal fr h:=rfl
@[simp] theorem p0f (id:Nat) (Q:Ex->Fr->H->Prop) (i:Nat) (fr:Fr) (h:H):c0O id Q (.exit i) fr h = if i = id then Q .normal fr h else Q (.exit i) fr h:=rfl
@[simp] theorem C0i (id:Nat) (Q:Ex->Fr->H->Prop) (fr:Fr) (h:H):c0O id Q .ret fr h = Q .ret fr h:=rfl
@[simp] theorem C0f (id:Nat) (Q:Ex->Fr->H->Prop) (v:AS) (fr:Fr) (h:H):c0O id Q (.pan v) fr h = Q (.pan v) fr h:=rfl
def j0V (C:Conf) (ops l:List Oper) (fr:Fr) (dst:Option Nat) (Q:Ex->Fr->H->Prop) (v:AV) (h:H):Prop:=onF (Fr.put fr dst v) fun fr'=>b0P C ops l fr' h Q
def w0z (fr:Fr) (Q:Ex->Fr->H->Prop) (v:AS) (h:H):Prop:=Q (.pan v) fr h
def m0t (C:Conf) (ops l:List Oper) (h:H) (Q:Ex->Fr->H->Prop) (fr:Fr):Prop:=b0P C ops l fr h Q
@[simp] theorem G0C (C:Conf) (ops l:List Oper) (h:H) (Q:Ex->Fr->H->Prop) (fr:Fr):m0t C ops l h Q fr = b0P C ops l fr h Q:=rfl
@[simp] theorem G0I (C:Conf) (ops l:List Oper) (fr:Fr) (dst:Option Nat) (Q:Ex->Fr->H->Prop) (v:AV) (h:H):j0V C ops l fr dst Q v h = onF (Fr.put fr dst v) (m0t C ops l h Q):=rfl
@[simp] theorem G0V (fr:Fr) (Q:Ex->Fr->H->Prop) (v:AS) (h:H):w0z fr Q v h = Q (.pan v) fr h:=rfl
@[simp] theorem D0d (C:Conf) (ops:List Oper) (fr:Fr) (h:H) (Q:Ex->Fr->H->Prop):b0P C ops [] fr h Q = Q .normal fr h:=r0X C ops fr h Q
def k0O (C:Conf) (ops l:List Oper) (o:Oper) (fr:Fr) (h:H) (Q:Ex->Fr->H->Prop) (b:Option Bool):Prop :=
 onW b (onR ((opA C.P C.cmp fr h o).bind (W9 (W C))) (j0V C ops l fr o.dst Q) (w0z fr Q)) (onF (Fr.put fr o.dst .undef) (m0t C ops l h Q))
@[simp] theorem B0D (C:Conf) (ops l:List Oper) (o:Oper) (fr:Fr) (h:H) (Q:Ex->Fr->H->Prop):k0O C ops l o fr h Q (some true) = onR ((opA C.P C.cmp fr h o).bind (W9 (W C))) (j0V C ops l fr o.dst Q) (w0z fr Q):=by simp [k0O]
@[simp] theorem A0v (C:Conf) (ops l:List Oper) (o:Oper) (fr:Fr) (h:H) (Q:Ex->Fr->H->Prop):k0O C ops l o fr h Q (some false) = onF (Fr.put fr o.dst .undef) (m0t C ops l h Q):=by simp [k0O]
@[simp] theorem B0h (C:Conf) (ops l:List Oper) (o:Oper) (fr:Fr) (h:H) (Q:Ex->Fr->H->Prop):b0P C ops (o::l) fr h Q = k0O C ops l o fr h Q (O8 fr ops o):=q0X C ops l o fr h Q
theorem wS {C:Conf} {ops l:List Oper} {o:Oper} {fr:Fr} {h:H} {Q:Ex->Fr->H->Prop} {t:Bool} (h1:t = true->onR ((opA C.P C.cmp fr h o).bind (W9 (W C))) (j0V C ops l fr o.dst Q) (w0z fr Q)) (h2:t = false->onF (Fr.put fr o.dst .undef) (m0t C ops l h Q)):k0O C ops l o fr h Q (some t):=by
 cases t
 ·simpa using h2 rfl
 ·simpa using h1 rfl
def g0J (C:Conf) (a b:Code) (fr:Fr) (h:H) (Q:Ex->Fr->H->Prop) (c:Option AS):Prop:=p0v c (M4 C a fr h Q) (M4 C b fr h Q)
@[simp] theorem B0o (C:Conf) (a b:Code) (fr:Fr) (h:H) (Q:Ex->Fr->H->Prop):g0J C a b fr h Q (some (.bool true)) = M4 C a fr h Q:=by simp [g0J]
@[simp] theorem A0S (C:Conf) (a b:Code) (fr:Fr) (h:H) (Q:Ex->Fr->H->Prop):g0J C a b fr h Q (some (.bool false)) = M4 C b fr h Q:=by simp [g0J]
theorem cF {C:Conf} {a b:Code} {fr:Fr} {h:H} {Q:Ex->Fr->H->Prop} {t:Bool} (h1:t = true->M4 C a fr h Q) (h2:t = false->M4 C b fr h Q):g0J C a b fr h Q (some (.bool t)):=by
 cases t
 ·simpa using h2 rfl
 ·simpa using h1 rfl
@[congr] theorem B0l {C:Conf} {b:Code} {Q:Ex->Fr->H->Prop} {x y:Ex} {fr fr':Fr} {h h':H} (h0:x = y):j0T C b Q x fr h = j0T C b Q y fr h:=by rw [h0]
@[congr] theorem z0E {id:Nat} {Q:Ex->Fr->H->Prop} {x y:Ex} {fr:Fr} {h:H} (h0:x = y):c0O id Q x fr h = c0O id Q y fr h:=by rw [h0]
theorem x0j {C:Conf} {ops l:List Oper} {fr:Fr} {dst:Option Nat} {Q:Ex->Fr->H->Prop} {v:AV} {h:H}:j0V C ops l fr dst Q v h = j0V C ops l fr dst Q v h:=rfl
attribute [congr] x0j
section
variable {C:Conf} (hp:PrimOk C)
include hp
theorem m0L (a b:Code) (fr:Fr) (h:H) (Q:Ex->Fr->H->Prop):M4 C (.seq a b) fr h Q = M4 C a fr h (j0T C b Q):=by
 apply propext
 constructor
 ·intro hd
  unfold M4 at hd |-
  rw [i0Y hp] at hd
  obtain ⟨x,fr',h',e,hq⟩:=hd
  simp only [step,oqE,oqB] at e
  obtain ⟨⟨x1,fr1,h1⟩,e1,e2⟩:=e
  refine ⟨x1,fr1,h1,e1, ?_⟩
  cases x1 with
  | normal=>exact ⟨x,fr',h',e2,hq⟩
  | exit i=>simp only [oqI,oqM] at e2;obtain ⟨rfl,rfl,rfl⟩:=e2;exact hq
  | ret=>simp only [oqI,oqM] at e2;obtain ⟨rfl,rfl,rfl⟩:=e2;exact hq
  | pan v=>simp only [oqI,oqM] at e2;obtain ⟨rfl,rfl,rfl⟩:=e2;exact hq
 ·intro hd
  refine w0G hp ?_
  obtain ⟨x,fr',h',e,hq⟩:=hd
  refine ⟨x,fr',h',e, ?_⟩
  cases x <;> exact hq
theorem k0L (fr:Fr) (h:H) (Q:Ex->Fr->H->Prop):M4 C .skip fr h Q = Q .normal fr h:=by
 unfold M4;rw [i0Y hp];simp only [step,d0O]
theorem l0m (id:Nat) (fr:Fr) (h:H) (Q:Ex->Fr->H->Prop):M4 C (.exit id) fr h Q = Q (.exit id) fr h:=by
 unfold M4;rw [i0Y hp];simp only [step,d0O]
theorem m0P (fr:Fr) (h:H) (Q:Ex->Fr->H->Prop):M4 C .ret fr h Q = Q .ret fr h:=by
 unfold M4;rw [i0Y hp];simp only [step,d0O]
theorem i0k (id:Nat) (l:List Oper) (fr:Fr) (h:H) (Q:Ex->Fr->H->Prop):M4 C (.region id l.toArray false) fr h Q = b0P C l l fr h Q:=by
 unfold M4;rw [i0Y hp];simp only [step,b0P];rfl
theorem j0f (id:Nat) (b:Code) (fr:Fr) (h:H) (Q:Ex->Fr->H->Prop):M4 C (.block id b) fr h Q = M4 C b fr h (c0O id Q):=by
 apply propext
 constructor
 ·intro hd
  unfold M4 at hd |-
  rw [i0Y hp] at hd
  obtain ⟨x,fr',h',e,hq⟩:=hd
  simp only [step,oqE,oqB] at e
  obtain ⟨⟨x1,fr1,h1⟩,e1,e2⟩:=e
  refine ⟨x1,fr1,h1,e1, ?_⟩
  cases x1 with
  | exit i =>
   simp only [p0f] at e2 |-
   split at e2
   ·rename_i hi;rw [if_pos hi];simp only [oqI,oqM] at e2;obtain ⟨rfl,rfl,rfl⟩:=e2;exact hq
   ·rename_i hi;rw [if_neg hi];simp only [oqI,oqM] at e2;obtain ⟨rfl,rfl,rfl⟩:=e2;exact hq
  | normal=>simp only [oqI,oqM] at e2;obtain ⟨rfl,rfl,rfl⟩:=e2;exact hq
  | ret=>simp only [oqI,oqM] at e2;obtain ⟨rfl,rfl,rfl⟩:=e2;exact hq
  | pan v=>simp only [oqI,oqM] at e2;obtain ⟨rfl,rfl,rfl⟩:=e2;exact hq
 ·intro hd
  refine q0E hp ?_
  obtain ⟨x,fr',h',e,hq⟩:=hd
  refine ⟨x,fr',h',e, ?_⟩
  cases x <;> exact hq
theorem k0h (c:Operand) (a b:Code) (fr:Fr) (h:H) (Q:Ex->Fr->H->Prop):M4 C (.cond c a b) fr h Q = g0J C a b fr h Q (evS fr c):=by
 apply propext
 constructor
 ·intro hd
  unfold M4 at hd
  rw [i0Y hp] at hd
  obtain ⟨x,fr',h',e,hq⟩:=hd
  simp only [step,oqE,oqB] at e
  obtain ⟨t,e1,e2⟩:=e
  cases t with
  | bool t =>
   refine ⟨t,e1,fun ht=>?_,fun ht=>?_⟩
   ·subst ht;exact ⟨x,fr',h',e2,hq⟩
   ·subst ht;exact ⟨x,fr',h',e2,hq⟩
  | _=>cases e2
 ·exact fun hd=>r0r hp hd
end
theorem wN {C:Conf} {ops l:List Oper} {o:Oper} {fr:Fr} {h:H} {Q:Ex->Fr->H->Prop} {t:Bool} (h1:t = false->onR ((opA C.P C.cmp fr h o).bind (W9 (W C))) (j0V C ops l fr o.dst Q) (w0z fr Q)) (h2:t = true->onF (Fr.put fr o.dst .undef) (m0t C ops l h Q)):k0O C ops l o fr h Q (some (!t)):=by
 cases t
 ·simpa using h1 rfl
 ·simpa using h2 rfl
@[simp] theorem D0J (C:Conf) (a b:Code) (fr:Fr) (h:H) (Q:Ex->Fr->H->Prop) (t:Bool):g0J C a b fr h Q (some (.bool (!t))) = g0J C b a fr h Q (some (.bool t)):=by cases t <;> simp
attribute [simp] q0Y c0R
def noK (v:AS) (h:H):Prop:=False
@[simp] theorem H0W (v:AS) (h:H):noK v h = False:=rfl
def j0q (C:Conf) (ops:List Oper) (U:List (Nat × Nat)) (c:List Nat) (fr:Fr) (h:H) (E:List (Nat × H × H)) (R:List (Nat × Fr × AV)) (Q:Ex->Fr->H->Prop):Prop:=f0s C ops (c.map (mkE U)) fr h E R Q
def h0u (C:Conf) (ops:List Oper) (U:List (Nat × Nat)) (c:List Nat) (h:H) (E:List (Nat × H × H)) (R:List (Nat × Fr × AV)) (Q:Ex->Fr->H->Prop) (fr:Fr):Prop:=j0q C ops U c fr h E R Q
@[simp] theorem F0B (C:Conf) (ops:List Oper) (U:List (Nat × Nat)) (c:List Nat) (h:H) (E:List (Nat × H × H)) (R:List (Nat × Fr × AV)) (Q:Ex->Fr->H->Prop) (fr:Fr):h0u C ops U c h E R Q fr = j0q C ops U c fr h E R Q:=rfl
def k0u (C:Conf) (ops:List Oper) (R:List (Nat × Fr × AV)) (h:H) (js:List Nat):Prop:=n0K js (fun j=>h0A R j fun fr1 v1=>onO (ops[j]?) fun q=>(opA C.P C.cmp fr1 h q).bind d0l = some v1)
def k0U (C:Conf) (o:Oper) (E:List (Nat × H × H)) (fr:Fr) (v:AV) (js:List Nat):Prop:=n0K js (fun j=>f0r E j fun h1 h2=>(opA C.P C.cmp fr h1 o).bind d0l = some v \/ (opA C.P C.cmp fr h2 o).bind d0l = some v)
@[simp] theorem B0Z (C:Conf) (ops:List Oper) (R:List (Nat × Fr × AV)) (h:H):k0u C ops R h [] = True:=rfl
@[simp] theorem C0e (C:Conf) (o:Oper) (E:List (Nat × H × H)) (fr:Fr) (v:AV):k0U C o E fr v [] = True:=rfl
@[simp] theorem A0s (C:Conf) (ops:List Oper) (R:List (Nat × Fr × AV)) (h:H) (j:Nat) (js:List Nat):k0u C ops R h (j::js) = ((h0A R j fun fr1 v1=>onO (ops[j]?) fun q=>(opA C.P C.cmp fr1 h q).bind d0l = some v1)/\k0u C ops R h js):=rfl
@[simp] theorem A0E (C:Conf) (o:Oper) (E:List (Nat × H × H)) (fr:Fr) (v:AV) (j:Nat) (js:List Nat):k0U C o E fr v (j::js) = ((f0r E j fun h1 h2=>(opA C.P C.cmp fr h1 o).bind d0l = some v \/ (opA C.P C.cmp fr h2 o).bind d0l = some v)/\k0U C o E fr v js):=rfl
def C0l (C:Conf) (ops:List Oper) (U:List (Nat × Nat)) (i:Nat) (c:List Nat) (dst:Option Nat) (fr:Fr) (h0:H) (E:List (Nat × H × H)) (R:List (Nat × Fr × AV)) (Q:Ex->Fr->H->Prop) (v:AV) (h:H):Prop :=
 k0u C ops R h (q0Y U i)/\onF (Fr.put fr dst v) (h0u C ops U c h (if c0R U i then (i,h0,h0)::E else E) R Q)
def w0N (C:Conf) (ops:List Oper) (U:List (Nat × Nat)) (i:Nat) (c:List Nat) (o:Oper) (fr:Fr) (h:H) (E:List (Nat × H × H)) (R:List (Nat × Fr × AV)) (Q:Ex->Fr->H->Prop) (v:AV):Prop :=
 k0U C o E fr v (q0Y U i)/\onF (Fr.put fr o.dst v) (h0u C ops U c h E (if c0R U i then (i,fr,v)::R else R) Q)
def s0E (C:Conf) (ops:List Oper) (U:List (Nat × Nat)) (c:List Nat) (dst:Option Nat) (fr:Fr) (h0:H) (E:List (Nat × H × H)) (R:List (Nat × Fr × AV)) (Q:Ex->Fr->H->Prop) (v:AV) (h:H):Prop:=onF (Fr.put fr dst v) (h0u C ops U c h (b0E h0 h E) R Q)
@[simp] theorem H0E (C:Conf) (ops:List Oper) (U:List (Nat × Nat)) (i:Nat) (c:List Nat) (dst:Option Nat) (fr:Fr) (h0:H) (E:List (Nat × H × H)) (R:List (Nat × Fr × AV)) (Q:Ex->Fr->H->Prop) (v:AV) (h:H) :
  C0l C ops U i c dst fr h0 E R Q v h = (k0u C ops R h (q0Y U i)/\onF (Fr.put fr dst v) (h0u C ops U c h (if c0R U i then (i,h0,h0)::E else E) R Q)):=rfl
@[simp] theorem F0x (C:Conf) (ops:List Oper) (U:List (Nat × Nat)) (i:Nat) (c:List Nat) (o:Oper) (fr:Fr) (h:H) (E:List (Nat × H × H)) (R:List (Nat × Fr × AV)) (Q:Ex->Fr->H->Prop) (v:AV) :
  w0N C ops U i c o fr h E R Q v = (k0U C o E fr v (q0Y U i)/\onF (Fr.put fr o.dst v) (h0u C ops U c h E (if c0R U i then (i,fr,v)::R else R) Q)):=rfl
@[simp] theorem G0s (C:Conf) (ops:List Oper) (U:List (Nat × Nat)) (c:List Nat) (dst:Option Nat) (fr:Fr) (h0:H) (E:List (Nat × H × H)) (R:List (Nat × Fr × AV)) (Q:Ex->Fr->H->Prop) (v:AV) (h:H) :
  s0E C ops U c dst fr h0 E R Q v h = onF (Fr.put fr dst v) (h0u C ops U c h (b0E h0 h E) R Q):=rfl
def l0J (C:Conf) (ops:List Oper) (U:List (Nat × Nat)) (i:Nat) (c:List Nat) (o:Oper) (fr:Fr) (h:H) (E:List (Nat × H × H)) (R:List (Nat × Fr × AV)) (Q:Ex->Fr->H->Prop) (k:Cls):Prop :=
 onC k (onR ((opA C.P C.cmp fr h o).bind (W9 (W C))) (C0l C ops U i c o.dst fr h E R Q) noK) (onA ((opA C.P C.cmp fr h o).bind d0l) (w0N C ops U i c o fr h E R Q)) (onR ((opA C.P C.cmp fr h o).bind (W9 (W C))) (s0E C ops U c o.dst fr h E R Q) noK)
def l0e (C:Conf) (ops:List Oper) (U:List (Nat × Nat)) (i:Nat) (c:List Nat) (o:Oper) (fr:Fr) (h:H) (E:List (Nat × H × H)) (R:List (Nat × Fr × AV)) (Q:Ex->Fr->H->Prop) (b:Option Bool):Prop :=
 onW b (l0J C ops U i c o fr h E R Q (K7 C.P o)) (onF (Fr.put fr o.dst .undef) (h0u C ops U c h E R Q))
def opG (C:Conf) (ops:List Oper) (U:List (Nat × Nat)) (i:Nat) (c:List Nat) (fr:Fr) (h:H) (E:List (Nat × H × H)) (R:List (Nat × Fr × AV)) (Q:Ex->Fr->H->Prop) (o:Option Oper):Prop :=
 onO o fun o=>l0e C ops U i c o fr h E R Q (O8 fr ops o)
section
variable (C:Conf) (ops:List Oper) (U:List (Nat × Nat)) (i:Nat) (c:List Nat) (o:Oper) (fr:Fr) (h:H) (E:List (Nat × H × H)) (R:List (Nat × Fr × AV)) (Q:Ex->Fr->H->Prop)
@[simp] theorem G0t:l0J C ops U i c o fr h E R Q .eff = onR ((opA C.P C.cmp fr h o).bind (W9 (W C))) (C0l C ops U i c o.dst fr h E R Q) noK:=by simp [l0J]
@[simp] theorem D0L:l0J C ops U i c o fr h E R Q .read = onA ((opA C.P C.cmp fr h o).bind d0l) (w0N C ops U i c o fr h E R Q):=by simp [l0J]
@[simp] theorem D0C:l0J C ops U i c o fr h E R Q .pure = onR ((opA C.P C.cmp fr h o).bind (W9 (W C))) (s0E C ops U c o.dst fr h E R Q) noK:=by simp [l0J]
@[simp] theorem D0s:l0J C ops U i c o fr h E R Q .make = onR ((opA C.P C.cmp fr h o).bind (W9 (W C))) (s0E C ops U c o.dst fr h E R Q) noK:=by simp [l0J]
@[simp] theorem B0M:l0e C ops U i c o fr h E R Q (some true) = l0J C ops U i c o fr h E R Q (K7 C.P o):=by simp [l0e]
@[simp] theorem A0w:l0e C ops U i c o fr h E R Q (some false) = onF (Fr.put fr o.dst .undef) (h0u C ops U c h E R Q):=by simp [l0e]
@[simp] theorem F0J:opG C ops U i c fr h E R Q (some o) = l0e C ops U i c o fr h E R Q (O8 fr ops o):=by simp [opG]
@[simp] theorem D0x:j0q C ops U [] fr h E R Q = Q .normal fr h:=rfl
@[simp] theorem C0P:j0q C ops U (i::c) fr h E R Q = opG C ops U i c fr h E R Q (ops[i]?):=by
 simp only [j0q,List.map_cons,mkE,r0E,opG,l0e,l0J]
 rfl
end
theorem m0F {C:Conf} (hp:PrimOk C) {id:Nat} {l:List Oper} {fr:Fr} {h:H} {Q:Ex->Fr->H->Prop} (c:List Nat) (U:List (Nat × Nat)) (hq:j0q C l U c fr h [] [] Q)
  (hk:(f0N C.P l && (d0u C.P l == c) && (loose C.P l (a0m l []) (d0u C.P l) == U) && i0D c) = true:=by kernel_rfl):M4 C (.region id l.toArray true) fr h Q:=by
 rw [oqd] at hk
 exact u0s hp c U hk.1 (d0N c fr h [] [] [] [] (n0s hk.2) (by simp) (by simp) (by simp) (by simp) hq)
theorem s9 {C:Conf} {c:Code} {fr:Fr} {h:H} {Q:Ex->Fr->H->Prop} (hd:∀ Q':Ex->Fr->H->Prop,(∀ x fr h,Q x fr h->Q' x fr h)->M4 C c fr h Q'):M4 C c fr h Q:=hd Q fun _ _ _ h=>h
theorem F6 {Q Q':Ex->Fr->H->Prop} {x:Ex} {fr:Fr} {h:H} (hQ:∀ x fr h,Q x fr h->Q' x fr h) (hq:Q x fr h):Q' x fr h:=hQ _ _ _ hq
theorem A1 {C:Conf} {b:Code} {x:Ex} {fr:Fr} {h:H} {Q:Ex->Fr->H->Prop} (hd:∀ Q':Ex->Fr->H->Prop,(∀ x fr h,Q x fr h->Q' x fr h)->j0T C b Q' x fr h):j0T C b Q x fr h:=hd Q fun _ _ _ h=>h
theorem A4 {id:Nat} {x:Ex} {fr:Fr} {h:H} {Q:Ex->Fr->H->Prop} (hd:∀ Q':Ex->Fr->H->Prop,(∀ x fr h,Q x fr h->Q' x fr h)->c0O id Q' x fr h):c0O id Q x fr h:=hd Q fun _ _ _ h=>h
def Owns (h:H) (size:Nat) (s:AS) (cells:List AS):Prop :=
 match s with
 | .nilslc=>cells = []
 | .slc b v o n s' c=>o = 0/\s' = size/\c = none/\cells.length = n * size/\b < h.next/\∃ B,h.f b = some B/\B.ver = v/\B.ext v = some cells.length/\B.cells = cells
 | _=>False
def z7:AS->Option Nat
 | .slc b _ _ _ _ _=>some b
 | _=>none
theorem Owns.sees {h:H} {size:Nat} {s:AS} {cells:List AS} (ho:Owns h size s cells):Sees h size s cells:=by
 cases s <;> simp only [Owns] at ho
 ·exact ho
 ·rename_i b v o n s' c
  obtain ⟨rfl,rfl,rfl,hl,_,B,h1,h2,h3,h4⟩:=ho
  refine ⟨rfl, ?_⟩
  simp only [K8,h1,h3,oqE,oqS,Nat.zero_add]
  rw [if_pos (by omega)]
  unfold sub
  rw [h4,if_pos (by omega),List.drop_zero,<- hl,List.take_length]
theorem Owns.keep {h h':H} {size:Nat} {s:AS} {cells:List AS} (ho:Owns h size s cells) (hn:h.next <= h'.next) (hf:∀ b,z7 s = some b->h'.f b = h.f b):Owns h' size s cells:=by
 cases s <;> simp only [Owns] at ho |-
 ·exact ho
 ·rename_i b v o n s' c
  obtain ⟨h1,h2,h3,h4,h5,B,h6,h7⟩:=ho
  exact ⟨h1,h2,h3,h4,by omega,B,by rw [hf b rfl];exact h6,h7⟩
theorem p0 {h:H} {k:Blk} {b:Nat} (hb:b ≠ h.next):(h.new k).f b = h.f b:=by simp [H.new,hb]
theorem Owns.new {h:H} {size:Nat} {s:AS} {cells:List AS} (ho:Owns h size s cells) (k:Blk):Owns (h.new k) size s cells:=by
 refine ho.keep (by simp [H.new]) fun b hb=>p0 ?_
 cases s <;> simp only [Owns,z7] at ho hb
 ·cases hb
 ·simp only [oqI] at hb;subst hb;omega
 all_goals cases hb
theorem j0b (h:H) (size n:Nat) (cells:List AS) (fixed:Bool) (hl:cells.length = n * size):Owns (h.new (F0 cells fixed)) size (.slc h.next 0 0 n size none) cells:=by
 refine ⟨rfl,rfl,rfl,hl,by simp [H.new],F0 cells fixed,by simp [H.new],rfl,by simp [Blk.ext,F0],rfl⟩
theorem r0W {h:H} {size bytes m:Nat} {s:AS} {cells new:List AS} {n:Nat} (ho:Owns h size s cells) (h0:0 < size) (hn:cells.length = n * size) (hm:0 < m) (hnew:new.length = m * size) (hlim:(n + m + 600) * bytes + (n + m) <= N3) :
  ∃ s' h',M8 size bytes m new h s = some (s',h')/\Owns h' size s' (cells++new)/\h.next <= h'.next/\(∀ b,b < h.next->z7 s ≠ some b->h'.f b = h.f b)/\(∀ b,z7 s' = some b->z7 s = some b \/ h.next <= b)/\(z7 s').isSome:=by
 have hne:¬ (new.length ≠ m * size \/ size = 0):=by omega
 cases s <;> simp only [Owns] at ho
 ·-- nil
  subst ho
  have hn0:n = 0:=by
   simp only [oqc] at hn
   rcases Nat.mul_eq_zero.1 hn.symm with h | h <;> omega
  subst hn0
  refine ⟨.slc h.next 0 0 m size none,h.new (F0 new false), ?_,by simpa using j0b h size m new false hnew,by simp [H.new],fun b hb _=>p0 (by omega),fun b hb=>?_,rfl⟩
  ·simp only [M8,if_neg hne,if_neg (Nat.ne_of_gt hm)]
   rw [if_pos (by simpa using hlim)]
  ·simp only [z7,oqI] at hb;right;omega
 ·rename_i b v o k s' c
  obtain ⟨rfl,rfl,rfl,hl,hb,B,h1,rfl,h3,h4⟩:=ho
  have hk:n = k:=by rw [hl] at hn;exact (Nat.eq_of_mul_eq_mul_right h0 hn).symm
  subst hk
  have hlen:B.cells.length = n * s':=by rw [h4];exact hl
  have hrd:K8 h (.ptr b B.ver 0) (n * s') = some cells:=by
   simp only [K8,h1,h3,oqE,oqS,Nat.zero_add]
   rw [if_pos (by omega)]
   unfold sub
   rw [h4,if_pos (by omega),List.drop_zero,<- hl,List.take_length]
  have hlim':¬ N3 < (n + m + 600) * bytes + (n + m):=by omega
  by_cases hfx:B.fixed = true
  ·refine ⟨.slc h.next 0 0 (n + m) s' none,h.new (F0 (cells++new) false), ?_,j0b h s' (n + m) (cells++new) false (by simp [hl,hnew,Nat.add_mul]),by simp [H.new],fun b hb _=>p0 (by omega),fun b hb=>?_,rfl⟩
   ·simp only [M8,if_neg hne,if_neg (Nat.ne_of_gt hm),if_neg hlim',h1,h3,hrd,oqE,oqS,Nat.zero_add,ne_eq,not_true_eq_false,if_false]
    rw [if_neg (by rw [h4];simp),if_neg (by rw [hnew,hl];have:=Nat.mul_pos hm h0;omega),if_pos hfx]
   ·simp only [z7,oqI] at hb;right;omega
  ·refine ⟨.slc b (B.ver + 1) 0 (n + m) s' none,h.set b ⟨B.ver + 1,(cells.length + new.length)::B.exts,false,B.cells++new⟩, ?_, ?_,oqg _,fun b' hb' hne'=>?_,fun b' hb'=>.inl hb',rfl⟩
   ·simp only [M8,if_neg hne,if_neg (Nat.ne_of_gt hm),if_neg hlim',h1,h3,hrd,oqE,oqS,Nat.zero_add,ne_eq,not_true_eq_false,if_false]
    rw [if_neg (by rw [h4];simp),if_neg (by rw [hnew,hl];have:=Nat.mul_pos hm h0;omega),if_neg hfx,if_pos hl.symm]
    rfl
   ·refine ⟨rfl,rfl,rfl,by simp [hl,hnew,Nat.add_mul],hb,⟨B.ver + 1,(cells.length + new.length)::B.exts,false,B.cells++new⟩,by simp [H.set],rfl,by simp [Blk.ext],by simp [h4]⟩
   ·have:b' ≠ b:=by rintro rfl;exact hne' rfl
    simp [H.set,this]
theorem a0p {P:Program} {t u el size bytes:Nat} {h:H} {s x:AS} {m:Nat} {new:List AS} (h1:V3 P t = some el) (h2:B5 P el = some size) (h3:C3 P el = some bytes) (h4:P.underlying u = some (.slice el)) (hx:U9 x = some m) (he:C6 h size m x = some new) :
  X9 P t u h s x = M8 size bytes m new h s:=by
 simp only [X9,h1,h2,h3,h4,hx,he,oqE,oqS]
theorem k0W {h:H} {size:Nat} {s:AS} {cells:List AS} {n:Nat} (hs:Sees h size s cells) (h0:0 < size) (hn:cells.length = n * size):C6 h size n s = some cells:=by
 have hl:=f0z hs h0 hn
 cases s <;> simp only [Sees] at hs
 ·simp only [U9,oqI] at hl
  subst hs;subst hl;rfl
 ·simp only [U9,oqI] at hl
  obtain ⟨rfl,hr⟩:=hs
  subst hl
  simp only [C6,oqg,and_self,if_true];exact hr
 ·simp only [U9,oqI] at hl
  obtain ⟨rfl,rfl,hr⟩:=hs
  subst hl
  simp only [C6,oqg,and_self,if_true,sub,Nat.zero_add,List.drop_zero]
  rw [if_pos (by omega),<- hn,List.take_length]
theorem Sees.new {h:H} {size:Nat} {s:AS} {cells:List AS} (hs:Sees h size s cells) (k:Blk) (hw:∀ b,h.next <= b->h.f b = none):Sees (h.new k) size s cells:=by
 cases s <;> simp only [Sees] at hs |-
 ·exact hs
 ·rename_i b v o n s' c
  refine ⟨hs.1, ?_⟩
  have hr:=hs.2
  simp only [K8,oqE,oqB] at hr |-
  obtain ⟨B,hB,hr⟩:=hr
  refine ⟨B, ?_,hr⟩
  have:b ≠ h.next:=by rintro rfl;rw [hw _ (oqg _)] at hB;cases hB
  rw [p0 this];exact hB
 ·exact hs
theorem r0w:∀ {a:AS},c7 true a = true->c7 false a = true:=by
 intro a
 refine AS.rec (motive_1:=fun a=>c7 true a = true->c7 false a = true) (motive_2:=fun l=>v9 true l = true->v9 false l = true)
  ?_ ?_ ?_ ?_ ?_ ?_ ?_ ?_ ?_ ?_ ?_ ?_ ?_ ?_ ?_ ?_ ?_ ?_ ?_ a
 all_goals (intros;first | rfl | (rename_i h;exact h) | skip)
 ·rename_i ih h;simp only [c7,oqd,Bool.not_true,oqF,false_and] at h
 ·rename_i ih h;simp only [c7,oqd,Bool.not_false,Bool.true_or,true_and] at h |-;exact ih h.2
 ·rename_i i1 i2 h;simp only [c7,oqd] at h |-;exact ⟨i1 h.1,i2 h.2⟩
 ·rename_i ih h;simp only [c7] at h |-;exact ih h
 ·rename_i i1 i2 h;simp only [v9,oqd] at h |-;exact ⟨i1 h.1,i2 h.2⟩
theorem d0P {f g:AS->Option AS} (hg:∀ a b,f a = some b->g a = some b):∀ {l m:List AS},l.mapM f = some m->l.mapM g = some m
 | [],m,h=>by simpa using h
 | a::l,m,h=>by
  simp only [List.mapM_cons,oqE,oqB,oqP,oqI] at h |-
  obtain ⟨b,h1,q,h2,rfl⟩:=h
  exact ⟨b,hg _ _ h1,q,d0P hg h2,rfl⟩
theorem d0J {h:H}:∀ n a b,z9 true h n a = some b->z9 false h n a = some b
 | 0,a,b,e=>by simp [z9] at e
 | n + 1,a,b,e=>by
  have other:(if c7 true a = true then some a else none) = some b->(if c7 false a = true then some a else none) = some b:=by
   intro e
   split at e
   ·rename_i hp;rw [if_pos (r0w hp)];exact e
   ·cases e
  cases a with
  | slc x v o k s c =>
   simp only [z9,oqE,oqB,oqI] at e |-
   obtain ⟨l,h1,m,h2,rfl⟩:=e
   exact ⟨l,h1,m,d0P (d0J n) h2,rfl⟩
  | _=>simpa [z9] using other (by simpa [z9] using e)
theorem m0U {h:H}:∀ {l m:List (Bool × List AS)},L9 true h l = some m->L9 false h l = some m
 | [],m,e=>by simpa [L9] using e
 | p::l,m,e=>by
  simp only [L9,oqE,oqB,oqI] at e |-
  obtain ⟨q,h1,r,h2,rfl⟩:=e
  exact ⟨q,d0P (d0J 64) h1,r,m0U h2,rfl⟩
theorem u0l {h:H} {a b:AV} (e:A0 true h a = some b):A0 false h a = some b:=by
 cases a with
 | one a =>
  simp only [A0,oqE,oqB,oqI] at e |-
  obtain ⟨x,h1,rfl⟩:=e
  exact ⟨x,d0J 64 _ _ h1,rfl⟩
 | agg l =>
  simp only [A0,oqE,oqB,oqI] at e |-
  obtain ⟨x,h1,rfl⟩:=e
  exact ⟨x,d0P (d0J 64) h1,rfl⟩
 | tup ps =>
  simp only [A0,oqE,oqB,oqI] at e |-
  obtain ⟨x,h1,rfl⟩:=e
  exact ⟨x,m0U h1,rfl⟩
 | opq=>exact e
 | undef=>simp [A0] at e
theorem n0e {own:Bool} {h1 h:H} {a:AV} {r:CR} (e:A7 own true h1 h a = some r):A7 own false h1 h a = some r:=by
 unfold A7 at e |-
 split at e
 ·simp only [oqE,oqB] at e |-
  obtain ⟨B,hB,e⟩:=e
  refine ⟨B,hB, ?_⟩
  split at e
  ·rename_i hc
   rw [if_pos hc]
   simp only [oqB] at e |-
   obtain ⟨l,h1,e⟩:=e
   exact ⟨l,d0P (d0J 64) h1,e⟩
  ·cases e
 ·simp only [oqE,oqB] at e |-
  obtain ⟨v,hv,e⟩:=e
  exact ⟨v,u0l hv,e⟩
def o0G (C:Conf) (rs:List ResultVar) (Q:AV->H->Prop) (x:Ex) (fr:Fr) (h:H):Prop :=
 match x with
 | .normal | .ret=>onA (O4 C fr h rs) fun v=>Q v h
 | _=>False
@[simp] theorem A0V (C:Conf) (rs:List ResultVar) (Q:AV->H->Prop) (fr:Fr) (h:H):o0G C rs Q .normal fr h = onA (O4 C fr h rs) fun v=>Q v h:=rfl
@[simp] theorem G0l (C:Conf) (rs:List ResultVar) (Q:AV->H->Prop) (fr:Fr) (h:H):o0G C rs Q .ret fr h = onA (O4 C fr h rs) fun v=>Q v h:=rfl
@[simp] theorem D0M (C:Conf) (rs:List ResultVar) (Q:AV->H->Prop) (fr:Fr) (h:H) (i:Nat):o0G C rs Q (.exit i) fr h = False:=rfl
@[simp] theorem F0A (C:Conf) (rs:List ResultVar) (Q:AV->H->Prop) (fr:Fr) (h:H) (v:AS):o0G C rs Q (.pan v) fr h = False:=rfl
def Apart (C:Conf) (f:Nat) (args:List AV) (Q:AV->H->Prop):Prop :=
 ∃ fn c,C.prim f = none/\C.ext f = none/\C.frz f = true/\C.P.funcs[f]? = some fn/\fn.body = some c/\args.length <= fn.ntmps/\M4 C c (args++List.replicate (fn.ntmps - args.length) .undef) H.empty (o0G C fn.results.toList Q)
theorem n0P {h:H} {l l':List AV} (e:b0s h l = some l'):l'.length = l.length:=by
 unfold b0s at e
 split at e
 ·cases e;rfl
 ·have:∀ {l l':List AV},l.mapM (d0b h) = some l'->l'.length = l.length:=by
   intro l
   induction l with
   | nil=>intro l' e;simp at e;subst e;rfl
   | cons a l ih =>
    intro l' e
    simp only [List.mapM_cons,oqE,oqB,oqP,oqI] at e
    obtain ⟨b,_,q,h2,rfl⟩:=e
    simp [ih h2]
  exact this e
theorem s0l {C:Conf} (hp:PrimOk C) {f:Nat} {args args':List AV} {h:H} {r:CR} (hv:b0s h args = some args') (ha:Apart C f args' fun v h1=>A7 (C.own f) (!args.all M5) h1 h v = some r):W C f args h = some r:=by
 obtain ⟨fn,c,h1,h2,h3,h4,h5,h6,x,fr,hh,e,hx⟩:=ha
 have hl:=n0P hv
 rw [hl] at h6 e
 rw [u0d hp]
 unfold callF
 rw [h1,h2]
 simp only [h4,oqE,oqS,h5,if_neg (Nat.not_lt.2 h6),if_pos h3,hv,e]
 cases x with
 | normal=>obtain ⟨v,hv,hr⟩:=hx;simp only [hv,oqS];exact hr
 | ret=>obtain ⟨v,hv,hr⟩:=hx;simp only [hv,oqS];exact hr
 | exit i=>exact hx.elim
 | pan v=>exact hx.elim
theorem r0n {C:Conf} (hp:PrimOk C) {f:Nat} {args:List AV} {h:H} {r:CR} (hv:args.all M5 = true) (ha:Apart C f args fun v h1=>A7 (C.own f) false h1 h v = some r):W C f args h = some r:=by
 refine s0l hp (args':=args) (by unfold b0s;rw [if_pos hv]) ?_
 rw [hv];exact ha
def Fun (C:Conf) (f:Nat) (args:List AV) (r:H->CR):Prop:=args.all M5 = true/\∀ h,Apart C f args fun v h1=>A7 (C.own f) true h1 h v = some (r h)
theorem Apart.mono {C:Conf} {f:Nat} {args:List AV} {Q Q':AV->H->Prop} (ha:Apart C f args Q) (hq:∀ v h,Q v h->Q' v h):Apart C f args Q':=by
 obtain ⟨fn,c,h1,h2,h3,h4,h5,h6,hd⟩:=ha
 refine ⟨fn,c,h1,h2,h3,h4,h5,h6,hd.mono fun x fr h hx=>?_⟩
 cases x with
 | normal=>obtain ⟨v,hv,hx⟩:=hx;exact ⟨v,hv,hq _ _ hx⟩
 | ret=>obtain ⟨v,hv,hx⟩:=hx;exact ⟨v,hv,hq _ _ hx⟩
 | exit i=>exact hx
 | pan v=>exact hx
theorem Fun.pure {C:Conf} (hp:PrimOk C) {f:Nat} {args:List AV} {r:H->CR} (hf:Fun C f args r) (h:H):W C f args h = some (r h) :=
 r0n hp hf.1 ((hf.2 h).mono fun _ _ e=>n0e e)
theorem Fun.view {C:Conf} (hp:PrimOk C) {f:Nat} {args args0:List AV} {r:H->CR} (hf:Fun C f args r) {h:H} (hv:b0s h args0 = some args):W C f args0 h = some (r h):=by
 refine s0l hp hv ((hf.2 h).mono fun _ _ e=>?_)
 cases args0.all M5 with
 | true=>exact n0e e
 | false=>exact e
theorem N2 {C:Conf} {f:Nat} {fn:Func} {c:Code} (h1:C.prim f = none) (h2:C.ext f = none) (h3:C.frz f = true) (h4:C.P.funcs[f]? = some fn) (h5:fn.body = some c) {args:List AV} {Q:AV->H->Prop} (h6:args.length <= fn.ntmps)
  (hq:M4 C c (args++List.replicate (fn.ntmps - args.length) .undef) H.empty (o0G C fn.results.toList Q)):Apart C f args Q:=⟨fn,c,h1,h2,h3,h4,h5,h6,hq⟩
theorem h0v (st:Bool):∀ (l m:List AS),v9 st (l++m) = (v9 st l && v9 st m)
 | [],m=>by simp [v9]
 | a::l,m=>by simp [v9,h0v st l m,Bool.and_assoc]
theorem A5 {st:Bool} {h:H} {n:Nat} {a:AS} (hp:c7 st a = true):z9 st h (n + 1) a = some a:=by
 cases a with
 | slc x v o k s c=>simp [c7] at hp
 | _=>simp only [z9,hp,if_true]
theorem c0C {st:Bool} {h:H} {n:Nat}:∀ {l:List AS},v9 st l = true->l.mapM (z9 st h (n + 1)) = some l
 | [],_=>rfl
 | a::l,hp=>by
  simp only [v9,oqd] at hp
  simp only [List.mapM_cons,A5 hp.1,c0C hp.2,oqE,oqS,oqP]
theorem d0R {h:H} {n:Nat} {a:AS} (hp:c7 false a = true) (hn:∀ f x c,a ≠ .fn f x c) (hi:∀ t v,a ≠ .ifc t v):N5 h (n + 1) a = some a:=by
 cases a with
 | slc x v o k s c=>simp [c7] at hp
 | ptr b v o=>simp [c7] at hp
 | fn f x c=>exact absurd rfl (hn f x c)
 | ifc t v=>exact absurd rfl (hi t v)
 | _=>simp only [N5,hp,if_true]
end Go.Ab
