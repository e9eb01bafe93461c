/- The machine that the kernel runs: a program's. No conditions. -/
import Derived.Test.YtofafocfemikcaaGreatFa1
import Derived.Test.YtofafocfemikcaaGreatAbI
import Derived.Test.YtofafocfemikcaaGreatFa2
import Derived.Test.YtofafocfemikcaaGreatAb4
import Derived.Test.YtofafocfemikcaaGreatAb3
set_option linter.unusedVariables false
set_option linter.unusedSimpArgs false
namespace Go.Fa
open Ab (AS AV OR Fr H CR Conf InsFn insA endA)
def endF (o:Option (AS × FH)):Option CF:=match o with | some p=>some (.ret (.one p.1) p.2) | none=>none
def insF (F:InsFn) (cf:CallsF) (args:List AV) (t:FH):Option CF :=
 match args with
 | [.one s,.one (.int k i),.one (.slc bv vv ov m sv cv)]=>bif isK k .i64 then bif Nat.beq m 1 then bif Nat.beq sv F.size then (match readF t (.ptr bv vv ov) (Nat.mul 1 F.size) with
  | some new=>match s with
   | .nilslc=>bif eqI i (.ofNat 0) then endF (appendF F.size F.bytes 1 new t .nilslc) else none
   | .slc b v o n s' c=>bif eqI i (.ofNat n) then endF (appendF F.size F.bytes 1 new t (.slc b v o n s' c)) else (match t.at bv,i with
    | some kb,.ofNat j=>bif Nat.blt j n then bif Nat.beq bv b then none else bif kb.fixed then bif Nat.beq s' F.size then bif Nat.blt 0 F.size then bif Nat.ble n 17592186044416 then
      (match readF t (.ptr b v (Nat.add o (Nat.mul j F.size))) (Nat.mul (Nat.sub n j) F.size) with
      | some rest=>endF (appendF F.size F.bytes (Nat.add 1 (Nat.sub n j)) (new++rest) t (.slc b v o j s' c))
      | none=>none) else none else none else none else none else none
    | _,_=>none)
   | _=>none
  | none=>none) else none else none else none
 | _=>none
theorem endF_ok {o:Option (AS × FH)} {q:Option (AS × H)} {r:CF} (h:∀ x t,o = some (x,t)→∃ h',q = some (x,h')∧HR t h') (hr:endF o = some r):CFok (endA q) r:=by
 unfold endF at hr
 split at hr
 ·rename_i p
  obtain ⟨h',e,hh⟩:=h p.1 p.2 rfl
  simp only [oqI] at hr
  subst hr;subst e
  exact ⟨h',rfl,hh⟩
 ·cases hr
theorem insF_ok {F:InsFn}:∀ cf c,CallsR cf c→∀ args t h r,HR t h→insF F cf args t = some r→CFok (insA F args h) r:=by
 intro cf c _ args t h r hh hr
 unfold insF at hr
 split at hr
 ·rename_i s k i bv vv ov m sv cv
  replace hr:=bif_some hr;obtain ⟨e1,hr⟩:=hr
  replace hr:=bif_some hr;obtain ⟨e2,hr⟩:=hr
  replace hr:=bif_some hr;obtain ⟨e3,hr⟩:=hr
  have k1:=isK_eq e1
  have k2:=oqN e2
  have k3:=oqN e3
  subst k1;subst k2;subst k3
  split at hr
  ·rename_i new hnew
   have hn:=readF_ok hh hnew
   have hel:Ab.elemsOf h F.size 1 (.slc bv vv ov 1 F.size cv) = some new:=by
    simp only [Ab.elemsOf]
    rw [if_pos ⟨trivial,Nat.le_refl _⟩];exact hn
   unfold insA
   simp only [hel,oqS]
   split at hr
   ·replace hr:=bif_some hr;obtain ⟨e4,hr⟩:=hr
    rw [eqI_eq] at e4
    have hi0:i = 0:=eq_of_beq e4
    simp only [if_pos hi0]
    exact endF_ok (fun x t' e=>appendF_ok hh e) hr
   ·rename_i b v o n s' c'
    cases e4:eqI i (.ofNat n) with
    | true =>
     rw [e4,cond_true] at hr
     rw [eqI_eq] at e4
     have hi0:i = (n:Int):=eq_of_beq e4
     simp only [if_pos hi0]
     exact endF_ok (fun x t' e=>appendF_ok hh e) hr
    | false =>
     rw [e4,cond_false] at hr
     rw [eqI_eq] at e4
     have hne:¬ i = (n:Int):=fun e=>by rw [e] at e4;simp at e4
     simp only [if_neg hne]
     split at hr
     ·rename_i kb j hkb
      obtain ⟨_,B,hB,hBR⟩:=hh.at hkb
      replace hr:=bif_some hr;obtain ⟨e5,hr⟩:=hr
      cases e6:Nat.beq bv b with
      | true=>rw [e6] at hr;cases hr
      | false =>
       rw [e6,cond_false] at hr
       replace hr:=bif_some hr;obtain ⟨e7,hr⟩:=hr
       replace hr:=bif_some hr;obtain ⟨e8,hr⟩:=hr
       replace hr:=bif_some hr;obtain ⟨e9,hr⟩:=hr
       replace hr:=bif_some hr;obtain ⟨e10,hr⟩:=hr
       split at hr
       ·rename_i rest hrest
        have hrd:=readF_ok hh hrest
        have h5:=blt_lt e5
        have hbb:bv ≠ b:=fun e=>by rw [e,Nat.beq_refl] at e6;cases e6
        rw [hB,oqS,if_pos ⟨by simp,by simpa using h5,hbb,by rw [hBR.fixed];exact e7,oqN e8,blt_lt e9,ble_le e10⟩]
        have:Ab.readC h (.ptr b v (o + (Int.ofNat j).toNat * F.size)) ((n - (Int.ofNat j).toNat) * F.size) = some rest:=hrd
        rw [this,oqS]
        exact endF_ok (fun x t' e=>appendF_ok hh e) hr
       ·cases hr
     ·cases hr
   ·cases hr
  ·cases hr
 ·cases hr
end Go.Fa
namespace Go.Fa
open Ab (AS AV OR Fr H CR Cls clsOf Ex Conf Calls' W X PrimOk isAnc Ext RdFn readA LayFn layA InsFn insA)
def nthF:List Func→Nat→Option Func
 | [],_=>none
 | a::l,n=>bif Nat.beq n 0 then some a else nthF l (Nat.sub n 1)
theorem nthF_eq:∀ (l:List Func) (n:Nat),nthF l n = l[n]?
 | [],n=>rfl
 | a::l,0=>rfl
 | a::l,n + 1=>by
  rw [nthF]
  have:Nat.beq (n + 1) 0 = false:=rfl
  rw [this,cond_false,List.getElem?_cons_succ]
  exact nthF_eq l n
structure Seat where
 P:Program
 ext:List (Nat × Ext)
 cmp:List Nat
 rd:Nat
 F:RdFn
 lay:Option (Nat × LayFn)
 ins:List (Nat × InsFn)
def extL:List (Nat × Ext)→Nat→Option Ext
 | [],_=>none
 | a::l,f=>bif Nat.beq f a.1 then some a.2 else extL l f
def insL:List (Nat × InsFn)→Nat→Option InsFn
 | [],_=>none
 | a::l,f=>bif Nat.beq f a.1 then some a.2 else insL l f
def memL:List Nat→Nat→Bool
 | [],_=>false
 | a::l,t=>bif Nat.beq t a then true else memL l t
def conf0 (S:Seat):Conf:={ P:=S.P,ext:=extL S.ext,prim:=fun _=>none,frz:=fun _=>false,cmp:=fun t=>bif memL S.cmp t then Ab.flatAt S.P 8 t else none }
noncomputable def primA (S:Seat) (f:Nat):Option ((Nat→List AV→H→Option CR)→List AV→H→Option CR):=bif Nat.beq f S.rd then some (readA (conf0 S) S.F) else match insL S.ins f with | some F=>some (fun _ args h=>insA F args h) | none=>match S.lay with | some q=>bif Nat.beq f q.1 then some (layA (conf0 S) q.2) else none | none=>none
noncomputable def conf (S:Seat):Conf:={ P:=S.P,ext:=extL S.ext,prim:=primA S,frz:=fun _=>false,cmp:=fun t=>bif memL S.cmp t then Ab.flatAt S.P 8 t else none }
noncomputable def primF (S:Seat) (f:Nat):Option (CallsF→List AV→FH→Option CF):=bif Nat.beq f S.rd then some (readH (conf0 S) S.F) else match insL S.ins f with | some F=>some (insF F) | none=>match S.lay with | some q=>bif Nat.beq f q.1 then some (layH (conf0 S) q.2) else none | none=>none
noncomputable def tab (S:Seat):Tab :=
 ⟨fun f=>match nthF S.P.funcs.toList f with | some g=>(match g.body with | some c=>some (g.ntmps,c,g.results.toList) | none=>none) | none=>none,primF S⟩
def drawsAll (P:Program):List Func→Bool
 | []=>true
 | g::l=>bif (match g.body with | some c=>drawsOk P c | none=>true) then drawsAll P l else false
def cutF:Nat→Nat→List Func→List Func
 | _,_,[]=>[]
 | 0,0,_=>[]
 | 0,n + 1,a::l=>a::cutF 0 n l
 | k + 1,n,_::l=>cutF k n l
theorem cutF_eq:∀ (k n:Nat) (l:List Func),cutF k n l = (l.drop k).take n
 | k,n,[]=>by cases k <;> cases n <;> rfl
 | 0,0,a::l=>rfl
 | 0,n + 1,a::l=>by rw [cutF,cutF_eq 0 n l];rfl
 | k + 1,n,a::l=>by rw [cutF,cutF_eq k n l];rfl
theorem draws_app {P:Program}:∀ {l m:List Func},drawsAll P l = true→drawsAll P m = true→drawsAll P (l++m) = true
 | [],m,_,h=>h
 | a::l,m,h1,h2=>by
  rw [List.cons_append,drawsAll]
  rw [drawsAll] at h1
  cases hb:(match a.body with | some c=>drawsOk P c | none=>true) with
  | false=>rw [hb] at h1;cases h1
  | true=>rw [hb] at h1;exact draws_app h1 h2
theorem draws_nil {P:Program} {l:List Func}:drawsAll P (l.take 0) = true:=rfl
theorem draws_step {P:Program} {l:List Func} {k n:Nat} (h1:drawsAll P (l.take k) = true) (h2:drawsAll P (cutF k n l) = true):drawsAll P (l.take (k + n)) = true:=by
 rw [List.take_add]
 rw [cutF_eq] at h2
 exact draws_app h1 h2
theorem draws_end {P:Program} {l:List Func} {k:Nat} (hl:l.length ≤ k) (h:drawsAll P (l.take k) = true):drawsAll P l = true:=by
 rwa [List.take_of_length_le hl] at h
def lenLe (l:List Func) (k:Nat):Prop:=Nat.ble l.length k = true
theorem draws_end' {P:Program} {l:List Func} {k:Nat} (hl:lenLe l k) (h:drawsAll P (l.take k) = true):drawsAll P l = true:=draws_end (ble_le hl) h
structure SeatOk (S:Seat):Prop where
 okT:Ab.OkT S.P
 mixed:S.P.follows .mixedOrders = true
 names:∀ (f:Nat) (fn:Func),S.P.funcs[f]? = some fn→fn.body.isSome = true→(fn.name == "runtime.NumGoroutine") = false
 ext:∀ q ∈ S.ext,Ab.ExtT S.P q.1 q.2
 cmp:∀ t ∈ S.cmp,(∃ fs,S.P.underlying t = some (.struct fs))∧S.P.eqGuardType S.P.depth t = false
 read:Ab.ReadOk S.P S.rd S.F
 lay:∀ q,S.lay = some q→Ab.LayOk S.P q.1 q.2
 ins:∀ q ∈ S.ins,∃ ρ el info,Ab.InsLay S.P ρ q.1 el info∧el < S.P.types.size∧q.2 = ⟨info.size,info.bytes⟩
 draws:drawsAll S.P S.P.funcs.toList = true
section
variable {S:Seat}
theorem extL_ok:∀ {l:List (Nat × Ext)} {f:Nat} {x:Ext},extL l f = some x→(f,x) ∈ l
 | [],f,x,h=>by cases h
 | a::l,f,x,h=>by
  rw [extL] at h
  cases hb:Nat.beq f a.1 with
  | true =>
   rw [hb] at h
   simp only [cond_true,oqI] at h
   have:=oqN hb
   subst h;subst this;simp
  | false=>rw [hb] at h;exact List.mem_cons_of_mem _ (extL_ok h)
theorem insL_ok:∀ {l:List (Nat × InsFn)} {f:Nat} {x:InsFn},insL l f = some x→(f,x) ∈ l
 | [],f,x,h=>by cases h
 | a::l,f,x,h=>by
  rw [insL] at h
  cases hb:Nat.beq f a.1 with
  | true =>
   rw [hb] at h
   simp only [cond_true,oqI] at h
   have:=oqN hb
   subst h;subst this;simp
  | false=>rw [hb] at h;exact List.mem_cons_of_mem _ (insL_ok h)
theorem memL_ok:∀ {l:List Nat} {t:Nat},memL l t = true→t ∈ l
 | [],t,h=>by cases h
 | a::l,t,h=>by
  rw [memL] at h
  cases hb:Nat.beq t a with
  | true=>have:=oqN hb;subst this;simp
  | false=>rw [hb] at h;exact List.mem_cons_of_mem _ (memL_ok h)
theorem prim_inv {α:Type} {b:Bool} {x y:α} (h:(bif b then some x else none) = some y):b = true∧x = y:=by
 cases b with
 | true=>simp only [cond_true,oqI] at h;exact ⟨rfl,h⟩
 | false=>cases h
theorem prim_cases {f:Nat} {g:(Nat→List AV→H→Option CR)→List AV→H→Option CR} (h:primA S f = some g):(f = S.rd∧g = readA (conf0 S) S.F) ∨ (∃ q,S.lay = some q∧f = q.1∧g = layA (conf0 S) q.2) ∨ ∃ F,(f,F) ∈ S.ins∧g = fun _ args h=>insA F args h:=by
 unfold primA at h
 cases hb:Nat.beq f S.rd with
 | true =>
  rw [hb] at h
  simp only [cond_true,oqI] at h
  exact .inl ⟨oqN hb,h.symm⟩
 | false =>
  rw [hb,cond_false] at h
  split at h
  ·rename_i F hF
   simp only [oqI] at h
   exact .inr (.inr ⟨F,insL_ok hF,h.symm⟩)
  split at h
  ·rename_i q hq
   obtain ⟨h1,rfl⟩:=prim_inv h
   exact .inr (.inl ⟨q,hq,oqN h1,rfl⟩)
  ·cases h
theorem conf_prim:PrimOk (conf S):=by
 refine ⟨fun f g h c d hl args hh r hr=>?_,fun f g h c w hm hw args hh r hr=>?_⟩
 ·rcases prim_cases h with ⟨_,rfl⟩ | ⟨q,_,_,rfl⟩ | ⟨F,_,rfl⟩
  ·exact Ab.readA_mono hl hr
  ·exact Ab.layA_mono hl hr
  ·exact hr
 ·rcases prim_cases h with ⟨_,rfl⟩ | ⟨q,_,_,rfl⟩ | ⟨F,_,rfl⟩
  ·exact Ab.readA_c hm hw hr
  ·exact Ab.layA_c hm hw hr
  ·exact ⟨0,hr⟩
theorem conf_cmp (h:SeatOk S):∀ t z,(conf S).cmp t = some z→Ab.CmpT S.P t z:=by
 intro t z hz
 obtain ⟨h1,h2⟩:=bif_some hz
 obtain ⟨⟨fs,h3⟩,h4⟩:=h.cmp t (memL_ok h1)
 exact Ab.cmp_ok h2 h3 h4
theorem conf_ok (h:SeatOk S):Ab.OkC (conf S):=by
 refine ⟨h.names,fun f x hx args hh r hr φ w cargs R ha=>?_,fun f g hg calls hc args hh r hr φ w cargs R ha=>?_⟩
 ·exact Ab.ext_ok (h.ext _ (extL_ok hx)) hr R ha
 ·rcases prim_cases hg with ⟨rfl,rfl⟩ | ⟨q,hq,rfl,rfl⟩ | ⟨F,hF,rfl⟩
  ·exact Ab.readA_ok (C:=conf0 S) h.okT (conf_cmp h) h.read hc hr R ha
  ·exact Ab.layA_ok (C:=conf0 S) h.okT (conf_cmp h) h.mixed (h.lay q hq) hc hr R ha
  ·obtain ⟨ρ,el,info,h1,h2,h3⟩:=h.ins _ hF
   exact Ab.insA_ok h.okT h1 h2 h3 hr R ha
theorem conf_W (h:SeatOk S):Ab.CallsOk S.P (W (conf S)):=Ab.W_ok (C:=conf S) h.okT (conf_cmp h) (conf_ok h) conf_prim h.mixed
theorem drawsAll_ok {P:Program}:∀ {l:List Func},drawsAll P l = true→∀ g ∈ l,∀ c,g.body = some c→drawsOk P c = true
 | [],_,g,hg,_,_=>by cases hg
 | a::l,h,g,hg,c,hc=>by
  rw [drawsAll] at h
  cases hb:(match a.body with | some c=>drawsOk P c | none=>true) with
  | false=>rw [hb] at h;cases h
  | true =>
   rw [hb] at h
   rcases List.mem_cons.1 hg with rfl | hg
   ·rw [hc] at hb;exact hb
   ·exact drawsAll_ok h g hg c hc
theorem tab_fn {f nt:Nat} {c:Code} {rs:List ResultVar} (h:(tab S).fn f = some (nt,c,rs)):∃ g,S.P.funcs[f]? = some g∧g ∈ S.P.funcs.toList∧g.body = some c∧g.ntmps = nt∧g.results.toList = rs:=by
 simp only [tab] at h
 split at h
 ·rename_i g hg
  rw [nthF_eq] at hg
  split at h
  ·rename_i c' hc
   simp only [oqI,oqM] at h
   obtain ⟨rfl,rfl,rfl⟩:=h
   exact ⟨g,by simpa using hg,List.mem_of_getElem? hg,hc,rfl,rfl⟩
  ·cases h
 ·cases h
theorem tab_ok (h:SeatOk S):TabOkD (conf S) (tab S) where
 fn f nt c rs hf:=by
  obtain ⟨g,h1,_,h2,h3,h4⟩:=tab_fn hf
  exact ⟨g,h1,h2,h3,h4⟩
 frz _:=rfl
 none f hf:=by
  simp only [tab,primF] at hf
  simp only [conf,primA]
  cases hb:Nat.beq f S.rd with
  | true=>rw [hb] at hf;cases hf
  | false =>
   rw [hb,cond_false] at hf
   rw [cond_false]
   cases e0:insL S.ins f with
   | some F=>rw [e0] at hf;cases hf
   | none =>
   rw [e0] at hf
   simp only at hf ⊢
   cases e:S.lay with
   | none=>rfl
   | some q =>
    rw [e] at hf
    simp only at hf ⊢
    cases h1:Nat.beq f q.1 with
    | true=>rw [h1] at hf;cases hf
    | false=>rfl
 prim f g hg:=by
  simp only [tab,primF] at hg
  simp only [conf,primA]
  cases hb:Nat.beq f S.rd with
  | true =>
   rw [hb] at hg
   simp only [cond_true,oqI] at hg
   subst hg
   exact ⟨readA (conf0 S) S.F,by simp only [cond_true],readH_ok⟩
  | false =>
   rw [hb,cond_false] at hg
   split at hg
   ·rename_i F e
    simp only [oqI] at hg
    subst hg
    exact ⟨fun _ args h=>insA F args h,by simp only [cond_false,e],insF_ok⟩
   rename_i e0
   split at hg
   ·rename_i q e
    obtain ⟨h1,rfl⟩:=prim_inv hg
    exact ⟨layA (conf0 S) q.2,by simp only [cond_false,e0,e,h1,cond_true],layH_ok⟩
   ·cases hg
 draws f nt c rs hf:=by
  obtain ⟨g,_,h1,h2,_,_⟩:=tab_fn hf
  exact drawsAll_ok h.draws g h1 c h2
def isT:Option CF→Bool
 | some (.ret (.one (.bool b)) _)=>b
 | _=>false
theorem closed (h:SeatOk S) {fuel d f:Nat} (hr:isT (callR (conf S) (tab S) fuel d f [] FH.empty) = true):∃ h',W (conf S) f [] H.empty = some (.ret (.one (.bool true)) h'):=by
 cases hx:callR (conf S) (tab S) fuel d f [] FH.empty with
 | none=>rw [hx] at hr;cases hr
 | some r =>
  rw [hx] at hr
  have hok:=callR_ok conf_prim (tab_ok h) d f [] FH.empty H.empty r HR.empty hx
  unfold isT at hr
  split at hr
  ·rename_i b t e
   simp only [oqI] at e
   subst e;subst hr
   obtain ⟨h',h1,_⟩:=hok
   exact ⟨h',h1⟩
  ·cases hr
end
end Go.Fa
