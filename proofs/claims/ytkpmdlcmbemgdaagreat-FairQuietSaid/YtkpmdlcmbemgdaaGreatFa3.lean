/- The machine that the kernel runs: a program's; cut runs. No conditions. -/
import Derived.Test.YtkpmdlcmbemgdaaGreatFa1
import Derived.Test.YtkpmdlcmbemgdaaGreatAbI
import Derived.Test.YtkpmdlcmbemgdaaGreatFa2
import Derived.Test.YtkpmdlcmbemgdaaGreatAb4
import Derived.Test.YtkpmdlcmbemgdaaGreatAb3
set_option linter.unusedVariables false
set_option linter.unusedSimpArgs false
namespace Go.Fa
open Ab (AS AV OR Fr H CR Conf InsFn insA endA)
def endF (o:Option (AS × FH)):Option CF:=match o with | some p=>some (.ret (.one p.1) p.2) | none=>none
def insF (F:InsFn) (cf:CallsF) (args:List AV) (t:FH):Option CF :=
 match args with
 | [.one s,.one (.int k i),.one (.slc bv vv ov m sv cv)]=>bif isK k .i64 then bif Nat.beq m 1 then bif Nat.beq sv F.size then (match readF t (.ptr bv vv ov) (Nat.mul 1 F.size) with
  | some new=>match s with
   | .nilslc=>bif eqI i (.ofNat 0) then endF (appendF F.size F.bytes 1 new t .nilslc) else none
   | .slc b v o n s' c=>bif eqI i (.ofNat n) then endF (appendF F.size F.bytes 1 new t (.slc b v o n s' c)) else (match t.at bv,i with
    | some kb,.ofNat j=>bif Nat.blt j n then bif Nat.beq bv b then none else bif kb.fixed then bif Nat.beq s' F.size then bif Nat.blt 0 F.size then bif Nat.ble n 17592186044416 then
      (match readF t (.ptr b v (Nat.add o (Nat.mul j F.size))) (Nat.mul (Nat.sub n j) F.size) with
      | some rest=>endF (appendF F.size F.bytes (Nat.add 1 (Nat.sub n j)) (new++rest) t (.slc b v o j s' c))
      | none=>none) else none else none else none else none else none
    | _,_=>none)
   | _=>none
  | none=>none) else none else none else none
 | _=>none
theorem endF_ok {o:Option (AS × FH)} {q:Option (AS × H)} {r:CF} (h:∀ x t,o = some (x,t)→∃ h',q = some (x,h')∧HR t h') (hr:endF o = some r):CFok (endA q) r:=by
 unfold endF at hr
 split at hr
 ·rename_i p
  obtain ⟨h',e,hh⟩:=h p.1 p.2 rfl
  simp only [oqI] at hr
  subst hr;subst e
  exact ⟨h',rfl,hh⟩
 ·cases hr
theorem insF_ok {F:InsFn}:∀ cf c,CallsR cf c→∀ args t h r,HR t h→insF F cf args t = some r→CFok (insA F args h) r:=by
 intro cf c _ args t h r hh hr
 unfold insF at hr
 split at hr
 ·rename_i s k i bv vv ov m sv cv
  replace hr:=bif_some hr;obtain ⟨e1,hr⟩:=hr
  replace hr:=bif_some hr;obtain ⟨e2,hr⟩:=hr
  replace hr:=bif_some hr;obtain ⟨e3,hr⟩:=hr
  have k1:=isK_eq e1
  have k2:=oqN e2
  have k3:=oqN e3
  subst k1;subst k2;subst k3
  split at hr
  ·rename_i new hnew
   have hn:=readF_ok hh hnew
   have hel:Ab.elemsOf h F.size 1 (.slc bv vv ov 1 F.size cv) = some new:=by
    simp only [Ab.elemsOf]
    rw [if_pos ⟨trivial,Nat.le_refl _⟩];exact hn
   unfold insA
   simp only [hel,oqS]
   split at hr
   ·replace hr:=bif_some hr;obtain ⟨e4,hr⟩:=hr
    rw [eqI_eq] at e4
    have hi0:i = 0:=eq_of_beq e4
    simp only [if_pos hi0]
    exact endF_ok (fun x t' e=>appendF_ok hh e) hr
   ·rename_i b v o n s' c'
    cases e4:eqI i (.ofNat n) with
    | true =>
     rw [e4,cond_true] at hr
     rw [eqI_eq] at e4
     have hi0:i = (n:Int):=eq_of_beq e4
     simp only [if_pos hi0]
     exact endF_ok (fun x t' e=>appendF_ok hh e) hr
    | false =>
     rw [e4,cond_false] at hr
     rw [eqI_eq] at e4
     have hne:¬ i = (n:Int):=fun e=>by rw [e] at e4;simp at e4
     simp only [if_neg hne]
     split at hr
     ·rename_i kb j hkb
      obtain ⟨_,B,hB,hBR⟩:=hh.at hkb
      replace hr:=bif_some hr;obtain ⟨e5,hr⟩:=hr
      cases e6:Nat.beq bv b with
      | true=>rw [e6] at hr;cases hr
      | false =>
       rw [e6,cond_false] at hr
       replace hr:=bif_some hr;obtain ⟨e7,hr⟩:=hr
       replace hr:=bif_some hr;obtain ⟨e8,hr⟩:=hr
       replace hr:=bif_some hr;obtain ⟨e9,hr⟩:=hr
       replace hr:=bif_some hr;obtain ⟨e10,hr⟩:=hr
       split at hr
       ·rename_i rest hrest
        have hrd:=readF_ok hh hrest
        have h5:=blt_lt e5
        have hbb:bv ≠ b:=fun e=>by rw [e,Nat.beq_refl] at e6;cases e6
        rw [hB,oqS,if_pos ⟨by simp,by simpa using h5,hbb,by rw [hBR.fixed];exact e7,oqN e8,blt_lt e9,ble_le e10⟩]
        have:Ab.readC h (.ptr b v (o + (Int.ofNat j).toNat * F.size)) ((n - (Int.ofNat j).toNat) * F.size) = some rest:=hrd
        rw [this,oqS]
        exact endF_ok (fun x t' e=>appendF_ok hh e) hr
       ·cases hr
     ·cases hr
   ·cases hr
  ·cases hr
 ·cases hr
end Go.Fa
namespace Go.Fa
open Ab (AS AV OR Fr H CR Cls clsOf Ex Conf Calls' W X PrimOk isAnc Ext RdFn readA LayFn layA InsFn insA)
def nthF:List Func→Nat→Option Func
 | [],_=>none
 | a::l,n=>bif Nat.beq n 0 then some a else nthF l (Nat.sub n 1)
theorem nthF_eq:∀ (l:List Func) (n:Nat),nthF l n = l[n]?
 | [],n=>rfl
 | a::l,0=>rfl
 | a::l,n + 1=>by
  rw [nthF]
  have:Nat.beq (n + 1) 0 = false:=rfl
  rw [this,cond_false,List.getElem?_cons_succ]
  exact nthF_eq l n
structure Seat where
 P:Program
 ext:List (Nat × Ext)
 cmp:List Nat
 rd:Nat
 F:RdFn
 lay:Option (Nat × LayFn)
 ins:List (Nat × InsFn)
def extL:List (Nat × Ext)→Nat→Option Ext
 | [],_=>none
 | a::l,f=>bif Nat.beq f a.1 then some a.2 else extL l f
def insL:List (Nat × InsFn)→Nat→Option InsFn
 | [],_=>none
 | a::l,f=>bif Nat.beq f a.1 then some a.2 else insL l f
def memL:List Nat→Nat→Bool
 | [],_=>false
 | a::l,t=>bif Nat.beq t a then true else memL l t
def conf0 (S:Seat):Conf:={ P:=S.P,ext:=extL S.ext,prim:=fun _=>none,frz:=fun _=>false,cmp:=fun t=>bif memL S.cmp t then Ab.flatAt S.P 8 t else none }
noncomputable def primA (S:Seat) (f:Nat):Option ((Nat→List AV→H→Option CR)→List AV→H→Option CR):=bif Nat.beq f S.rd then some (readA (conf0 S) S.F) else match insL S.ins f with | some F=>some (fun _ args h=>insA F args h) | none=>match S.lay with | some q=>bif Nat.beq f q.1 then some (layA (conf0 S) q.2) else none | none=>none
noncomputable def conf (S:Seat):Conf:={ P:=S.P,ext:=extL S.ext,prim:=primA S,frz:=fun _=>false,cmp:=fun t=>bif memL S.cmp t then Ab.flatAt S.P 8 t else none }
noncomputable def primF (S:Seat) (f:Nat):Option (CallsF→List AV→FH→Option CF):=bif Nat.beq f S.rd then some (readH (conf0 S) S.F) else match insL S.ins f with | some F=>some (insF F) | none=>match S.lay with | some q=>bif Nat.beq f q.1 then some (layH (conf0 S) q.2) else none | none=>none
noncomputable def tab (S:Seat):Tab :=
 ⟨fun f=>match nthF S.P.funcs.toList f with | some g=>(match g.body with | some c=>some (g.ntmps,c,g.results.toList) | none=>none) | none=>none,primF S⟩
def drawsAll (P:Program):List Func→Bool
 | []=>true
 | g::l=>bif (match g.body with | some c=>drawsOk P c | none=>true) then drawsAll P l else false
def cutF:Nat→Nat→List Func→List Func
 | _,_,[]=>[]
 | 0,0,_=>[]
 | 0,n + 1,a::l=>a::cutF 0 n l
 | k + 1,n,_::l=>cutF k n l
theorem cutF_eq:∀ (k n:Nat) (l:List Func),cutF k n l = (l.drop k).take n
 | k,n,[]=>by cases k <;> cases n <;> rfl
 | 0,0,a::l=>rfl
 | 0,n + 1,a::l=>by rw [cutF,cutF_eq 0 n l];rfl
 | k + 1,n,a::l=>by rw [cutF,cutF_eq k n l];rfl
theorem draws_app {P:Program}:∀ {l m:List Func},drawsAll P l = true→drawsAll P m = true→drawsAll P (l++m) = true
 | [],m,_,h=>h
 | a::l,m,h1,h2=>by
  rw [List.cons_append,drawsAll]
  rw [drawsAll] at h1
  cases hb:(match a.body with | some c=>drawsOk P c | none=>true) with
  | false=>rw [hb] at h1;cases h1
  | true=>rw [hb] at h1;exact draws_app h1 h2
theorem draws_nil {P:Program} {l:List Func}:drawsAll P (l.take 0) = true:=rfl
theorem draws_step {P:Program} {l:List Func} {k n:Nat} (h1:drawsAll P (l.take k) = true) (h2:drawsAll P (cutF k n l) = true):drawsAll P (l.take (k + n)) = true:=by
 rw [List.take_add]
 rw [cutF_eq] at h2
 exact draws_app h1 h2
theorem draws_end {P:Program} {l:List Func} {k:Nat} (hl:l.length ≤ k) (h:drawsAll P (l.take k) = true):drawsAll P l = true:=by
 rwa [List.take_of_length_le hl] at h
def lenLe (l:List Func) (k:Nat):Prop:=Nat.ble l.length k = true
theorem draws_end' {P:Program} {l:List Func} {k:Nat} (hl:lenLe l k) (h:drawsAll P (l.take k) = true):drawsAll P l = true:=draws_end (ble_le hl) h
structure SeatOk (S:Seat):Prop where
 okT:Ab.OkT S.P
 mixed:S.P.follows .mixedOrders = true
 names:∀ (f:Nat) (fn:Func),S.P.funcs[f]? = some fn→fn.body.isSome = true→(fn.name == "runtime.NumGoroutine") = false
 ext:∀ q ∈ S.ext,Ab.ExtT S.P q.1 q.2
 cmp:∀ t ∈ S.cmp,(∃ fs,S.P.underlying t = some (.struct fs))∧S.P.eqGuardType S.P.depth t = false
 read:Ab.ReadOk S.P S.rd S.F
 lay:∀ q,S.lay = some q→Ab.LayOk S.P q.1 q.2
 ins:∀ q ∈ S.ins,∃ ρ el info,Ab.InsLay S.P ρ q.1 el info∧el < S.P.types.size∧q.2 = ⟨info.size,info.bytes⟩
 draws:drawsAll S.P S.P.funcs.toList = true
section
variable {S:Seat}
theorem extL_ok:∀ {l:List (Nat × Ext)} {f:Nat} {x:Ext},extL l f = some x→(f,x) ∈ l
 | [],f,x,h=>by cases h
 | a::l,f,x,h=>by
  rw [extL] at h
  cases hb:Nat.beq f a.1 with
  | true =>
   rw [hb] at h
   simp only [cond_true,oqI] at h
   have:=oqN hb
   subst h;subst this;simp
  | false=>rw [hb] at h;exact List.mem_cons_of_mem _ (extL_ok h)
theorem insL_ok:∀ {l:List (Nat × InsFn)} {f:Nat} {x:InsFn},insL l f = some x→(f,x) ∈ l
 | [],f,x,h=>by cases h
 | a::l,f,x,h=>by
  rw [insL] at h
  cases hb:Nat.beq f a.1 with
  | true =>
   rw [hb] at h
   simp only [cond_true,oqI] at h
   have:=oqN hb
   subst h;subst this;simp
  | false=>rw [hb] at h;exact List.mem_cons_of_mem _ (insL_ok h)
theorem memL_ok:∀ {l:List Nat} {t:Nat},memL l t = true→t ∈ l
 | [],t,h=>by cases h
 | a::l,t,h=>by
  rw [memL] at h
  cases hb:Nat.beq t a with
  | true=>have:=oqN hb;subst this;simp
  | false=>rw [hb] at h;exact List.mem_cons_of_mem _ (memL_ok h)
theorem prim_inv {α:Type} {b:Bool} {x y:α} (h:(bif b then some x else none) = some y):b = true∧x = y:=by
 cases b with
 | true=>simp only [cond_true,oqI] at h;exact ⟨rfl,h⟩
 | false=>cases h
theorem prim_cases {f:Nat} {g:(Nat→List AV→H→Option CR)→List AV→H→Option CR} (h:primA S f = some g):(f = S.rd∧g = readA (conf0 S) S.F) ∨ (∃ q,S.lay = some q∧f = q.1∧g = layA (conf0 S) q.2) ∨ ∃ F,(f,F) ∈ S.ins∧g = fun _ args h=>insA F args h:=by
 unfold primA at h
 cases hb:Nat.beq f S.rd with
 | true =>
  rw [hb] at h
  simp only [cond_true,oqI] at h
  exact .inl ⟨oqN hb,h.symm⟩
 | false =>
  rw [hb,cond_false] at h
  split at h
  ·rename_i F hF
   simp only [oqI] at h
   exact .inr (.inr ⟨F,insL_ok hF,h.symm⟩)
  split at h
  ·rename_i q hq
   obtain ⟨h1,rfl⟩:=prim_inv h
   exact .inr (.inl ⟨q,hq,oqN h1,rfl⟩)
  ·cases h
theorem conf_prim:PrimOk (conf S):=by
 refine ⟨fun f g h c d hl args hh r hr=>?_,fun f g h c w hm hw args hh r hr=>?_⟩
 ·rcases prim_cases h with ⟨_,rfl⟩ | ⟨q,_,_,rfl⟩ | ⟨F,_,rfl⟩
  ·exact Ab.readA_mono hl hr
  ·exact Ab.layA_mono hl hr
  ·exact hr
 ·rcases prim_cases h with ⟨_,rfl⟩ | ⟨q,_,_,rfl⟩ | ⟨F,_,rfl⟩
  ·exact Ab.readA_c hm hw hr
  ·exact Ab.layA_c hm hw hr
  ·exact ⟨0,hr⟩
theorem conf_cmp (h:SeatOk S):∀ t z,(conf S).cmp t = some z→Ab.CmpT S.P t z:=by
 intro t z hz
 obtain ⟨h1,h2⟩:=bif_some hz
 obtain ⟨⟨fs,h3⟩,h4⟩:=h.cmp t (memL_ok h1)
 exact Ab.cmp_ok h2 h3 h4
theorem conf_ok (h:SeatOk S):Ab.OkC (conf S):=by
 refine ⟨h.names,fun f x hx args hh r hr φ w cargs R ha=>?_,fun f g hg calls hc args hh r hr φ w cargs R ha=>?_⟩
 ·exact Ab.ext_ok (h.ext _ (extL_ok hx)) hr R ha
 ·rcases prim_cases hg with ⟨rfl,rfl⟩ | ⟨q,hq,rfl,rfl⟩ | ⟨F,hF,rfl⟩
  ·exact Ab.readA_ok (C:=conf0 S) h.okT (conf_cmp h) h.read hc hr R ha
  ·exact Ab.layA_ok (C:=conf0 S) h.okT (conf_cmp h) h.mixed (h.lay q hq) hc hr R ha
  ·obtain ⟨ρ,el,info,h1,h2,h3⟩:=h.ins _ hF
   exact Ab.insA_ok h.okT h1 h2 h3 hr R ha
theorem conf_W (h:SeatOk S):Ab.CallsOk S.P (W (conf S)):=Ab.W_ok (C:=conf S) h.okT (conf_cmp h) (conf_ok h) conf_prim h.mixed
theorem drawsAll_ok {P:Program}:∀ {l:List Func},drawsAll P l = true→∀ g ∈ l,∀ c,g.body = some c→drawsOk P c = true
 | [],_,g,hg,_,_=>by cases hg
 | a::l,h,g,hg,c,hc=>by
  rw [drawsAll] at h
  cases hb:(match a.body with | some c=>drawsOk P c | none=>true) with
  | false=>rw [hb] at h;cases h
  | true =>
   rw [hb] at h
   rcases List.mem_cons.1 hg with rfl | hg
   ·rw [hc] at hb;exact hb
   ·exact drawsAll_ok h g hg c hc
theorem tab_fn {f nt:Nat} {c:Code} {rs:List ResultVar} (h:(tab S).fn f = some (nt,c,rs)):∃ g,S.P.funcs[f]? = some g∧g ∈ S.P.funcs.toList∧g.body = some c∧g.ntmps = nt∧g.results.toList = rs:=by
 simp only [tab] at h
 split at h
 ·rename_i g hg
  rw [nthF_eq] at hg
  split at h
  ·rename_i c' hc
   simp only [oqI,oqM] at h
   obtain ⟨rfl,rfl,rfl⟩:=h
   exact ⟨g,by simpa using hg,List.mem_of_getElem? hg,hc,rfl,rfl⟩
  ·cases h
 ·cases h
theorem tab_ok (h:SeatOk S):TabOkD (conf S) (tab S) where
 fn f nt c rs hf:=by
  obtain ⟨g,h1,_,h2,h3,h4⟩:=tab_fn hf
  exact ⟨g,h1,h2,h3,h4⟩
 frz _:=rfl
 none f hf:=by
  simp only [tab,primF] at hf
  simp only [conf,primA]
  cases hb:Nat.beq f S.rd with
  | true=>rw [hb] at hf;cases hf
  | false =>
   rw [hb,cond_false] at hf
   rw [cond_false]
   cases e0:insL S.ins f with
   | some F=>rw [e0] at hf;cases hf
   | none =>
   rw [e0] at hf
   simp only at hf ⊢
   cases e:S.lay with
   | none=>rfl
   | some q =>
    rw [e] at hf
    simp only at hf ⊢
    cases h1:Nat.beq f q.1 with
    | true=>rw [h1] at hf;cases hf
    | false=>rfl
 prim f g hg:=by
  simp only [tab,primF] at hg
  simp only [conf,primA]
  cases hb:Nat.beq f S.rd with
  | true =>
   rw [hb] at hg
   simp only [cond_true,oqI] at hg
   subst hg
   exact ⟨readA (conf0 S) S.F,by simp only [cond_true],readH_ok⟩
  | false =>
   rw [hb,cond_false] at hg
   split at hg
   ·rename_i F e
    simp only [oqI] at hg
    subst hg
    exact ⟨fun _ args h=>insA F args h,by simp only [cond_false,e],insF_ok⟩
   rename_i e0
   split at hg
   ·rename_i q e
    obtain ⟨h1,rfl⟩:=prim_inv hg
    exact ⟨layA (conf0 S) q.2,by simp only [cond_false,e0,e,h1,cond_true],layH_ok⟩
   ·cases hg
 draws f nt c rs hf:=by
  obtain ⟨g,_,h1,h2,_,_⟩:=tab_fn hf
  exact drawsAll_ok h.draws g h1 c h2
def isT:Option CF→Bool
 | some (.ret (.one (.bool b)) _)=>b
 | _=>false
theorem closed (h:SeatOk S) {fuel d f:Nat} (hr:isT (callR (conf S) (tab S) fuel d f [] FH.empty) = true):∃ h',W (conf S) f [] H.empty = some (.ret (.one (.bool true)) h'):=by
 cases hx:callR (conf S) (tab S) fuel d f [] FH.empty with
 | none=>rw [hx] at hr;cases hr
 | some r =>
  rw [hx] at hr
  have hok:=callR_ok conf_prim (tab_ok h) d f [] FH.empty H.empty r HR.empty hx
  unfold isT at hr
  split at hr
  ·rename_i b t e
   simp only [oqI] at e
   subst e;subst hr
   obtain ⟨h',h1,_⟩:=hok
   exact ⟨h',h1⟩
  ·cases hr
end
end Go.Fa
namespace Go.Fa
open Ab (band sameVL sameVL_ok sameV sameV_ok sameSL sameSL_ok beqN AS AV OR Fr H CR Cls clsOf Ex Conf Calls' W X PrimOk Ext RdFn readA Blk View Entry EntryOk Orc findB findO overB askE pOf Fits PrimLe eqNL eqNL_ok eqBB subH)
noncomputable def eqFB (k:FB) (B:Blk):Bool :=
 bif Nat.beq B.ver k.ver then bif eqNL B.exts k.exts then bif B.fixed == k.fixed then sameSL (rdR k.cs 0 k.len) B.cells else false else false else false
theorem eqFB_ok {k:FB} {B B':Blk} (R:BR k B') (h:eqFB k B = true):B' = B:=by
 unfold eqFB at h
 obtain ⟨h1,h⟩:=band h
 obtain ⟨h2,h⟩:=band h
 obtain ⟨h3,h4⟩:=band h
 have h5:=sameSL_ok h4
 rw [rdR_eq] at h5
 have h6:=R.sub (o:=0) (n:=k.len) (by omega)
 have h7:B'.cells = rd k.cs 0 k.len:=by
  unfold Ab.sub at h6
  rw [if_pos (by rw [R.len];omega)] at h6
  simp only [List.drop_zero,oqI] at h6
  rw [← h6,List.take_of_length_le (by rw [R.len];exact Nat.le_refl _)]
 cases B' with
 | mk a b c d =>
 cases B with
 | mk a' b' c' d' =>
 have e1:=R.ver;have e2:=R.exts;have e3:=R.fixed
 simp only at e1 e2 e3 h1 h2 h3 h5 h7
 rw [e1,e2,e3,h7,← h5,beqN h1,eqNL_ok h2,eq_of_beq h3]
noncomputable def subF (t:FH):List (Nat × Blk)→Bool
 | []=>true
 | a::l=>match atR t a.1 with
  | some k=>bif eqFB k a.2 then subF t l else false
  | none=>false
theorem subF_ok {t:FH} {h:H} (hh:HR t h):∀ {l:List (Nat × Blk)},subF t l = true→∀ b k,findB l b = some k→h.f b = some k
 | [],_,b,k,hk=>by cases hk
 | a::l,hs,b,k,hk=>by
  rw [subF] at hs
  split at hs
  ·rename_i k' hk'
   obtain ⟨h1,h2⟩:=band hs
   rw [findB] at hk
   split at hk
   ·rename_i hb
    subst hb
    simp only [oqI] at hk;subst hk
    rw [atR_eq,atQ_eq] at hk'
    obtain ⟨_,B,hB,hR⟩:=hh.at hk'
    rw [hB,eqFB_ok hR h1]
   ·exact subF_ok hh h2 b k hk
  ·cases hs
noncomputable def fbOf (B:Blk):FB:=⟨B.ver,B.exts,B.fixed,lenA B.cells,wrR [] 0 B.cells⟩
theorem fbOf_ok (B:Blk):BR (fbOf B) B:=by
 have h:=BR.made B.cells B.fixed
 refine ⟨rfl,rfl,rfl,by simp only [fbOf,lenA_eq],fun j hj=>?_⟩
 have hc:=h.cells j (by simpa only [fbOf,lenA_eq] using hj)
 simp only [Ab.blkOf] at hc
 simp only [fbOf,wrR_eq];exact hc
noncomputable def overL (t:FH):List (Nat × Blk)→Option FH
 | []=>some t
 | a::l=>match overL t l with
  | some t'=>bif Nat.blt a.1 262144 then some (setR t' a.1 (fbOf a.2)) else none
  | none=>none
theorem overL_ok {t:FH} {h:H} (hh:HR t h):∀ {l:List (Nat × Blk)} {t':FH},overL t l = some t'→HR t' ⟨h.next,overB l h.f⟩
 | [],t',e=>by
  simp only [overL,oqI] at e;subst e
  exact hh
 | a::l,t',e=>by
  rw [overL] at e
  split at e
  ·rename_i t1 h1
   obtain ⟨h2,e⟩:=bif_some e
   simp only [oqI] at e;subst e
   have ih:=overL_ok hh h1
   have:=HR.set ih (blt_lt h2) (fbOf_ok a.2)
   rw [setR_eq,setQ_eq]
   have e:(⟨h.next,overB (a::l) h.f⟩:H) = H.set ⟨h.next,overB l h.f⟩ a.1 a.2:=by
    simp only [Ab.H.set]
    congr 1
    funext b
    unfold overB
    rw [findB]
    by_cases hb:b = a.1
    ·rw [if_pos hb,if_pos hb]
    ·rw [if_neg hb,if_neg hb]
   rw [e];exact this
  ·cases e
noncomputable def overF (t:FH) (w:View):Option FH:=match overL t w.l with
 | some t'=>some ⟨w.next,t'.t⟩
 | none=>none
theorem overF_ok {t t':FH} {h:H} (hh:HR t h) {w:View} (e:overF t w = some t'):HR t' (h.over w):=by
 unfold overF at e
 split at e
 ·rename_i t1 h1
  simp only [oqI] at e;subst e
  have:=overL_ok hh h1
  exact ⟨rfl,this.f,this.out⟩
 ·cases e
noncomputable def viewF (v:View):Option FH:=overF FH.empty v
theorem viewF_ok {v:View} {t:FH} (e:viewF v = some t):HR t v.h:=by
 have:=overF_ok HR.empty e
 have e2:H.empty.over v = v.h:=by
  simp only [Ab.H.over,Ab.View.h]
  congr 1
  funext b
  unfold overB Ab.H.empty
  split <;> simp_all
 rw [← e2];exact this
end Go.Fa
namespace Go.Fa
open Ab (band beqN AS AV OR Fr H CR Cls clsOf Ex Conf Calls' W X PrimOk Blk View findB Does OptQ)
structure Kn (v:View) (h:H):Prop where
 next:h.next = v.next
 f:∀ b k,findB v.l b = some k→h.f b = some k
def pickB (l:List (Nat × Blk)):List Nat→List (Nat × Blk)
 | []=>[]
 | b::r=>match findB l b with
  | some k=>(b,k)::pickB l r
  | none=>pickB l r
theorem pickB_ok {l:List (Nat × Blk)}:∀ {r:List Nat} {b:Nat} {k:Blk},findB (pickB l r) b = some k→findB l b = some k
 | [],b,k,h=>by cases h
 | c::r,b,k,h=>by
  rw [pickB] at h
  split at h
  ·rename_i k' hk
   rw [findB] at h
   split at h
   ·rename_i e;subst e;rw [hk];exact h
   ·exact pickB_ok h
  ·exact pickB_ok h
theorem findB_app {l:List (Nat × Blk)}:∀ {m:List (Nat × Blk)} {b:Nat},findB (m++l) b = match findB m b with | some k=>some k | none=>findB l b
 | [],b=>rfl
 | a::m,b=>by
  rw [List.cons_append,findB,findB]
  split
  ·rfl
  ·exact findB_app
def allLt (n:Nat):List (Nat × Blk)→Bool
 | []=>true
 | a::l=>bif Nat.blt a.1 n then allLt n l else false
theorem allLt_ok {n:Nat}:∀ {l:List (Nat × Blk)},allLt n l = true→∀ b k,findB l b = some k→b < n
 | [],_,b,k,hk=>by cases hk
 | a::l,h,b,k,hk=>by
  rw [allLt] at h
  obtain ⟨h1,h⟩:=band h
  rw [findB] at hk
  split at hk
  ·rename_i e;subst e;exact blt_lt h1
  ·exact allLt_ok h b k hk
noncomputable def outB (t:FH):List Nat→Option (List (Nat × Blk))
 | []=>some []
 | b::l=>match atR t b with
  | some k=>match outB t l with
   | some r=>some ((b,⟨k.ver,k.exts,k.fixed,rdR k.cs 0 k.len⟩)::r)
   | none=>none
  | none=>none
theorem outB_ok {t:FH} {h:H} (hh:HR t h):∀ {l:List Nat} {r:List (Nat × Blk)},outB t l = some r→∀ b k,findB r b = some k→h.f b = some k
 | [],r,e,b,k,hk=>by simp only [outB,oqI] at e;subst e;cases hk
 | c::l,r,e,b,k,hk=>by
  rw [outB] at e
  split at e
  ·rename_i q hq
   split at e
   ·rename_i r' hr
    simp only [oqI] at e;subst e
    rw [findB] at hk
    split at hk
    ·rename_i hb
     subst hb
     simp only [oqI] at hk;subst hk
     rw [atR_eq,atQ_eq] at hq
     obtain ⟨_,B,hB,hR⟩:=hh.at hq
     rw [hB]
     have h6:=hR.sub (o:=0) (n:=q.len) (by omega)
     have h7:B.cells = rd q.cs 0 q.len:=by
      unfold Ab.sub at h6
      rw [if_pos (by rw [hR.len];omega)] at h6
      simp only [List.drop_zero,oqI] at h6
      rw [← h6,List.take_of_length_le (by rw [hR.len];exact Nat.le_refl _)]
     cases B with
     | mk a b c d =>
     have e1:=hR.ver;have e2:=hR.exts;have e3:=hR.fixed
     simp only at e1 e2 e3 h7
     rw [rdR_eq,← h7,e1,e2,e3]
    ·exact outB_ok hh hr b k hk
   ·cases e
  ·cases e
theorem Kn.hle {v:View} {h:H} (k:Kn v h) (hl:allLt v.next v.l = true):Ab.Hle ⟨fun b=>b < v.next∧findB v.l b = none,h.f⟩ v.h h :=
 ⟨k.next.symm,k.f,fun b hb=>by
  cases hf:findB v.l b with
  | none=>exact hf
  | some q=>have:=allLt_ok hl b q hf;have hb:v.next ≤ b:=hb;omega,fun b hb=>⟨hb.1,hb.2,rfl⟩⟩
theorem pickB_has {l:List (Nat × Blk)}:∀ {r:List Nat} {b:Nat} {k:Blk},b ∈ r→findB l b = some k→findB (pickB l r) b = some k
 | c::r,b,k,hm,hk=>by
  rw [pickB]
  by_cases e:b = c
  ·subst e;rw [hk];simp only [findB,if_true]
  ·have hm:b ∈ r:=by
    rcases List.mem_cons.1 hm with h | h
    ·exact absurd h e
    ·exact h
   split
   ·rw [findB,if_neg e];exact pickB_has hm hk
   ·exact pickB_has hm hk
theorem pickB_not {l:List (Nat × Blk)}:∀ {r:List Nat} {b:Nat},b ∉ r→findB (pickB l r) b = none
 | [],_,_=>rfl
 | c::r,b,hm=>by
  rw [pickB]
  have h1:b ≠ c:=fun e=>hm (by rw [e];simp)
  have h2:b ∉ r:=fun e=>hm (List.mem_cons_of_mem _ e)
  split
  ·rw [findB,if_neg h1];exact pickB_not h2
  ·exact pickB_not h2
def idsB:List (Nat × Blk)→List Nat
 | []=>[]
 | a::l=>a.1::idsB l
theorem idsB_not {b:Nat}:∀ {l:List (Nat × Blk)},b ∉ idsB l→findB l b = none
 | [],_=>rfl
 | a::l,h=>by
  rw [findB,if_neg (fun e=>h (by rw [idsB,e];simp))]
  exact idsB_not fun e=>h (List.mem_cons_of_mem _ e)
theorem idsB_has {b:Nat}:∀ {l:List (Nat × Blk)},findB l b = none→b ∉ idsB l
 | [],_=>by simp [idsB]
 | a::l,h=>by
  rw [findB] at h
  split at h
  ·cases h
  ·rename_i e
   intro hm
   rcases List.mem_cons.1 hm with h' | h'
   ·exact e h'
   ·exact idsB_has h h'
theorem outB_ids {t:FH}:∀ {l:List Nat} {r:List (Nat × Blk)},outB t l = some r→idsB r = l
 | [],r,e=>by simp only [outB,oqI] at e;subst e;rfl
 | c::l,r,e=>by
  rw [outB] at e
  split at e
  ·split at e
   ·rename_i r' hr
    simp only [oqI] at e;subst e
    rw [idsB,outB_ids hr]
   ·cases e
  ·cases e
structure Kw (v:View) (h:H):Prop extends Kn v h where
 lt:∀ b k,findB v.l b = some k→b < v.next
section
variable {C:Conf} (hp:PrimOk C)
include hp
def Then (a:Option (Ex × Fr × H)) (b:Fr→H→Option (Ex × Fr × H)):Option (Ex × Fr × H):=a.bind fun r=>match r with
 | (.normal,fr,h)=>b fr h
 | r=>some r
omit hp in
omit hp in
omit hp in
end
end Go.Fa
