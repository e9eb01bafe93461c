/- The abstract machine is sound: what its code and its calls come to, the model's come to, in every order that is drawn. No conditions. -/
import Derived.Test.YtkpmdlcmbemgdaaGreatAb1
set_option linter.unusedVariables false
set_option linter.unusedSimpArgs false
set_option linter.unnecessarySimpa false
namespace Go.Ab
def Ends (φ:Phi) (h:H) (w:World) (r:CR):Ending→World→Prop
 | .returned cv,w'=>∃ v h' φ',r = .ret v h'∧Rel φ' h' w'∧Grow φ h w φ' h' w'∧AVR φ' (Nf φ') w' v cv
 | .panicked ch,w'=>∃ v h' φ' cv,r = .pan v h'∧Rel φ' h' w'∧Grow φ h w φ' h' w'∧VR φ' (Nf φ') w' v cv∧ch = [{ v:=cv,recovered:=false }]
 | .outgrown,_=>False
def CallR (P:Program) (φ:Phi) (h:H) (w:World) (f:Nat) (cargs:List Value) (r:CR):Prop :=
 (∃ cv w',(callFunc f cargs.toArray).run P w = .ok (.value cv) w'∧Ends φ h w r (.returned cv) w') ∨
 ((callFunc f cargs.toArray).run P w = .ok (.enter f cargs.toArray) w∧Calls P f cargs.toArray w (Ends φ h w r))
def CallsOk (P:Program) (calls:Calls'):Prop :=
 ∀ f args h r,calls f args h = some r→∀ φ w cargs,Rel φ h w→AVL φ (Nf φ) w args cargs→CallR P φ h w f cargs r
theorem CallR.upon {P:Program} {φ:Phi} {h:H} {w:World} {f:Nat} {cargs:List Value} {r:CR} (hc:CallR P φ h w f cargs r) {o:Oper} {a:Act} {next:Act→World→Prop} {Q:Exit→Act→World→Prop}
  (hn:∀ cv w',Ends φ h w r (.returned cv) w'→next (a.put o.dst cv) w') (hp:∀ ch w',Ends φ h w r (.panicked ch) w'→Q (.panic ch) a w') :
  o.upon P a next Q ((callFunc f cargs.toArray).run P w):=by
 rcases hc with ⟨cv,w',hr,he⟩ | ⟨hr,hC⟩
 ·rw [hr];exact hn cv w' he
 ·rw [hr]
  refine Calls.mono hC fun e w' he=>?_
  cases e with
  | returned v=>exact hn v w' he
  | panicked ch=>exact hp ch w' he
  | outgrown=>exact he.elim
section
variable {C:Conf} {calls:Calls'} {φ:Phi} {h:H} {w:World} {fr:Fr} {a:Act}
theorem runO_ok (hP:OkT C.P) (hC:∀ t z,C.cmp t = some z→CmpT C.P t z) (hc:CallsOk C.P calls) (R:Rel φ h w) (hf:AVL φ (Nf φ) w fr a.tmps.toList) {o:Oper} {r:RO}
  (hr:runO C calls fr h o = some r) {next:Act→World→Prop} {Q:Exit→Act→World→Prop}
  (hn:∀ v h',r = .ok v h'→∀ φ' cv w',Rel φ' h' w'→Grow φ h w φ' h' w'→AVR φ' (Nf φ') w' v cv→next (a.put o.dst cv) w')
  (hp:∀ v h',r = .pan v h'→∀ φ' w' cv,Rel φ' h' w'→Grow φ h w φ' h' w'→VR φ' (Nf φ') w' v cv→Q (.panic [{ v:=cv,recovered:=false }]) a w') :
  o.wp C.P a w next Q:=by
 unfold Oper.wp
 simp only [runO,oqE,oqB] at hr
 obtain ⟨r1,hop,hr⟩:=hr
 have hok:=op_ok hP hC R hf hop
 cases r1 with
 | val v h1 =>
  simp only [oqI] at hr;subst hr
  obtain ⟨cv,w',φ',e,hv,R',G⟩:=hok
  rw [e]
  exact hn _ _ rfl φ' cv w' R' G hv
 | skip h1 =>
  simp only [oqI] at hr;subst hr
  obtain ⟨w',φ',e,R',G⟩:=hok
  rw [e]
  exact hn _ _ rfl φ' _ w' R' G .undef
 | call f args h1 =>
  obtain ⟨rfl,cargs,hargs,e⟩:=hok
  rw [e]
  simp only [oqB] at hr
  obtain ⟨cr,hcr,hr⟩:=hr
  refine (hc f args _ cr hcr φ w cargs R hargs).upon ?_ ?_
  ·rintro cv w' ⟨v,h2,φ',rfl,R',G,hv⟩
   simp only [oqI] at hr;subst hr
   exact hn _ _ rfl φ' cv w' R' G hv
  ·rintro ch w' ⟨v,h2,φ',cv,rfl,R',G,hv,rfl⟩
   simp only [oqI] at hr;subst hr
   exact hp _ _ rfl φ' w' cv R' G hv
 | pan v h1 =>
  obtain ⟨rfl,cv,e,hv⟩:=hok
  rw [e]
  simp only [oqI] at hr;subst hr
  exact hp _ _ rfl φ w cv R (Grow.refl _ _ _) hv
theorem runO_ghost (hP:OkT C.P) (hC:∀ t z,C.cmp t = some z→CmpT C.P t z) (hc:CallsOk C.P calls) (R:Rel φ h w) (hf:AVL φ (Nf φ) w fr a.tmps.toList) {o:Oper} {v:AV} {h':H}
  (hr:runO C calls fr h o = some (.ok v h')):∃ φ' cv w',Rel φ' h' w'∧Grow φ h w φ' h' w'∧AVR φ' (Nf φ') w' v cv:=by
 simp only [runO,oqE,oqB] at hr
 obtain ⟨r1,hop,hr⟩:=hr
 have hok:=op_ok hP hC R hf hop
 cases r1 with
 | val v h1 =>
  simp only [oqI,RO.ok.injEq] at hr;obtain ⟨rfl,rfl⟩:=hr
  obtain ⟨cv,w',φ',e,hv,R',G⟩:=hok
  exact ⟨φ',cv,w',R',G,hv⟩
 | skip h1 =>
  simp only [oqI,RO.ok.injEq] at hr;obtain ⟨rfl,rfl⟩:=hr
  obtain ⟨w',φ',e,R',G⟩:=hok
  exact ⟨φ',_,w',R',G,.undef⟩
 | call f args h1 =>
  obtain ⟨rfl,cargs,hargs,e⟩:=hok
  simp only [oqB] at hr
  obtain ⟨cr,hcr,hr⟩:=hr
  have hends:∃ e w',Ends φ h1 w cr e w':=by
   rcases hc f args _ cr hcr φ w cargs R hargs with ⟨cv,w',_,he⟩ | ⟨_,hC⟩
   ·exact ⟨_,w',he⟩
   ·obtain ⟨e,w',_,he,_⟩:=hC []
    exact ⟨e,w',he⟩
  obtain ⟨e,w',he⟩:=hends
  cases e with
  | returned cv =>
   obtain ⟨v2,h2,φ',rfl,R',G,hv⟩:=he
   simp only [oqI,RO.ok.injEq] at hr;obtain ⟨rfl,rfl⟩:=hr
   exact ⟨φ',cv,w',R',G,hv⟩
  | panicked ch =>
   obtain ⟨v2,h2,φ',cv,rfl,R',G,hv,_⟩:=he
   simp at hr
  | outgrown=>exact he.elim
 | pan v h1=>simp at hr
theorem runOp_ok (hP:OkT C.P) (hC:∀ t z,C.cmp t = some z→CmpT C.P t z) (hc:CallsOk C.P calls) (R:Rel φ h w) (hf:AVL φ (Nf φ) w fr a.tmps.toList) {o:Oper} {x:Ex} {fr':Fr} {h':H}
  (hr:runOp C calls fr h o = some (x,fr',h')) {next:Act→World→Prop} {Q:Exit→Act→World→Prop}
  (hn:x = .normal→∀ φ' a' w',Rel φ' h' w'→Grow φ h w φ' h' w'→AVL φ' (Nf φ') w' fr' a'.tmps.toList→a'.defers = a.defers→next a' w')
  (hp:∀ v,x = .pan v→∀ φ' w' cv,Rel φ' h' w'→Grow φ h w φ' h' w'→VR φ' (Nf φ') w' v cv→Q (.panic [{ v:=cv,recovered:=false }]) a w') :
  o.wp C.P a w next Q:=by
 simp only [runOp,oqE,oqB] at hr
 obtain ⟨r,hro,hr⟩:=hr
 have hdef:∀ v,(a.put o.dst v).defers = a.defers:=fun v=>by cases o.dst <;> rfl
 refine runO_ok hP hC hc R hf hro ?_ ?_
 ·rintro v h1 rfl φ' cv w' R' G hv
  simp only [oqB,oqI,oqM] at hr
  obtain ⟨fr1,hput,rfl,rfl,rfl⟩:=hr
  exact hn rfl φ' _ w' R' G (put_ok (G.avl hf) hv hput) (hdef _)
 ·rintro v h1 rfl φ' w' cv R' G hv
  simp only [oqI,oqM] at hr
  obtain ⟨rfl,rfl,rfl⟩:=hr
  exact hp v rfl φ' w' cv R' G hv
theorem letsOut_mono {Q Q':Exit→Act→World→Prop} (hQ:∀ e a w,Q e a w→Q' e a w) (h:LetsOut Q):LetsOut Q':=by
 obtain ⟨a,w,h⟩:=h;exact ⟨a,w,hQ _ _ _ h⟩
theorem opWp_mono {P:Program} {o:Oper} {a:Act} {w:World} {K K':Act→World→Prop} {Q Q':Exit→Act→World→Prop} (hK:∀ a w,K a w→K' a w) (hQ:∀ e a w,Q e a w→Q' e a w)
  (hh:o.wp P a w K Q):o.wp P a w K' Q':=by
 unfold Oper.wp at *
 generalize (execOp a.eval o).run P w = r at *
 cases r with
 | ok n w' =>
  cases n <;> simp only [Oper.upon] at hh ⊢ <;>
   first
    | exact hK _ _ hh
    | exact Calls.mono hh (fun e w'' he=>by cases e <;> first | exact hK _ _ he | exact hQ _ _ _ he | exact letsOut_mono hQ he)
    | exact Rows.mono hh (fun _ _ he=>hK _ _ he)
 | halt x w'=>cases x <;> simp only [Oper.upon] at hh ⊢ <;> exact hQ _ _ _ hh
theorem wpOps_mono' {P:Program} {ops:Array Oper} {Q Q':Exit→Act→World→Prop} (hQ:∀ e a w,Q e a w→Q' e a w):∀ {l:List Nat} {a:Act} {w:World},wpOps P ops Q l a w→wpOps P ops Q' l a w
 | [],a,w,h=>hQ _ _ _ h
 | i::l,a,w,h=>by
  simp only [wpOps] at h ⊢
  split
  ·rename_i hi;rw [hi] at h;exact wpOps_mono' hQ h
  ·rename_i o hi
   rw [hi] at h
   simp only at h
   split
   ·rename_i hw
    rw [if_pos hw] at h
    exact h.imp (opWp_mono (fun a w=>wpOps_mono' hQ) hQ) (fun ⟨h1,h2⟩=>⟨h1,letsOut_mono hQ h2⟩)
   ·rename_i hw
    rw [if_neg hw] at h
    exact wpOps_mono' hQ h
def After (φ:Phi) (h:H) (w:World) (x:Ex) (fr':Fr) (h':H) (e:Exit) (a':Act) (w':World):Prop :=
 ∃ φ',Rel φ' h' w'∧Grow φ h w φ' h' w'∧a'.defers = [] ∧
  match x,e with
  | .normal,.normal=>AVL φ' (Nf φ') w' fr' a'.tmps.toList
  | .exit i,.exit j=>i = j∧AVL φ' (Nf φ') w' fr' a'.tmps.toList
  | .ret,.ret=>AVL φ' (Nf φ') w' fr' a'.tmps.toList
  | .pan v,.panic ch=>∃ cv,VR φ' (Nf φ') w' v cv∧ch = [{ v:=cv,recovered:=false }]
  | _,_=>False
theorem After.trans {φ φ1:Phi} {h h1:H} {w w1:World} {x:Ex} {fr':Fr} {h':H} {e:Exit} {a':Act} {w':World} (G:Grow φ h w φ1 h1 w1) (A:After φ1 h1 w1 x fr' h' e a' w'):After φ h w x fr' h' e a' w':=by
 obtain ⟨φ',R,G',d,m⟩:=A
 exact ⟨φ',R,G.trans G',d,m⟩
def LoopWp (P:Program) (b:Code) (Q:Exit→Act→World→Prop) (a:Act) (w:World):Prop :=
 ∀ fb k cs,∃ e a' w',Q e a' w'∧Arrives P (lone (fb.at a (.code b::.inLoop b::k)) cs w) fb k cs e a' w'
def Code.wp' (P:Program) (c:Code) (Q:Exit→Act→World→Prop) (a:Act) (w:World):Prop :=
 match c with
 | .loop b=>LoopWp P b Q a w
 | c=>c.wp P Q a w
theorem Code.wp'_wp {P:Program} {c:Code} {Q:Exit→Act→World→Prop} {a:Act} {w:World} (h:Code.wp' P c Q a w):c.wp P Q a w:=by
 unfold Code.wp' at h
 split at h
 ·intro fb k cs
  obtain ⟨e,a',w',hq,harr⟩:=h fb k cs
  exact ⟨e,a',w',hq,.of_steps (.one step_loop) harr⟩
 ·exact h
def RecOk (P:Program) (rec:Code→Fr→H→Out):Prop :=
 ∀ c fr h x fr' h',rec c fr h = some (x,fr',h')→∀ φ w a,Rel φ h w→AVL φ (Nf φ) w fr a.tmps.toList→a.defers = []→Code.wp' P c (After φ h w x fr' h') a w
theorem wanted_ok {ops:Array Oper} {o:Oper} {b:Bool} (hf:AVL φ (Nf φ) w fr a.tmps.toList) (hw:wantedA fr ops.toList o = some b):Region.wanted o (yielded ops a.tmps) = b:=by
 unfold wantedA at hw
 unfold Region.wanted
 split at hw
 ·rename_i hg
  simp only [oqI] at hw
  rw [hg];exact hw
 ·rename_i j want hg
  rw [hg]
  simp only [oqE,oqB] at hw
  obtain ⟨q,hq,d,hd,hw⟩:=hw
  have hqa:ops[j]? = some q:=by simpa using hq
  have hget:=hf.get d
  unfold yielded
  simp only [hqa,oqS,hd]
  have hv:a.tmps.toList.getD d Go.undef = a.tmps.getD d Go.undef:=by simp [List.getD_eq_getElem?_getD,Array.getD_eq_getD_getElem?]
  rw [hv] at hget
  split at hw
  ·rename_i v hv2
   simp only [oqI] at hw
   rw [hv2] at hget
   have e:=hget.one_inv.bool_inv
   cases hq2:a.tmps[d]? with
   | none=>simp [Array.getD_eq_getD_getElem?,hq2,Go.undef] at e
   | some y =>
    simp [Array.getD_eq_getD_getElem?,hq2] at e
    subst e
    simpa using hw
  ·rename_i hv2
   simp only [oqI] at hw
   rw [hv2] at hget
   subst hw
   cases hq2:a.tmps[d]? with
   | none=>simp
   | some y =>
    simp only [Array.getD_eq_getD_getElem?,hq2,Option.getD_some] at hget
    cases hget
    simp [Go.undef]
  ·cases hw
theorem runOps_ok (hP:OkT C.P) (hC:∀ t z,C.cmp t = some z→CmpT C.P t z) (hc:CallsOk C.P calls) {ops:Array Oper} {x:Ex} {fr':Fr} {h':H} :
  ∀ (l:List Oper) (k:Nat) (φ:Phi) (h:H) (w:World) (fr:Fr) (a:Act),l = ops.toList.drop k→k + l.length = ops.size→Rel φ h w→AVL φ (Nf φ) w fr a.tmps.toList→a.defers = [] →
   runOps C calls ops.toList l fr h = some (x,fr',h')→wpOps C.P ops (After φ h w x fr' h') (List.range' k l.length) a w:=by
 intro l
 induction l with
 | nil =>
  intro k φ h w fr a _ _ R hf hd hr
  simp only [runOps,oqI,oqM] at hr
  obtain ⟨rfl,rfl,rfl⟩:=hr
  exact ⟨φ,R,Grow.refl _ _ _,hd,hf⟩
 | cons o l ih =>
  intro k φ h w fr a hl hlen R hf hd hr
  have hok:ops[k]? = some o:=by
   have:ops.toList[k]? = some o:=by
    have:=congrArg (·[0]?) hl
    simpa using this.symm
   simpa using this
  have hl':l = ops.toList.drop (k + 1):=by
   have:=congrArg List.tail hl
   simpa using this
  simp only [runOps,oqE,oqB] at hr
  obtain ⟨b,hb,hr⟩:=hr
  have hw:=wanted_ok (ops:=ops) hf hb
  simp only [List.length_cons,List.range'_succ,wpOps,hok,hw]
  have hstep:∀ φ1 h1 w1 fr1 a1,Grow φ h w φ1 h1 w1→Rel φ1 h1 w1→AVL φ1 (Nf φ1) w1 fr1 a1.tmps.toList→a1.defers = []→runOps C calls ops.toList l fr1 h1 = some (x,fr',h') →
    wpOps C.P ops (After φ h w x fr' h') (List.range' (k + 1) l.length) a1 w1:=by
   intro φ1 h1 w1 fr1 a1 G R1 hf1 hd1 hr1
   have:=ih (k + 1) φ1 h1 w1 fr1 a1 hl' (by simp at hlen;omega) R1 hf1 hd1 hr1
   exact wpOps_mono' (fun e a' w' hA=>After.trans G hA) this
  cases b with
  | true =>
   simp only [if_true] at hr ⊢
   simp only [oqB] at hr
   obtain ⟨⟨x1,fr1,h1⟩,hop,hr⟩:=hr
   left
   refine runOp_ok hP hC hc R hf hop (fun e φ' a' w' R' G hf' hd'=>?_) (fun v e φ' w' cv R' G hv=>?_)
   ·subst e
    exact hstep φ' h1 w' fr1 a' G R' hf' (hd'.trans hd) hr
   ·subst e
    simp only [oqI,oqM] at hr
    obtain ⟨rfl,rfl,rfl⟩:=hr
    exact ⟨φ',R',G,hd,cv,hv,rfl⟩
  | false =>
   simp only [oqF,if_false,oqB] at hr ⊢
   obtain ⟨fr1,hput,hr⟩:=hr
   refine hstep φ h w fr1 _ (Grow.refl _ _ _) R (put_ok hf .undef hput) ?_ hr
   rw [← hd];cases o.dst <;> rfl
def DrawOk (C:Conf) (calls:Calls'):Prop :=
 ∀ (id:Nat) (ops:Array Oper) (fr:Fr) (h:H) x fr' h',okDraw C.P ops.toList = true→runD C calls ops.toList (ancs ops.toList []) none (canon C.P ops.toList) fr h ⟨[],[]⟩ = some (x,fr',h') →
  ∀ φ w a,Rel φ h w→AVL φ (Nf φ) w fr a.tmps.toList→a.defers = []→(Code.region id ops true).wp C.P (After φ h w x fr' h') a w
theorem step_ok (hP:OkT C.P) (hC:∀ t z,C.cmp t = some z→CmpT C.P t z) (hc:CallsOk C.P calls) (hD:DrawOk C calls) {rec:Code→Fr→H→Out} (hrec:RecOk C.P rec):RecOk C.P (step C calls rec):=by
 intro c fr h x fr' h' hs φ w a R hf hd
 have hrec':=fun c fr h x fr' h' hr φ w a R hf hd=>Code.wp'_wp (hrec c fr h x fr' h' hr φ w a R hf hd)
 unfold step at hs
 split at hs
 ·simp only [oqI,oqM] at hs
  obtain ⟨rfl,rfl,rfl⟩:=hs
  exact wp_skip ⟨φ,R,Grow.refl _ _ _,hd,hf⟩
 ·simp only [oqI,oqM] at hs
  obtain ⟨rfl,rfl,rfl⟩:=hs
  exact wp_label ⟨φ,R,Grow.refl _ _ _,hd,hf⟩
 ·rename_i id ops draw
  cases draw with
  | false =>
   simp only [oqF,if_false] at hs
   refine wp_region ?_
   have:=runOps_ok hP hC hc (ops:=ops) ops.toList 0 φ h w fr a (by simp) (by simp) R hf hd hs
   rw [List.range_eq_range']
   simpa using this
  | true =>
   simp only [if_true] at hs
   split at hs
   ·rename_i hok
    exact hD id ops fr h x fr' h' hok hs φ w a R hf hd
   ·cases hs
 ·rename_i c1 c2
  simp only [oqE,oqB] at hs
  obtain ⟨⟨x1,fr1,h1⟩,hs1,hs⟩:=hs
  refine wp_seq (wp_mono (hrec' c1 fr h x1 fr1 h1 hs1 φ w a R hf hd) ?_)
  rintro e a' w' ⟨φ',R',G,hd',hm⟩
  cases x1 with
  | normal =>
   cases e <;> simp only at hm
   simp only at hs
   exact wp_mono (hrec' c2 fr1 h1 x fr' h' hs φ' w' a' R' hm hd') fun e a'' w'' hA=>After.trans G hA
  | exit i =>
   simp only [oqI,oqM] at hs
   obtain ⟨rfl,rfl,rfl⟩:=hs
   cases e <;> simp only at hm
   exact ⟨φ',R',G,hd',hm⟩
  | ret =>
   simp only [oqI,oqM] at hs
   obtain ⟨rfl,rfl,rfl⟩:=hs
   cases e <;> simp only at hm
   exact ⟨φ',R',G,hd',hm⟩
  | pan v =>
   simp only [oqI,oqM] at hs
   obtain ⟨rfl,rfl,rfl⟩:=hs
   cases e <;> simp only at hm
   exact ⟨φ',R',G,hd',hm⟩
 ·rename_i c c1 c2
  simp only [oqE,oqB] at hs
  obtain ⟨s,hs1,hs⟩:=hs
  have h1:=evS_ok hf hs1
  split at hs
  ·rename_i t
   refine wp_cond h1.bool_inv ?_
   exact hrec' _ fr h x fr' h' hs φ w a R hf hd
  ·cases hs
 ·rename_i id b
  simp only [oqE,oqB] at hs
  obtain ⟨⟨x1,fr1,h1⟩,hs1,hs⟩:=hs
  refine wp_block (wp_mono (hrec' b fr h x1 fr1 h1 hs1 φ w a R hf hd) ?_)
  rintro e a' w' ⟨φ',R',G,hd',hm⟩
  cases x1 with
  | exit i =>
   cases e <;> simp only at hm
   obtain ⟨rfl,hm⟩:=hm
   simp only at hs
   split at hs
   ·rename_i hi
    simp only [oqI,oqM] at hs
    obtain ⟨rfl,rfl,rfl⟩:=hs
    simp only [Exit.inBlock,hi,if_true]
    exact ⟨φ',R',G,hd',hm⟩
   ·rename_i hi
    simp only [oqI,oqM] at hs
    obtain ⟨rfl,rfl,rfl⟩:=hs
    simp only [Exit.inBlock,hi,if_false]
    exact ⟨φ',R',G,hd',rfl,hm⟩
  | normal =>
   simp only [oqI,oqM] at hs
   obtain ⟨rfl,rfl,rfl⟩:=hs
   cases e <;> simp only at hm
   exact ⟨φ',R',G,hd',hm⟩
  | ret =>
   simp only [oqI,oqM] at hs
   obtain ⟨rfl,rfl,rfl⟩:=hs
   cases e <;> simp only at hm
   exact ⟨φ',R',G,hd',hm⟩
  | pan v =>
   simp only [oqI,oqM] at hs
   obtain ⟨rfl,rfl,rfl⟩:=hs
   cases e <;> simp only at hm
   exact ⟨φ',R',G,hd',hm⟩
 ·rename_i b
  simp only [oqE,oqB] at hs
  obtain ⟨⟨x1,fr1,h1⟩,hs1,hs⟩:=hs
  have hb:=hrec' b fr h x1 fr1 h1 hs1 φ w a R hf hd
  intro fb k cs
  obtain ⟨e,a',w',⟨φ',R',G,hd',hm⟩,harr⟩:=hb fb (.inLoop b::k) cs
  cases x1 with
  | normal =>
   cases e <;> simp only at hm
   simp only at hs
   have hl:=hrec (.loop b) fr1 h1 x fr' h' hs φ' w' a' R' hm hd'
   obtain ⟨e2,a2,w2,hA,harr2⟩:=hl fb k cs
   exact ⟨e2,a2,w2,After.trans G hA,.of_steps (Steps.trans harr (.one step_inLoop)) harr2⟩
  | exit i =>
   simp only [oqI,oqM] at hs
   obtain ⟨rfl,rfl,rfl⟩:=hs
   cases e <;> simp only at hm
   exact ⟨_,a',w',⟨φ',R',G,hd',hm⟩,.pass (x:=.inLoop b) rfl (fun _ _=>.inl (by simp)) harr⟩
  | ret =>
   simp only [oqI,oqM] at hs
   obtain ⟨rfl,rfl,rfl⟩:=hs
   cases e <;> simp only at hm
   exact ⟨_,a',w',⟨φ',R',G,hd',hm⟩,.pass (x:=.inLoop b) rfl (fun _ _=>.inl (by simp)) harr⟩
  | pan v =>
   simp only [oqI,oqM] at hs
   obtain ⟨rfl,rfl,rfl⟩:=hs
   cases e <;> simp only at hm
   exact ⟨_,a',w',⟨φ',R',G,hd',hm⟩,.pass (x:=.inLoop b) rfl (fun _ _=>.inl (by simp)) harr⟩
 ·rename_i id
  simp only [oqI,oqM] at hs
  obtain ⟨rfl,rfl,rfl⟩:=hs
  exact wp_exit ⟨φ,R,Grow.refl _ _ _,hd,rfl,hf⟩
 ·simp only [oqI,oqM] at hs
  obtain ⟨rfl,rfl,rfl⟩:=hs
  exact wp_ret ⟨φ,R,Grow.refl _ _ _,hd,hf⟩
 ·cases hs
end
end Go.Ab
namespace Go.Ab
section
variable {φ φ':Phi} {O O':Nat→Prop} {w w':World}
theorem pure_vr {st:Bool} (hsz:w.heap.size ≤ w'.heap.size) (hk:st = false→∀ k,k < w.heap.size→¬ O k→w'.heap[k]? = w.heap[k]?∧¬ O' k) {a:AS} {v:Value} (hp:pureS st a = true) (h:VR φ O w a v):VR φ' O' w' a v:=by
 revert hp
 refine VR.rec (motive_1:=fun a v _=>pureS st a = true→VR φ' O' w' a v) (motive_2:=fun l vs _=>pureL st l = true→VRL φ' O' w' l vs)
  ?_ ?_ ?_ ?_ ?_ ?_ ?_ ?_ ?_ ?_ ?_ ?_ ?_ ?_ ?_ ?_ ?_ ?_ ?_ h
 ·exact fun b _=>.bool b
 ·exact fun k n _=>.int k n
 ·exact fun b _=>.flt b
 ·exact fun x hx _=>.nan x hx
 ·exact fun x hx _=>.nanb x hx
 ·exact fun x hx _=>.nanf x hx
 ·exact fun s _=>.str s
 ·exact fun _=>.nilptr
 ·intro b v o l h hp;cases hp
 ·intro cells o blk base vs hO hb _ hc ih hp
  simp only [pureS,Bool.and_eq_true,Bool.not_eq_true'] at hp
  refine .rp cells o blk base vs (hk hp.1 _ hb hO).2 (Nat.lt_of_lt_of_le hb hsz) (ih hp.2) fun i v hv=>?_
  have:=hc i v hv
  simp only [World.cell?] at this ⊢
  rw [(hk hp.1 _ hb hO).1];exact this
 ·exact fun _=>.nilslc
 ·intro b v o n s c l a cap h1 h2 h3 h4 h5 h6 hp;cases hp
 ·intro n s cells blk base cap spot vs h1 h2 h3 hO hb hsp _ hc ih hp
  simp only [pureS,Bool.and_eq_true,Bool.or_eq_true,Bool.not_eq_true',beq_iff_eq] at hp
  have hst:0 < n→st = false:=fun hn=>by rcases hp.1 with h | h;exact h;omega
  refine .vs n s cells blk base cap spot vs h1 h2 h3 (fun hn=>(hk (hst hn) _ (hb hn) (hO hn)).2) (fun hn=>Nat.lt_of_lt_of_le (hb hn) hsz) hsp (ih hp.2) fun i v hv=>?_
  have hn:0 < n:=by
   rcases Nat.eq_zero_or_pos n with hn | hn
   ·exfalso
    rw [hn,Nat.zero_mul] at h3
    have hcn:cells = []:=List.eq_nil_of_length_eq_zero h3
    have hl:=(ih hp.2).length
    rw [hcn] at hl
    have:vs = []:=List.eq_nil_of_length_eq_zero hl.symm
    subst this
    simp at hv
   ·exact hn
  have:=hc i v hv
  simp only [World.cell?] at this ⊢
  rw [(hk (hst hn) _ (hb hn) (hO hn)).1];exact this
 ·intro f first caps vs1 vs2 _ _ i1 i2 hp
  simp only [pureS,Bool.and_eq_true] at hp
  exact .fn f first caps vs1 vs2 (i1 hp.1) (i2 hp.2)
 ·exact fun _=>.nilfn
 ·intro t a v _ ih hp
  simp only [pureS] at hp
  exact .ifc t a v (ih hp)
 ·exact fun _=>.nilifc
 ·exact fun _=>.nil
 ·intro a v l vs _ _ i1 i2 hp
  simp only [pureL,Bool.and_eq_true] at hp
  exact .cons a v l vs (i1 hp.1) (i2 hp.2)
theorem pure_vrl {st:Bool} (hsz:w.heap.size ≤ w'.heap.size) (hk:st = false→∀ k,k < w.heap.size→¬ O k→w'.heap[k]? = w.heap[k]?∧¬ O' k):∀ {l:List AS} {vs:List Value},pureL st l = true→VRL φ O w l vs→VRL φ' O' w' l vs:=by
 intro l
 induction l with
 | nil=>intro vs _ hx;cases hx;exact .nil
 | cons a l ih =>
  intro vs hp hx
  cases hx with
  | cons a v l vs h t =>
   simp only [pureL,Bool.and_eq_true] at hp
   exact .cons a v l vs (pure_vr hsz hk hp.1 h) (ih hp.2 t)
theorem mapM_vrl {g:AS→Option AS} (hg:∀ a a' v,g a = some a'→VR φ O w a v→VR φ' O' w' a' v):∀ {l l':List AS} {vs:List Value},l.mapM g = some l'→VRL φ O w l vs→VRL φ' O' w' l' vs:=by
 intro l
 induction l with
 | nil=>intro l' vs hm hx;cases hx;simp at hm;subst hm;exact .nil
 | cons a l ih =>
  intro l' vs hm hx
  cases hx with
  | cons a v l vs h t =>
   simp only [List.mapM_cons,oqE,oqB,oqP,oqI] at hm
   obtain ⟨a',h1,l1,h2,rfl⟩:=hm
   exact .cons a' v l1 vs (hg a a' v h1 h) (ih h2 t)
theorem mapM_length {g:AS→Option AS}:∀ {l l':List AS},l.mapM g = some l'→l'.length = l.length
 | [],l',hm=>by simp at hm;subst hm;rfl
 | a::l,l',hm=>by
  simp only [List.mapM_cons,oqE,oqB,oqP,oqI] at hm
  obtain ⟨a',h1,l1,h2,rfl⟩:=hm
  simp [mapM_length h2]
theorem slc_vs {h:H} (R:Rel φ h w) {b v o n s:Nat} {c:Option Nat} {x:Value} {l l':List AS} (hx:VR φ (Nf φ) w (.slc b v o n s c) x) (hr:readC h (.ptr b v o) (n * s) = some l) {g:AS→Option AS} (hm:l.mapM g = some l')
  (hsz:w.heap.size ≤ w'.heap.size) (hO:∀ L,φ b v = some L→L.blk < w.heap.size→¬ O' L.blk∧w'.heap[L.blk]? = w.heap[L.blk]?) (hg:∀ a a' v,g a = some a'→VR φ (Nf φ) w a v→VR φ' O' w' a' v):VR φ' O' w' (.vs n s l') x:=by
 cases hx with
 | slc _ _ _ _ _ _ L a cap h1 h2 h3 h4 h5 h6 =>
  obtain ⟨b1,o1,vs,e,hvs,hlen,hcell⟩:=read_ok R (VR.ptr b v o L h1) hr
  simp only [Value.pointer.injEq,oqI,Addr.mk.injEq] at e
  obtain ⟨e1,e2,_⟩:=e
  subst e1;subst e2
  have hd:=R.dom b v L h1
  have hl':l'.length = n * s:=by rw [mapM_length hm,hvs.length,hlen]
  obtain ⟨ab,ao,as⟩:=a
  rcases Nat.eq_zero_or_pos n with hn | hn
  ·refine .vs n s l' ab ao cap as vs h4 (.inl h2) hl' (fun h=>by omega) (fun h=>by omega) (fun h=>by omega) (mapM_vrl hg hm hvs) fun i v hv=>?_
   have:vs = []:=List.eq_nil_of_length_eq_zero (by rw [hlen,hn];simp)
   subst this;simp at hv
  ·have ha:=h3 (by omega)
   cases ha
   obtain ⟨q1,q2⟩:=hO L h1 hd.2
   refine .vs n s l' L.blk (L.base + o) cap none vs h4 (.inl h2) hl' (fun _=>q1) (fun _=>Nat.lt_of_lt_of_le hd.2 hsz) (fun _=>rfl) (mapM_vrl hg hm hvs) fun i v hv=>?_
   have:=hcell i v hv
   simp only [World.cell?] at this ⊢
   rw [q2];exact this
end
section
variable {φ φ1 φ2:Phi} {h h1:H} {w w1:World}
theorem viewS_ok (R:Rel φ h w) (h2:∀ k,k < w.heap.size→φ2.F k):∀ n a a' v,viewS h n a = some a'→VR φ (Nf φ) w a v→VR φ2 (Nf φ2) w a' v
 | 0,a,a',v,hv,_=>by simp [viewS] at hv
 | n + 1,a,a',v,hv,hx=>by
  have hpure:pureS false a = true→VR φ2 (Nf φ2) w a v:=fun hp=>pure_vr (Nat.le_refl _) (fun _ k hk _=>⟨rfl,fun h=>h (h2 k hk)⟩) hp hx
  have other:(if pureS false a = true then some a else none) = some a'→VR φ2 (Nf φ2) w a' v:=by
   intro h
   split at h
   ·cases h;exact hpure ‹_›
   ·cases h
  have ihl:∀ {l l':List AS} {vs:List Value},l.mapM (viewS h n) = some l'→VRL φ (Nf φ) w l vs→VRL φ2 (Nf φ2) w l' vs:=fun hm hl=>mapM_vrl (fun a a' v=>viewS_ok R h2 n a a' v) hm hl
  cases a with
  | slc b v o k s c =>
   simp only [viewS,oqE,oqB,oqI] at hv
   obtain ⟨l,hr,l',hm,rfl⟩:=hv
   exact slc_vs R hx hr hm (Nat.le_refl _) (fun L _ hL=>⟨fun h=>h (h2 _ hL),rfl⟩) (fun a a' v=>viewS_ok R h2 n a a' v)
  | ptr b v o =>
   simp only [viewS,oqE,oqB,oqI] at hv
   obtain ⟨k,hk,e,he,l',hm,rfl⟩:=hv
   obtain ⟨L,hL,rfl⟩:=hx.ptr_inv
   obtain ⟨L',hL',hext,hec,helim,_,c,ty,fz,hc,hsz,_,us,hus,hcell⟩:=R.blk b k v e hk he
   rw [hL] at hL';cases hL'
   have hd:=R.dom b v L hL
   rw [hext] at hus
   refine .rp l' o L.blk L.base us (fun h=>h (h2 _ hd.2)) hd.2 (ihl hm hus) fun i v hv=>?_
   rw [cellsAt hc];exact hcell i v hv
  | fn f first caps =>
   simp only [viewS,oqE,oqB,oqI] at hv
   obtain ⟨x,hm1,y,hm2,rfl⟩:=hv
   obtain ⟨vs1,vs2,g1,g2,rfl⟩:=hx.fn_inv
   exact .fn f x y vs1 vs2 (ihl hm1 g1) (ihl hm2 g2)
  | ifc t u =>
   simp only [viewS,oqE,oqB,oqI] at hv
   obtain ⟨x,hm1,rfl⟩:=hv
   obtain ⟨u',g1,rfl⟩:=hx.ifc_inv
   exact .ifc t x u' (viewS_ok R h2 n u x u' hm1 g1)
  | _=>exact other (by simpa [viewS] using hv)
theorem viewV_ok (R:Rel φ h w) (h2:∀ k,k < w.heap.size→φ2.F k) (hq:φ2.q = φ.q) {a a':AV} {v:Value} (hv:viewV h a = some a') (hx:AVR φ (Nf φ) w a v):AVR φ2 (Nf φ2) w a' v:=by
 cases a with
 | one a =>
  simp only [viewV,oqE,oqB,oqI] at hv
  obtain ⟨x,hm,rfl⟩:=hv
  exact .one x v (viewS_ok R h2 64 a x v hm hx.one_inv)
 | agg l =>
  simp only [viewV,oqE,oqB,oqI] at hv
  obtain ⟨x,hm,rfl⟩:=hv
  obtain ⟨vs,g,rfl⟩:=hx.agg_inv
  exact .agg x vs (mapM_vrl (fun a a' v=>viewS_ok R h2 64 a a' v) hm g)
 | opq =>
  simp only [viewV,oqI] at hv
  subst hv
  cases hx
  rw [← hq];exact .opq
 | _=>simp [viewV] at hv
theorem pureV_ok {w':World} (hsz:w.heap.size ≤ w'.heap.size) (hk:∀ k,k < w.heap.size→φ.F k→w'.heap[k]? = w.heap[k]?∧φ2.F k) (hq:φ2.q = φ.q) {a:AV} {v:Value} (hv:pureV a = true) (hx:AVR φ (Nf φ) w a v):AVR φ2 (Nf φ2) w' a v:=by
 have hk':false = false→∀ k,k < w.heap.size→¬ Nf φ k→w'.heap[k]? = w.heap[k]?∧¬ Nf φ2 k:=fun _ k h1 h2=>⟨(hk k h1 (Classical.not_not.1 h2)).1,fun h=>h (hk k h1 (Classical.not_not.1 h2)).2⟩
 cases a with
 | one a=>exact .one a v (pure_vr hsz hk' hv hx.one_inv)
 | agg l =>
  obtain ⟨vs,g,rfl⟩:=hx.agg_inv
  exact .agg l vs (pure_vrl hsz hk' hv g)
 | opq =>
  cases hx
  rw [← hq];exact .opq
 | _=>cases hv
theorem mapM_avl {g:AV→Option AV} {O2:Nat→Prop} {O:Nat→Prop} (hg:∀ a a' v,g a = some a'→AVR φ O w a v→AVR φ2 O2 w1 a' v):∀ {l l':List AV} {vs:List Value},l.mapM g = some l'→AVL φ O w l vs→AVL φ2 O2 w1 l' vs:=by
 intro l
 induction l with
 | nil=>intro l' vs hm hx;cases hx;simp at hm;subst hm;exact .nil
 | cons a l ih =>
  intro l' vs hm hx
  cases hx with
  | cons a v l vs h t =>
   simp only [List.mapM_cons,oqE,oqB,oqP,oqI] at hm
   obtain ⟨a',h1,l1,h2,rfl⟩:=hm
   exact .cons a' v l1 vs (hg a a' v h1 h) (ih h2 t)
theorem frzS_ok {st:Bool} (R1:Rel φ1 h1 w1) {hd:H} (hh:∀ b k,hd.f b = some k→h1.f b = some k) (hF:∀ b k v e L,hd.f b = some k→k.ext v = some e→φ1 b v = some L→φ2.F L.blk) (hp:st = false→∀ k,k < w1.heap.size→φ1.F k→φ2.F k) :
  ∀ n a a' v,frzS st hd n a = some a'→VR φ1 (Nf φ1) w1 a v→VR φ2 (Nf φ2) w1 a' v
 | 0,a,a',v,hv,_=>by simp [frzS] at hv
 | n + 1,a,a',v,hv,hx=>by
  have other:(if pureS st a = true then some a else none) = some a'→VR φ2 (Nf φ2) w1 a' v:=by
   intro h
   split at h
   ·cases h
    exact pure_vr (Nat.le_refl _) (fun hst k hk hn=>⟨rfl,fun h=>h (hp hst k hk (Classical.not_not.1 hn))⟩) ‹_› hx
   ·cases h
  cases a with
  | slc b v o k s c =>
   simp only [frzS,oqE,oqB,oqI] at hv
   obtain ⟨l,hr,l',hm,rfl⟩:=hv
   have hr':readC h1 (.ptr b v o) (k * s) = some l:=by
    simp only [readC,oqE,oqB] at hr ⊢
    obtain ⟨K,hK,hr⟩:=hr
    exact ⟨K,hh _ _ hK,hr⟩
   refine slc_vs R1 hx hr' hm (Nat.le_refl _) (fun L hL _=>⟨fun h=>h ?_,rfl⟩) (fun a a' v=>frzS_ok R1 hh hF hp n a a' v)
   simp only [readC,oqE,oqB] at hr
   obtain ⟨K,hK,e,he,_⟩:=hr
   exact hF b K v e L hK he hL
  | _=>exact other (by simpa [frzS] using hv)
theorem frzP_ok {st:Bool} (hg:∀ a a' v,frzS st h1 64 a = some a'→VR φ1 (Nf φ1) w1 a v→VR φ2 (Nf φ2) w1 a' v):∀ {l l':List (Bool × List AS)} {vs:List Value},frzP st h1 l = some l'→PRL φ1 (Nf φ1) w1 l vs→PRL φ2 (Nf φ2) w1 l' vs:=by
 intro l
 induction l with
 | nil=>intro l' vs hm hx;cases hx;simp [frzP] at hm;subst hm;exact .nil
 | cons p l ih =>
  intro l' vs hm hx
  cases hx with
  | cons p v l vs h t =>
   simp only [frzP,oqE,oqB,oqI] at hm
   obtain ⟨q,h1,l1,h2,rfl⟩:=hm
   obtain ⟨us,hu,e⟩:=h
   exact .cons _ v l1 vs ⟨us,mapM_vrl hg h1 hu,e⟩ (ih h2 t)
theorem frzV_ok {st:Bool} (hg:∀ a a' v,frzS st h1 64 a = some a'→VR φ1 (Nf φ1) w1 a v→VR φ2 (Nf φ2) w1 a' v) (hq:φ2.q = φ1.q) {a a':AV} {v:Value} (hv:frzV st h1 a = some a') (hx:AVR φ1 (Nf φ1) w1 a v):AVR φ2 (Nf φ2) w1 a' v:=by
 cases a with
 | one a =>
  simp only [frzV,oqE,oqB,oqI] at hv
  obtain ⟨x,hm,rfl⟩:=hv
  exact .one x v (hg a x v hm hx.one_inv)
 | agg l =>
  simp only [frzV,oqE,oqB,oqI] at hv
  obtain ⟨x,hm,rfl⟩:=hv
  obtain ⟨vs,g,rfl⟩:=hx.agg_inv
  exact .agg x vs (mapM_vrl hg hm g)
 | tup ps =>
  simp only [frzV,oqE,oqB,oqI] at hv
  obtain ⟨x,hm,rfl⟩:=hv
  obtain ⟨vs,g,rfl⟩:=hx.tup_inv
  exact .tup x vs (frzP_ok hg hm g)
 | opq =>
  simp only [frzV,oqI] at hv
  subst hv
  cases hx
  rw [← hq];exact .opq
 | undef=>simp [frzV] at hv
end
theorem apart_in {φ:Phi} {h:H} {w:World} (R:Rel φ h w) {args args':List AV} {cargs:List Value} (ha:AVL φ (Nf φ) w args cargs) (hv:viewA h args = some args') :
  ∃ φ0:Phi,Rel φ0 H.empty w∧AVL φ0 (Nf φ0) w args' cargs∧φ0.q = φ.q∧((!args.all pureV) = false→φ0.F = φ.F):=by
 have rel:∀ F:Nat→Prop,(∀ k,F k→k < w.heap.size)→Rel ⟨fun _ _=>none,F,φ.q⟩ H.empty w:=fun F hF =>
  ⟨fun b k hb=>by simp [H.empty] at hb,fun b k v e hb=>by simp [H.empty] at hb,fun b k v e l b' k' v' e' l' hb=>by simp [H.empty] at hb,fun b v l hb=>by simp at hb,fun b k v l hb=>by simp [H.empty] at hb,
   fun k hk=>⟨hF k hk,fun ⟨b,k',v,e,l,hb,_⟩=>by simp [H.empty] at hb⟩⟩
 unfold viewA at hv
 split at hv
 ·rename_i hp
  simp only [oqI] at hv;subst hv
  refine ⟨_,rel φ.F (fun k hk=>(R.frz k hk).1), ?_,rfl,fun _=>rfl⟩
  have:∀ {l:List AV} {vs:List Value},l.all pureV = true→AVL φ (Nf φ) w l vs→AVL ⟨fun _ _=>none,φ.F,φ.q⟩ (Nf ⟨fun _ _=>none,φ.F,φ.q⟩) w l vs:=by
   intro l vs hl hx
   induction hx with
   | nil=>exact .nil
   | cons a v l vs h t ih =>
    simp only [List.all_cons,Bool.and_eq_true] at hl
    exact .cons a v l vs (pureV_ok (φ:=φ) (φ2:=⟨fun _ _=>none,φ.F,φ.q⟩) (Nat.le_refl _) (fun k _ hk=>⟨rfl,hk⟩) rfl hl.1 h) (ih hl.2)
  exact this hp ha
 ·rename_i hp
  refine ⟨_,rel (fun k=>k < w.heap.size) (fun k hk=>hk), ?_,rfl,fun hst=>?_⟩
  ·exact mapM_avl (fun a a' v hm hx=>viewV_ok R (φ2:=⟨fun _ _=>none,fun k=>k < w.heap.size,φ.q⟩) (fun k hk=>hk) rfl hm hx) hv ha
  ·simp only [Bool.not_eq_false'] at hst
   exact absurd hst hp
theorem apart_out {φ φ0 φ1:Phi} {h h1:H} {w w1:World} (R:Rel φ h w) (hq:φ0.q = φ.q) {own st:Bool} (hst:st = false→φ0.F = φ.F) (hall:∀ k,φ0.F k→k < w.heap.size) (R1:Rel φ1 h1 w1) (G:Grow φ0 H.empty w φ1 h1 w1) {v:AV} {cv:Value} (hv:AVR φ1 (Nf φ1) w1 v cv) {r:CR} (hr:outV own st h1 h v = some r) :
  Ends φ h w r (.returned cv) w1:=by
 have hq1:φ1.q = φ.q:=G.q.trans hq
 have hnone:∀ k,¬ Own φ0 H.empty k:=fun k ⟨b,k',v,e,l,hb,_⟩=>by simp [H.empty] at hb
 have hkeep:∀ k,k < w.heap.size→w1.heap[k]? = w.heap[k]?:=fun k hk=>G.keep k hk (hnone k)
 have hnew:∀ k,Own φ1 h1 k→w.heap.size ≤ k:=fun k ho=>Nat.le_of_not_lt fun hk=>hnone k (G.own k hk ho)
 have rel:∀ (F:Nat→Prop),(∀ k,F k→w.heap.size ≤ k∧k < w1.heap.size)→Rel ⟨φ.m,fun k=>φ.F k ∨ F k,φ.q⟩ h w1∧Grow φ h w ⟨φ.m,fun k=>φ.F k ∨ F k,φ.q⟩ h w1:=by
  intro F hF
  have hNf:∀ k,k < w.heap.size→¬ Nf φ k→w1.heap[k]? = w.heap[k]?:=fun k hk _=>hkeep k hk
  have hNo:∀ k,k < w.heap.size→Nf ⟨φ.m,fun k=>φ.F k ∨ F k,φ.q⟩ k→Nf φ k:=fun k hk hn hf=>hn (.inl hf)
  refine ⟨⟨R.lt,fun b k v e hk he=>?_,R.sep,fun b v l hb=>⟨(R.dom b v l hb).1,Nat.lt_of_lt_of_le (R.dom b v l hb).2 G.size⟩,R.ver,fun k hk=>?_⟩, ?_⟩
  ·obtain ⟨L,hL,hext,hec,helim,hfix,c,ty,fz,hc,hsz,hfz,us,hus,hcell⟩:=R.blk b k v e hk he
   refine ⟨L,hL,hext,hec,helim,hfix,c,ty,fz, ?_,hsz,hfz,us,VRL.mono (φ:=φ) (φ':=⟨φ.m,fun k=>φ.F k ∨ F k,φ.q⟩) (fun _ _ _ h=>h) G.size hNf hNo hus,hcell⟩
   rw [hkeep _ (R.dom b v L hL).2];exact hc
  ·rcases hk with hk | hk
   ·exact ⟨Nat.lt_of_lt_of_le (R.frz k hk).1 G.size,(R.frz k hk).2⟩
   ·refine ⟨(hF k hk).2,fun ⟨b,k',v,e,l,h1,h2,h3,h4⟩=>?_⟩
    have:=(R.dom b v l h3).2
    have:=(hF k hk).1
    omega
  ·exact ⟨⟨fun _ _ _ h=>h,Nat.le_refl _,G.size,fun k hk _=>hkeep k hk,fun _ _ h=>h,G.os,G.tape,G.output,fun k hk _=>hkeep k hk,fun k hk=>.inl hk,fun k hk hf=>by
    rcases hf with hf | hf
    ·exact hf
    ·have:=(hF k hf).1;omega,rfl⟩,fun _ _ _ h=>.inl h,fun _ h=>.inl h⟩
 have hpF:∀ (F:Nat→Prop),(∀ k,k < w1.heap.size→w.heap.size ≤ k→φ1.F k→F k)→st = false→∀ k,k < w1.heap.size→φ1.F k→(φ.F k ∨ F k):=by
  intro F hF hs k hk hf
  by_cases hlt:k < w.heap.size
  ·have:=G.fresh k hlt hf
   rw [hst hs] at this;exact .inl this
  ·exact .inr (hF k hk (by omega) hf)
 unfold outV at hr
 split at hr
 ·-- its own
  rename_i b ver o n s c
  simp only [oqE,oqB] at hr
  obtain ⟨B,hB,hr⟩:=hr
  split at hr
  ·rename_i hc
   obtain ⟨rfl,rfl,rfl,hs0,hlen,hext0⟩:=hc
   simp only [oqB,oqI] at hr
   obtain ⟨l',hm,rfl⟩:=hr
   have hx:=hv.one_inv
   cases hx with
   | slc _ _ _ _ _ _ L a cap g1 g2 g3 g4 g5 g6 =>
    have hown:Own φ1 h1 L.blk:=⟨b,B,B.ver,_,L,hB,hext0,g1,rfl⟩
    have hge:=hnew _ hown
    have hlt:=(R1.dom b B.ver L g1).2
    obtain ⟨L',hL',hext,hec,helim,hfix,cc,ty,fz,hcc,hsz,hfz,us,hus,hcell⟩:=R1.blk b B B.ver _ hB hext0
    rw [g1] at hL';cases hL'
    obtain ⟨RF,GF⟩:=rel (fun k=>w.heap.size ≤ k∧k < w1.heap.size∧k ≠ L.blk) (fun k hk=>⟨hk.1,hk.2.1⟩)
    let φ2:Phi:=⟨fun x y=>if x = h.next∧y = 0 then some ⟨L.blk,L.base,n * s,L.lim⟩ else φ.m x y,fun k=>φ.F k ∨ (w.heap.size ≤ k∧k < w1.heap.size∧k ≠ L.blk),φ.q⟩
    have hdelF:∀ b' k v e L',(h1.del b).f b' = some k→k.ext v = some e→φ1 b' v = some L'→φ2.F L'.blk:=by
     intro b' k v e L1 hk he h3
     simp only [H.del] at hk
     split at hk
     ·cases hk
     ·rename_i hne
      have o1:Own φ1 h1 L1.blk:=⟨b',k,v,e,L1,hk,he,h3,rfl⟩
      refine .inr ⟨hnew _ o1,(R1.dom b' v L1 h3).2,fun heq=>hne ?_⟩
      exact (R1.sep b' k v e L1 b B B.ver _ L hk he h3 hB hext0 g1 heq).1
    have hgz:∀ a a' v,frzS st (h1.del b) 64 a = some a'→VR φ1 (Nf φ1) w1 a v→VR φ2 (Nf φ2) w1 a' v:=by
     refine frzS_ok R1 (hd:=h1.del b) (fun b' k hk=>?_) hdelF (hpF (fun k=>w.heap.size ≤ k∧k < w1.heap.size∧k ≠ L.blk) fun k h1' h2' h3'=>⟨h2',h1',fun heq=>?_⟩) 64
     ·simp only [H.del] at hk
      split at hk
      ·cases hk
      ·exact hk
     ·exact (R1.frz k h3').2 (heq ▸ hown)
    have hcells:VRL φ2 (Nf φ2) w1 l' us:=by
     have:B.cells.take L.ext = B.cells:=by rw [hext,← hlen];exact List.take_length
     rw [this] at hus
     exact mapM_vrl hgz hm hus
    have hll:l'.length = n * s:=by rw [mapM_length hm,hlen]
    have hR2:Rel φ2 (h.new (blkOf l' B.fixed)) w1:=by
     have hold:∀ b' v l,φ.m b' v = some l→φ2.m b' v = some l:=by
      intro b' v l hb
      have:=(R.dom b' v l hb).1
      simp only [φ2]
      rw [if_neg (by omega)];exact hb
     have hf2:∀ b' k,(h.new (blkOf l' B.fixed)).f b' = some k→(b' = h.next∧k = blkOf l' B.fixed) ∨ (b' ≠ h.next∧h.f b' = some k):=by
      intro b' k hk
      simp only [H.new] at hk
      split at hk
      ·rename_i hb;left;simp only [oqI] at hk;exact ⟨hb,hk.symm⟩
      ·rename_i hb;right;exact ⟨hb,hk⟩
     have hmm:∀ b' v l,φ2.m b' v = some l→(b' = h.next∧v = 0∧l = ⟨L.blk,L.base,n * s,L.lim⟩) ∨ φ.m b' v = some l:=by
      intro b' v l hb
      simp only [φ2] at hb
      split at hb
      ·rename_i hc;left;simp only [oqI] at hb;exact ⟨hc.1,hc.2,hb.symm⟩
      ·right;exact hb
     have hex:∀ v e,(blkOf l' B.fixed).ext v = some e→v = 0∧e = n * s:=by
      intro v e he
      simp only [Blk.ext,blkOf,Nat.le_zero_eq] at he
      split at he
      ·rename_i hv0
       subst hv0
       simp at he
       exact ⟨rfl,by omega⟩
      ·cases he
     refine ⟨fun b' k hk=>?_,fun b' k v e hk he=>?_,fun b1 k1 v1 e1 l1 b2 k2 v2 e2 l2 p1 p2 p3 q1 q2 q3 heq=>?_,fun b' v l hb=>?_,fun b' k v l hk hb=>?_,fun k hk=>?_⟩
     ·rcases hf2 b' k hk with ⟨rfl,_⟩ | ⟨_,h3⟩
      ·simp [H.new]
      ·have:=R.lt b' k h3;simp only [H.new];omega
     ·rcases hf2 b' k hk with ⟨rfl,rfl⟩ | ⟨hne,h3⟩
      ·obtain ⟨rfl,rfl⟩:=hex v e he
       refine ⟨⟨L.blk,L.base,n * s,L.lim⟩,by simp [φ2],rfl,by simp [blkOf,hll],helim,fun _=>⟨by simp [blkOf,hll],fun hfx=>?_⟩,cc,ty,fz,hcc,hsz,hfz,us, ?_,hcell⟩
       ·exact (hfix rfl).2 hfx
       ·simp only [blkOf]
        rw [List.take_of_length_le (by omega)]
        exact hcells
      ·obtain ⟨L1,hL1,x1,x2,x3,x4,c1,ty1,fz1,hc1,hs1,hf1,us1,hus1,hcell1⟩:=RF.blk b' k v e h3 he
       exact ⟨L1,hold b' v L1 hL1,x1,x2,x3,x4,c1,ty1,fz1,hc1,hs1,hf1,us1,VRL.mono (φ:=⟨φ.m,fun k=>φ.F k ∨ w.heap.size ≤ k∧k < w1.heap.size∧k ≠ L.blk,φ.q⟩) (φ':=φ2) (fun _ _ _ h=>hold _ _ _ h) (Nat.le_refl _) (fun _ _ _=>rfl) (fun _ _ h=>h) hus1,hcell1⟩
     ·have old:∀ b' v l,φ.m b' v = some l→l.blk ≠ L.blk:=fun b' v l hb=>by have:=(R.dom b' v l hb).2;omega
      rcases hf2 b1 k1 p1 with ⟨rfl,rfl⟩ | ⟨hne1,p1'⟩
      ·obtain ⟨rfl,rfl⟩:=hex v1 e1 p2
       have hl1:l1 = ⟨L.blk,L.base,n * s,L.lim⟩:=by
        have:φ2.m h.next 0 = some ⟨L.blk,L.base,n * s,L.lim⟩:=by simp [φ2]
        rw [p3] at this;exact Option.some.inj this
       rcases hf2 b2 k2 q1 with ⟨rfl,rfl⟩ | ⟨hne2,q1'⟩
       ·obtain ⟨rfl,rfl⟩:=hex v2 e2 q2
        have:l1 = l2:=by rw [p3] at q3;exact Option.some.inj q3
        subst this;exact ⟨rfl,rfl⟩
       ·rcases hmm b2 v2 l2 q3 with ⟨hb2,_⟩ | q3'
        ·exact absurd hb2 hne2
        ·exact absurd (by rw [← heq,hl1]) (old _ _ _ q3')
      ·rcases hmm b1 v1 l1 p3 with ⟨hb1,_⟩ | p3'
       ·exact absurd hb1 hne1
       ·rcases hf2 b2 k2 q1 with ⟨rfl,rfl⟩ | ⟨hne2,q1'⟩
        ·obtain ⟨rfl,rfl⟩:=hex v2 e2 q2
         have hl2:l2 = ⟨L.blk,L.base,n * s,L.lim⟩:=by
          have:φ2.m h.next 0 = some ⟨L.blk,L.base,n * s,L.lim⟩:=by simp [φ2]
          rw [q3] at this;exact Option.some.inj this
         exact absurd (by rw [heq,hl2]) (old _ _ _ p3')
        ·rcases hmm b2 v2 l2 q3 with ⟨hb2,_⟩ | q3'
         ·exact absurd hb2 hne2
         ·exact R.sep b1 k1 v1 e1 l1 b2 k2 v2 e2 l2 p1' p2 p3' q1' q2 q3' heq
     ·rcases hmm b' v l hb with ⟨rfl,rfl,rfl⟩ | hb'
      ·exact ⟨by simp [H.new],hlt⟩
      ·have:=RF.dom b' v l hb'
       exact ⟨by simp only [H.new];omega,this.2⟩
     ·rcases hf2 b' k hk with ⟨rfl,rfl⟩ | ⟨hne,h3⟩
      ·rcases hmm _ v l hb with ⟨_,rfl,_⟩ | hb'
       ·exact Nat.zero_le _
       ·have:=(R.dom _ v l hb').1;omega
      ·rcases hmm b' v l hb with ⟨hb1,_⟩ | hb'
       ·exact absurd hb1 hne
       ·exact R.ver b' k v l h3 hb'
     ·have hk':φ.F k ∨ (w.heap.size ≤ k∧k < w1.heap.size∧k ≠ L.blk):=hk
      refine ⟨(RF.frz k hk').1,fun ⟨b',k',v,e,l,z1,z2,z3,z4⟩=>?_⟩
      rcases hf2 b' k' z1 with ⟨rfl,rfl⟩ | ⟨hne,z1'⟩
      ·obtain ⟨rfl,rfl⟩:=hex v e z2
       have:φ2.m h.next 0 = some ⟨L.blk,L.base,n * s,L.lim⟩:=by simp [φ2]
       have z3':φ2.m h.next 0 = some l:=z3
       rw [this] at z3'
       simp only [oqI] at z3'
       rw [← z3'] at z4
       have z5:L.blk = k:=z4
       rcases hk' with hk' | hk'
       ·have:=(R.frz k hk').1;omega
       ·exact hk'.2.2 z5.symm
      ·rcases hmm b' v l z3 with ⟨hb1,_⟩ | z3'
       ·exact absurd hb1 hne
       ·exact (RF.frz k hk').2 ⟨b',k',v,e,l,z1',z2,z3',z4⟩
    refine ⟨_,_,φ2,rfl,hR2, ?_,.one _ _ ?_⟩
    ·refine ⟨⟨fun b' v l hb=>?_,by simp [H.new],G.size,fun k hk _=>hkeep k hk,fun k hk ho=>?_,G.os,G.tape,G.output,fun k hk _=>hkeep k hk,fun k hk=>.inl hk,fun k hk hf=>?_,rfl⟩,fun b' v l hb=>?_,fun b' hb=>?_⟩
     ·have:=(R.dom b' v l hb).1
      show φ2.m b' v = some l
      simp only [φ2]
      rw [if_neg (by omega)];exact hb
     ·obtain ⟨b',k',v,e,l,z1,z2,z3,z4⟩:=ho
      have z3':φ2.m b' v = some l:=z3
      simp only [φ2] at z3'
      split at z3'
      ·simp only [oqI] at z3'
       rw [← z3'] at z4
       have z5:L.blk = k:=z4
       omega
      ·have hd:=(R.dom b' v l z3').1
       refine ⟨b',k',v,e,l, ?_,z2,z3',z4⟩
       simp only [H.new] at z1
       rw [if_neg (by omega)] at z1;exact z1
     ·rcases hf with hf | hf
      ·exact hf
      ·have:=hf.1;omega
     ·have hb':φ2.m b' v = some l:=hb
      simp only [φ2] at hb'
      split at hb'
      ·rename_i hc;right;left;omega
      ·left;exact hb'
     ·by_cases hbn:b' = h.next
      ·right;omega
      ·left
       simp only [H.new] at hb
       rw [if_neg hbn] at hb;exact hb
    ·refine .slc h.next 0 0 n s none ⟨L.blk,L.base,n * s,L.lim⟩ a cap (by show φ2.m h.next 0 = _;simp [φ2]) g2 (fun hc=>?_) g4 g5 (by simp)
     exact g3 hc
  ·cases hr
 ·simp only [oqE,oqB,oqI] at hr
  obtain ⟨v',hv',rfl⟩:=hr
  obtain ⟨RF,GF⟩:=rel (fun k=>w.heap.size ≤ k∧k < w1.heap.size) (fun k hk=>hk)
  refine ⟨_,_,_,rfl,RF,GF, ?_⟩
  refine frzV_ok (frzS_ok (φ2:=⟨φ.m,fun k=>φ.F k ∨ (w.heap.size ≤ k∧k < w1.heap.size),φ.q⟩) R1 (hd:=h1) (fun _ _ h=>h) (fun b k v e L hk he hL=>?_) (hpF (fun k=>w.heap.size ≤ k∧k < w1.heap.size) fun k g1 g2 _=>⟨g2,g1⟩) 64) hq1.symm hv' hv
  exact .inr ⟨hnew _ ⟨b,k,v,e,L,hk,he,hL,rfl⟩,(R1.dom b v L hL).2⟩
end Go.Ab
namespace Go.Ab
section
variable {C:Conf} {φ:Phi} {h:H} {w:World} {fr:Fr} {a:Act}
theorem part_of {O:Nat→Prop} {v:AV} {cv:Value} {g:Bool} {l:List AS} (hv:AVR φ O w v cv) (hp:partOf v = some (g,l)):PR φ O w (g,l) cv:=by
 cases hv with
 | undef=>simp [partOf] at hp
 | opq=>simp [partOf] at hp
 | one a v h =>
  simp only [partOf,oqI,oqM] at hp
  obtain ⟨rfl,rfl⟩:=hp
  exact ⟨[cv],.cons _ _ _ _ h .nil,by simp⟩
 | agg l' vs h =>
  simp only [partOf,oqI,oqM] at hp
  obtain ⟨rfl,rfl⟩:=hp
  exact ⟨vs,h,by simp⟩
 | tup _ _ _=>simp [partOf] at hp
theorem pr_of {O:Nat→Prop} {v:AV} {cv:Value} {g:Bool} {l:List AS} (hp:PR φ O w (g,l) cv) (hv:ofCells g l = some v):AVR φ O w v cv:=by
 obtain ⟨us,hus,he⟩:=hp
 rcases ofCells_ok hus hv with ⟨rfl,hx⟩ | ⟨rfl,x,rfl,hx⟩
 ·simp at he;subst he;exact hx
 ·simp at he;subst he;exact hx
def resSem (tmps:Array Value):ResultVar→Sem Value
 | .tmp t=>pure (tmps.getD t Go.undef)
 | .cell a t=>do loadVar t (← asAddr (tmps.getD a Go.undef))
theorem getD_ok {tmps:Array Value} (hf:AVL φ (Nf φ) w fr tmps.toList) (t:Nat):AVR φ (Nf φ) w (Fr.get fr t) (tmps.getD t Go.undef):=by
 have:=hf.get t
 simpa [List.getD_eq_getElem?_getD,Array.getD_eq_getD_getElem?] using this
theorem resVar_ok (R:Rel φ h w) {tmps:Array Value} (hf:AVL φ (Nf φ) w fr tmps.toList) {r:ResultVar} {v:AV} (hr:resVar C fr h r = some v):∃ cv,(resSem tmps r).run C.P w = .ok cv w∧AVR φ (Nf φ) w v cv:=by
 cases r with
 | tmp t =>
  simp only [resVar,oqI] at hr;subst hr
  exact ⟨_,by simp [resSem];rfl,by have:=getD_ok hf t;simpa using this⟩
 | cell q t =>
  simp only [resVar,oqE,oqB] at hr
  have hq:=getD_ok hf q
  split at hr
  ·rename_i p hp
   simp only [oqB] at hr
   obtain ⟨n,hn,l,hl,g,hg,hv⟩:=hr
   rw [hp] at hq
   obtain ⟨b,o,cv,hpv,hrun,hx⟩:=loadVar_ok R hq.one_inv hn hg hl hv
   refine ⟨cv, ?_,hx⟩
   simp only [resSem,hpv,asAddr,Sem.run_bind,Sem.run_pure,Result.andThen_ok,hrun]
  ·cases hr
theorem resParts_ok (R:Rel φ h w) {tmps:Array Value} (hf:AVL φ (Nf φ) w fr tmps.toList):∀ {l:List ResultVar} {ps:List (Bool × List AS)},resParts C fr h l = some ps→∃ cvs,(l.mapM (resSem tmps)).run C.P w = .ok cvs w∧PRL φ (Nf φ) w ps cvs
 | [],ps,hr=>by
  simp only [resParts,oqI] at hr;subst hr
  exact ⟨[],by simp,.nil⟩
 | r::l,ps,hr=>by
  simp only [resParts,oqE,oqB,oqI] at hr
  obtain ⟨v,hv,⟨g,q⟩,hp,qs,hqs,rfl⟩:=hr
  obtain ⟨cv,h1,h2⟩:=resVar_ok R hf hv
  obtain ⟨cvs,h3,h4⟩:=resParts_ok R hf hqs
  exact ⟨cv::cvs,by simp [List.mapM_cons,h1,h3],.cons _ _ _ _ (part_of h2 hp) h4⟩
theorem PRL.length {O:Nat→Prop}:∀ {l:List (Bool × List AS)} {vs:List Value},PRL φ O w l vs→l.length = vs.length
 | _,_,.nil=>rfl
 | _,_,.cons _ _ _ _ _ t=>by simp [PRL.length t]
theorem resParts_length:∀ {l:List ResultVar} {ps:List (Bool × List AS)},resParts C fr h l = some ps→ps.length = l.length
 | [],ps,hr=>by simp only [resParts,oqI] at hr;subst hr;rfl
 | r::l,ps,hr=>by
  simp only [resParts,oqE,oqB,oqI] at hr
  obtain ⟨v,hv,q,hp,qs,hqs,rfl⟩:=hr
  simp [resParts_length hqs]
theorem results_eq (fn:Func) (tmps:Array Value):results fn tmps = (do let vs ← fn.results.mapM (resSem tmps);pure (if h:vs.size = 1 then vs[0] else .tuple vs):Sem Value):=by
 unfold results
 congr 1
theorem resultA_ok (R:Rel φ h w) {fn:Func} {tmps:Array Value} (hf:AVL φ (Nf φ) w fr tmps.toList) {v:AV} (hr:resultA C fr h fn.results.toList = some v):∃ cv,(results fn tmps).run C.P w = .ok cv w∧AVR φ (Nf φ) w v cv:=by
 have hrun:∀ cvs,(fn.results.toList.mapM (resSem tmps)).run C.P w = .ok cvs w→(results fn tmps).run C.P w = .ok (if h:cvs.length = 1 then cvs[0] else .tuple cvs.toArray) w:=by
  intro cvs hm
  rw [results_eq,Array.mapM_eq_mapM_toList]
  simp [hm]
 unfold resultA at hr
 split at hr
 ·rename_i r hrl
  simp only [oqE,oqB] at hr
  obtain ⟨v1,hv1,⟨g,l⟩,hp,hv⟩:=hr
  obtain ⟨cv,h1,h2⟩:=resVar_ok R hf hv1
  refine ⟨cv, ?_,pr_of (part_of h2 hp) hv⟩
  rw [hrun [cv] (by rw [hrl];simp [h1])]
  simp
 ·rename_i hne
  simp only [oqE,oqB,oqI] at hr
  obtain ⟨ps,hps,rfl⟩:=hr
  obtain ⟨cvs,h1,h2⟩:=resParts_ok R hf hps
  refine ⟨.tuple cvs.toArray, ?_,.tup _ _ h2⟩
  rw [hrun cvs h1]
  have hl:¬ cvs.length = 1:=by
   rw [← h2.length,resParts_length hps]
   intro h1
   obtain ⟨r,hr⟩:=List.length_eq_one_iff.1 h1
   exact hne r hr
  simp [hl]
structure OkC (C:Conf):Prop where
 names:∀ (f:Nat) (fn:Func),C.P.funcs[f]? = some fn→fn.body.isSome = true→(fn.name == "runtime.NumGoroutine") = false
 ext:∀ f x,C.ext f = some x→∀ args h r,extA x args h = some r→∀ φ w cargs,Rel φ h w→AVL φ (Nf φ) w args cargs→CallR C.P φ h w f cargs r
 prim:∀ f g,C.prim f = some g→∀ calls,CallsOk C.P calls→∀ args h r,g calls args h = some r→∀ φ w cargs,Rel φ h w→AVL φ (Nf φ) w args cargs→CallR C.P φ h w f cargs r
theorem undefs_ok {O:Nat→Prop}:∀ n,AVL φ O w (List.replicate n .undef) (List.replicate n Go.undef)
 | 0=>.nil
 | n + 1=>by rw [List.replicate_succ,List.replicate_succ];exact .cons _ _ _ _ .undef (undefs_ok n)
theorem callF_ok (hO:OkC C) {calls:Calls'} (hc:CallsOk C.P calls) {rec:Code→Fr→H→Out} (hrec:RecOk C.P rec):CallsOk C.P (callF C calls rec):=by
 intro f args h r hr φ w cargs R ha
 unfold callF at hr
 split at hr
 ·rename_i g hp
  exact hO.prim f g hp calls hc args h r hr φ w cargs R ha
 ·rename_i x hp hx
  exact hO.ext f x hx args h r hr φ w cargs R ha
 ·simp only [oqE,oqB] at hr
  obtain ⟨fn,hfn,c,hb,hr⟩:=hr
  split at hr
  ·cases hr
  rename_i hlen
  right
  have hnm:=hO.names f fn hfn (by simp [hb])
  have hnm':¬ fn.name = "runtime.NumGoroutine" := by simpa using hnm
  refine ⟨by simp [callFunc,hfn,hnm',hb],calls_of_wp hfn hb ?_⟩
  have hl:=ha.length
  by_cases hz:C.frz f = true
  ·rw [if_pos hz] at hr
   simp only [oqB] at hr
   obtain ⟨args',hview,⟨x,fr',h'⟩,hrun,hr⟩:=hr
   obtain ⟨φ0,R0,ha0,hq0,hst0⟩:=apart_in R ha hview
   have hl0:=ha0.length
   have hf0:AVL φ0 (Nf φ0) w (args'++List.replicate (fn.ntmps - args.length) .undef) ((cargs.toArray++Array.replicate (fn.ntmps - cargs.toArray.size) Go.undef).toList):=by
    rw [Array.toList_append,Array.toList_replicate,List.size_toArray,← hl]
    exact ha0.append (undefs_ok _)
   refine wp_mono (Code.wp'_wp (hrec c _ _ x fr' h' hrun φ0 w { tmps:=cargs.toArray++Array.replicate (fn.ntmps - cargs.toArray.size) Go.undef,defers:=[] } R0 hf0 rfl)) ?_
   rintro e a' w' ⟨φ',R',G,hd',hm⟩
   have hret:((resultA C fr' h' fn.results.toList).bind fun v=>outV (C.own f) (!args.all pureV) h' h v) = some r→AVL φ' (Nf φ') w' fr' a'.tmps.toList →
     a'.defers = []∧∃ v,(results fn a'.tmps).run C.P w' = .ok v w'∧Ends φ h w r (.returned v) w':=by
    intro hr hf'
    simp only [oqB] at hr
    obtain ⟨v,hv,hr⟩:=hr
    obtain ⟨cv,h1,h2⟩:=resultA_ok R' hf' hv
    exact ⟨hd',cv,h1,apart_out R hq0 hst0 (fun k hk=>(R0.frz k hk).1) R' G h2 hr⟩
   cases x with
   | normal =>
    cases e <;> simp only at hm
    exact hret hr hm
   | ret =>
    cases e <;> simp only at hm
    exact hret hr hm
   | pan v=>cases hr
   | exit i=>cases hr
  rw [if_neg hz] at hr
  simp only [oqB] at hr
  obtain ⟨⟨x,fr',h'⟩,hrun,hr⟩:=hr
  have hf0:AVL φ (Nf φ) w (args++List.replicate (fn.ntmps - args.length) .undef) ((cargs.toArray++Array.replicate (fn.ntmps - cargs.toArray.size) Go.undef).toList):=by
   rw [Array.toList_append,Array.toList_replicate,List.size_toArray,← hl]
   exact ha.append (undefs_ok _)
  refine wp_mono (Code.wp'_wp (hrec c _ h x fr' h' hrun φ w { tmps:=cargs.toArray++Array.replicate (fn.ntmps - cargs.toArray.size) Go.undef,defers:=[] } R hf0 rfl)) ?_
  rintro e a' w' ⟨φ',R',G,hd',hm⟩
  have hret:((resultA C fr' h' fn.results.toList).bind fun v=>some (CR.ret v h')) = some r→AVL φ' (Nf φ') w' fr' a'.tmps.toList →
    a'.defers = []∧∃ v,(results fn a'.tmps).run C.P w' = .ok v w'∧Ends φ h w r (.returned v) w':=by
   intro hr hf'
   simp only [oqB,oqI] at hr
   obtain ⟨v,hv,rfl⟩:=hr
   obtain ⟨cv,h1,h2⟩:=resultA_ok R' hf' hv
   exact ⟨hd',cv,h1,v,h',φ',rfl,R',G,h2⟩
  cases x with
  | normal =>
   cases e <;> simp only at hm
   exact hret hr hm
  | ret =>
   cases e <;> simp only at hm
   exact hret hr hm
  | pan v =>
   cases e <;> simp only at hm
   obtain ⟨cv,hv,rfl⟩:=hm
   simp only [oqI] at hr;subst hr
   exact ⟨hd',v,h',φ',cv,rfl,R',G,hv,rfl⟩
  | exit i=>cases hr
theorem both_ok (hP:OkT C.P) (hC:∀ t z,C.cmp t = some z→CmpT C.P t z) (hO:OkC C) (hD:∀ calls,CallsOk C.P calls→DrawOk C calls):∀ n,RecOk C.P (exec C n)∧CallsOk C.P (call C n)
 | 0=>⟨fun _ _ _ _ _ _ h=>by simp [exec,both] at h,fun _ _ _ _ h=>by simp [call,both] at h⟩
 | n + 1=>by
  obtain ⟨h1,h2⟩:=both_ok hP hC hO hD n
  exact ⟨step_ok hP hC h2 (hD _ h2) h1,callF_ok hO h2 h1⟩
end
end Go.Ab
namespace Go.Ab
def Phi.lt (φ:Phi) (N:Nat):Phi:=⟨fun b v=>if b < N then φ b v else none,φ.F,φ.q⟩
theorem Phi.lt_some {φ:Phi} {N b v:Nat} {l:Loc} (h:φ.lt N b v = some l):b < N∧φ b v = some l:=by
 simp only [Phi.lt] at h
 split at h
 ·exact ⟨‹_›,h⟩
 ·cases h
theorem Phi.lt_of {φ:Phi} {N b v:Nat} {l:Loc} (hb:b < N) (h:φ b v = some l):φ.lt N b v = some l:=by
 simp only [Phi.lt,if_pos hb];exact h
def Under (φ:Phi) (N:Nat):Prop:=∀ b v l,φ b v = some l→b < N
section
variable {φ0 φ:Phi} {O0 O:Nat→Prop} {w0 w:World} {N:Nat}
theorem VR.cut (hN:Under φ0 N) {a:AS} {v0:Value} (h0:VR φ0 O0 w0 a v0):∀ {v:Value},VR φ O w a v→VR (φ.lt N) O w a v:=by
 refine VR.rec (motive_1:=fun a _ _=>∀ {v:Value},VR φ O w a v→VR (φ.lt N) O w a v) (motive_2:=fun l _ _=>∀ {vs:List Value},VRL φ O w l vs→VRL (φ.lt N) O w l vs)
  ?_ ?_ ?_ ?_ ?_ ?_ ?_ ?_ ?_ ?_ ?_ ?_ ?_ ?_ ?_ ?_ ?_ ?_ ?_ h0
 ·intro b v h;cases h;exact .bool b
 ·intro k n v h;cases h;exact .int k n
 ·intro b v h;cases h;exact .flt b
 ·intro x hx v h;cases h;exact .nan _ ‹_›
 ·intro x hx v h;cases h;exact .nanb _ ‹_›
 ·intro x hx v h;cases h;exact .nanf _ ‹_›
 ·intro s v h;cases h;exact .str s
 ·intro v h;cases h;exact .nilptr
 ·intro b v o l hl x h
  cases h with
  | ptr _ _ _ l' hl'=>exact .ptr _ _ _ _ (Phi.lt_of (hN _ _ _ hl) hl')
 ·intro cells o blk base vs h1 h2 h3 h4 ih x h
  cases h with
  | rp _ _ blk base vs h1 h2 h3 h4=>exact .rp _ _ _ _ _ h1 h2 (ih h3) h4
 ·intro v h;cases h;exact .nilslc
 ·intro b v o n s c l a cap h1 h2 h3 h4 h5 h6 x h
  cases h with
  | slc _ _ _ _ _ _ l' a' cap' g1 g2 g3 g4 g5 g6=>exact .slc _ _ _ _ _ _ _ _ _ (Phi.lt_of (hN _ _ _ h1) g1) g2 g3 g4 g5 g6
 ·intro n s cells blk base cap spot vs h1 h2 h3 h4 h5 h6 h7 h8 ih x h
  cases h with
  | vs _ _ _ blk base cap spot vs h1 h2 h3 h4 h5 h6 h7 h8=>exact .vs _ _ _ _ _ _ _ _ h1 h2 h3 h4 h5 h6 (ih h7) h8
 ·intro f first caps vs1 vs2 h1 h2 i1 i2 x h
  cases h with
  | fn _ _ _ vs1 vs2 g1 g2=>exact .fn _ _ _ _ _ (i1 g1) (i2 g2)
 ·intro v h;cases h;exact .nilfn
 ·intro t a v h1 ih x h
  cases h with
  | ifc _ _ v g=>exact .ifc _ _ _ (ih g)
 ·intro v h;cases h;exact .nilifc
 ·intro vs h;cases h;exact .nil
 ·intro a v l vs h1 h2 i1 i2 us h
  cases h with
  | cons _ _ _ _ g1 g2=>exact .cons _ _ _ _ (i1 g1) (i2 g2)
theorem VRL.cut (hN:Under φ0 N):∀ {l:List AS} {vs0 vs:List Value},VRL φ0 O0 w0 l vs0→VRL φ O w l vs→VRL (φ.lt N) O w l vs
 | _,_,_,.nil,.nil=>.nil
 | _,_,_,.cons _ _ _ _ h0 t0,.cons _ _ _ _ h t=>.cons _ _ _ _ (h0.cut hN h) (VRL.cut hN t0 t)
theorem PRL.cut (hN:Under φ0 N):∀ {l:List (Bool × List AS)} {vs0 vs:List Value},PRL φ0 O0 w0 l vs0→PRL φ O w l vs→PRL (φ.lt N) O w l vs
 | _,_,_,.nil,.nil=>.nil
 | _,_,_,.cons _ _ _ _ ⟨us0,h0,_⟩ t0,.cons _ _ _ _ ⟨us,h,e⟩ t=>.cons _ _ _ _ ⟨us,VRL.cut hN h0 h,e⟩ (PRL.cut hN t0 t)
theorem AVR.cut (hN:Under φ0 N) {a:AV} {v0 v:Value} (h0:AVR φ0 O0 w0 a v0) (h:AVR φ O w a v):AVR (φ.lt N) O w a v:=by
 cases h with
 | undef=>exact .undef
 | opq=>exact .opq
 | one a v h=>cases h0 with | one _ _ h0=>exact .one _ _ (h0.cut hN h)
 | agg l vs h=>cases h0 with | agg _ _ h0=>exact .agg _ _ (VRL.cut hN h0 h)
 | tup l vs h=>cases h0 with | tup _ _ h0=>exact .tup _ _ (PRL.cut hN h0 h)
end
theorem Rel.cut {φ:Phi} {h:H} {w:World} (R:Rel φ h w) (N:Nat)
  (hN:∀ b k v e,b < N→h.f b = some k→k.ext v = some e→∃ φ0 O0 w0 vs0,Under φ0 N∧VRL φ0 O0 w0 (k.cells.take e) vs0):Rel (φ.lt N) (h.upto N) w:=by
 have hf:∀ b k,(h.upto N).f b = some k→b < N∧h.f b = some k:=by
  intro b k hb
  simp only [H.upto] at hb
  split at hb
  ·exact ⟨‹_›,hb⟩
  ·cases hb
 have hown:∀ k,Own (φ.lt N) (h.upto N) k→Own φ h k:=by
  rintro k ⟨b,B,v,e,l,h1,h2,h3,h4⟩
  exact ⟨b,B,v,e,l,(hf _ _ h1).2,h2,(Phi.lt_some h3).2,h4⟩
 refine ⟨fun b k hb=>(hf b k hb).1, ?_, ?_, ?_, ?_,fun k hk=>⟨(R.frz k hk).1,fun ho=>(R.frz k hk).2 (hown k ho)⟩⟩
 ·intro b k v e hb he
  obtain ⟨hbN,hb⟩:=hf b k hb
  obtain ⟨l,a1,a2,a3,a4,a5,c,ty,fz,a6,a7,a8,us,a9,a10⟩:=R.blk b k v e hb he
  obtain ⟨φ0,O0,w0,vs0,hu,hv0⟩:=hN b k v e hbN hb he
  refine ⟨l,Phi.lt_of hbN a1,a2,a3,a4,a5,c,ty,fz,a6,a7,a8,us, ?_,a10⟩
  rw [a2] at a9 ⊢
  exact VRL.cut hu hv0 a9
 ·intro b k v e l b' k' v' e' l' h1 h2 h3 h4 h5 h6 h7
  exact R.sep b k v e l b' k' v' e' l' (hf _ _ h1).2 h2 (Phi.lt_some h3).2 (hf _ _ h4).2 h5 (Phi.lt_some h6).2 h7
 ·intro b v l hb
  obtain ⟨h1,h2⟩:=Phi.lt_some hb
  exact ⟨h1,(R.dom _ _ _ h2).2⟩
 ·intro b k v l h1 h2
  exact R.ver b k v l (hf _ _ h1).2 (Phi.lt_some h2).2
theorem Grow.cut {φ0 φ:Phi} {h0 h:H} {w0 w:World} (R0:Rel φ0 h0 w0) (G:Grow φ0 h0 w0 φ h w) {N:Nat} (hN:h0.next ≤ N):Grow φ0 h0 w0 (φ.lt N) (h.upto N) w:=by
 refine ⟨⟨fun b v l hb=>Phi.lt_of (Nat.lt_of_lt_of_le (R0.dom _ _ _ hb).1 hN) (G.sub _ _ _ hb),hN,G.size,G.keep,fun k hk ho=>G.own k hk ?_,G.os,G.tape,G.output,G.keepF,G.F,G.fresh,G.q⟩,fun b v l hb=>G.names b v l (Phi.lt_some hb).2,fun b hb=>G.keepB b fun hn=>hb ?_⟩
 rotate_left
 ·simp only [H.upto]
  split
  ·exact hn
  ·rfl
 obtain ⟨b,B,v,e,l,h1,h2,h3,h4⟩:=ho
 simp only [H.upto] at h1
 split at h1
 ·exact ⟨b,B,v,e,l,h1,h2,(Phi.lt_some h3).2,h4⟩
 ·cases h1
def Phi.join (φ φ':Phi) (N:Nat):Phi:=⟨fun b v=>if N ≤ b then φ b v else φ' b v,φ'.F,φ.q⟩
def H.join (h h':H) (M:Nat):H:=⟨M,fun b=>if h'.next ≤ b then h.f b else h'.f b⟩
theorem Rel.join {φ φ':Phi} {h h':H} {w w':World} {N M:Nat} (R:Rel φ h w) (R':Rel φ' h' w') (G:Grow0 (φ.lt N) (h.upto N) w φ' h' w') (hM:h.next ≤ M) (hM':h'.next ≤ M)
  (hp:∀ b,N ≤ b→(h.f b ≠ none ∨ ∃ v,φ b v ≠ none)→h'.next ≤ b):Rel (φ.join φ' h'.next) (h.join h' M) w'∧Grow0 φ h w (φ.join φ' h'.next) (h.join h' M) w':=by
 have hNn:N ≤ h'.next:=G.next
 have hJ:∀ b k,(h.join h' M).f b = some k→(h'.next ≤ b∧h.f b = some k) ∨ (b < h'.next∧h'.f b = some k):=by
  intro b k hb
  simp only [H.join] at hb
  split at hb
  ·exact .inl ⟨‹_›,hb⟩
  ·exact .inr ⟨by omega,hb⟩
 have hφJ:∀ b v l,φ.join φ' h'.next b v = some l→(h'.next ≤ b∧φ b v = some l) ∨ (b < h'.next∧φ' b v = some l):=by
  intro b v l hb
  simp only [Phi.join] at hb
  split at hb
  ·exact .inl ⟨‹_›,hb⟩
  ·exact .inr ⟨by omega,hb⟩
 have hsub:∀ b v l,φ b v = some l→φ.join φ' h'.next b v = some l:=by
  intro b v l hb
  simp only [Phi.join]
  split
  ·exact hb
  ·rename_i hlt
   by_cases hbN:b < N
   ·exact G.sub _ _ _ (Phi.lt_of hbN hb)
   ·exact absurd (hp b (by omega) (.inr ⟨v,by simp [hb]⟩)) hlt
 have hsub':∀ b v l,φ' b v = some l→φ.join φ' h'.next b v = some l:=by
  intro b v l hb
  simp only [Phi.join]
  rw [if_neg (by have:=(R'.dom _ _ _ hb).1;omega)]
  exact hb
 have hcut:∀ k,Own (φ.lt N) (h.upto N) k→Own φ h k:=by
  rintro k ⟨b,B,v,e,l,h1,h2,h3,h4⟩
  simp only [H.upto] at h1
  split at h1
  ·exact ⟨b,B,v,e,l,h1,h2,(Phi.lt_some h3).2,h4⟩
  ·cases h1
 have happ:∀ b k v e l,h'.next ≤ b→h.f b = some k→k.ext v = some e→φ b v = some l→¬ Own (φ.lt N) (h.upto N) l.blk:=by
  rintro b k v e l hb h1 h2 h3 ⟨b',k',v',e',l',g1,g2,g3,g4⟩
  simp only [H.upto] at g1
  split at g1
  ·rename_i hlt
   have:=(R.sep b k v e l b' k' v' e' l' h1 h2 h3 g1 g2 (Phi.lt_some g3).2 g4.symm).1
   omega
  ·cases g1
 have hownJ:∀ k,Own (φ.join φ' h'.next) (h.join h' M) k→(∃ b B v e l,h'.next ≤ b∧h.f b = some B∧B.ext v = some e∧φ b v = some l∧l.blk = k) ∨ Own φ' h' k:=by
  rintro k ⟨b,B,v,e,l,h1,h2,h3,h4⟩
  rcases hJ _ _ h1 with ⟨a1,a2⟩ | ⟨a1,a2⟩ <;> rcases hφJ _ _ _ h3 with ⟨b1,b2⟩ | ⟨b1,b2⟩
  ·exact .inl ⟨b,B,v,e,l,a1,a2,h2,b2,h4⟩
  ·omega
  ·omega
  ·exact .inr ⟨b,B,v,e,l,a2,h2,b2,h4⟩
 have GG:Grow0 φ h w (φ.join φ' h'.next) (h.join h' M) w':=by
  refine ⟨hsub,hM,G.size,fun k hk ho=>G.keep k hk (fun h=>ho (hcut k h)),fun k hk ho=>?_,G.os,G.tape,G.output,G.keepF,G.F,G.fresh,rfl⟩
  rcases hownJ k ho with ⟨b,B,v,e,l,a1,a2,a3,a4,a5⟩ | ho
  ·exact ⟨b,B,v,e,l,a2,a3,a4,a5⟩
  ·exact hcut k (G.own k hk ho)
 refine ⟨⟨?_, ?_, ?_, ?_, ?_, ?_⟩,GG⟩
 ·intro b k hb
  rcases hJ _ _ hb with ⟨a1,a2⟩ | ⟨a1,a2⟩
  ·exact Nat.lt_of_lt_of_le (R.lt _ _ a2) hM
  ·exact Nat.lt_of_lt_of_le a1 hM'
 ·intro b k v e hb he
  rcases hJ _ _ hb with ⟨b1,b2⟩ | ⟨b1,b2⟩
  ·obtain ⟨l,a1,a2,a3,a4,a5,c,ty,fz,a6,a7,a8,us,a9,a10⟩:=R.blk b k v e b2 he
   refine ⟨l,hsub _ _ _ a1,a2,a3,a4,a5,c,ty,fz, ?_,a7,a8,us,GG.vrl a9,a10⟩
   rw [G.keep _ (R.dom _ _ _ a1).2 (happ b k v e l b1 b2 he a1)];exact a6
  ·obtain ⟨l,a1,a2,a3,a4,a5,c,ty,fz,a6,a7,a8,us,a9,a10⟩:=R'.blk b k v e b2 he
   exact ⟨l,hsub' _ _ _ a1,a2,a3,a4,a5,c,ty,fz,a6,a7,a8,us,a9.mono hsub' (Nat.le_refl _) (fun _ _ _=>rfl) (fun _ _ h=>h),a10⟩
 ·intro b k v e l b' k' v' e' l' h1 h2 h3 h4 h5 h6 h7
  rcases hJ _ _ h1 with ⟨a1,a2⟩ | ⟨a1,a2⟩ <;> rcases hφJ _ _ _ h3 with ⟨b1,b2⟩ | ⟨b1,b2⟩ <;> (try omega) <;>
  rcases hJ _ _ h4 with ⟨c1,c2⟩ | ⟨c1,c2⟩ <;> rcases hφJ _ _ _ h6 with ⟨d1,d2⟩ | ⟨d1,d2⟩ <;> (try omega)
  ·exact R.sep b k v e l b' k' v' e' l' a2 h2 b2 c2 h5 d2 h7
  ·exact absurd (G.own _ (R.dom _ _ _ b2).2 (h7 ▸ ⟨b',k',v',e',l',c2,h5,d2,rfl⟩)) (happ b k v e l a1 a2 h2 b2)
  ·exact absurd (G.own _ (R.dom _ _ _ d2).2 (h7 ▸ ⟨b,k,v,e,l,a2,h2,b2,rfl⟩)) (happ b' k' v' e' l' c1 c2 h5 d2)
  ·exact R'.sep b k v e l b' k' v' e' l' a2 h2 b2 c2 h5 d2 h7
 ·intro b v l hb
  rcases hφJ _ _ _ hb with ⟨b1,b2⟩ | ⟨b1,b2⟩
  ·have:=R.dom _ _ _ b2;have:=G.size;exact ⟨by simp only [H.join];omega,by omega⟩
  ·have:=R'.dom _ _ _ b2;exact ⟨by simp only [H.join];omega,by omega⟩
 ·intro b k v l h1 h2
  rcases hJ _ _ h1 with ⟨a1,a2⟩ | ⟨a1,a2⟩ <;> rcases hφJ _ _ _ h2 with ⟨b1,b2⟩ | ⟨b1,b2⟩ <;> (try omega)
  ·exact R.ver _ _ _ _ a2 b2
  ·exact R'.ver _ _ _ _ a2 b2
 ·intro k hk
  have hk':φ'.F k:=hk
  refine ⟨(R'.frz k hk').1,fun ho=>?_⟩
  rcases hownJ k ho with ⟨b,B,v,e,l,a1,a2,a3,a4,rfl⟩ | ho
  ·have hlt:=(R.dom _ _ _ a4).2
   exact (R.frz _ (G.fresh _ hlt hk')).2 ⟨b,B,v,e,l,a2,a3,a4,rfl⟩
  ·exact (R'.frz k hk').2 ho
end Go.Ab
namespace Go.Ab
section
variable {P:Program} {cmp:Nat→Option (List AS)} {fr fr2:Fr} {h:H} {o:Oper} {r:OR}
theorem ev_congr {x:Operand} (hx:∀ t,x = .tmp t→Fr.get fr t = Fr.get fr2 t):ev fr x = ev fr2 x:=by
 cases x <;> simp [ev]
 exact hx _ rfl
theorem evS_congr {x:Operand} (hx:∀ t,x = .tmp t→Fr.get fr t = Fr.get fr2 t):evS fr x = evS fr2 x:=by
 simp only [evS,ev_congr hx]
theorem evL_congr:∀ {l:List Operand},(∀ t,.tmp t ∈ l→Fr.get fr t = Fr.get fr2 t)→evL fr l = evL fr2 l
 | [],_=>rfl
 | x::l,hl=>by
  simp only [evL]
  rw [ev_congr fun t ht=>hl t (by simp [ht]),evL_congr fun t ht=>hl t (by simp [ht])]
theorem evSL_congr:∀ {l:List Operand},(∀ t,.tmp t ∈ l→Fr.get fr t = Fr.get fr2 t)→evSL fr l = evSL fr2 l
 | [],_=>rfl
 | x::l,hl=>by
  simp only [evSL]
  rw [evS_congr fun t ht=>hl t (by simp [ht]),evSL_congr fun t ht=>hl t (by simp [ht])]
theorem evO_congr {x:Option Operand} (hx:∀ t,x = some (.tmp t)→Fr.get fr t = Fr.get fr2 t):evO fr x = evO fr2 x:=by
 cases x with
 | none=>rfl
 | some x=>simp only [evO];rw [ev_congr fun t ht=>hx t (by rw [ht])]
theorem parts_congr {place:Nat→Option (Nat × Nat)}:∀ {l:List (Nat × Operand)} {z:List AS},(∀ t i,(i,.tmp t) ∈ l→Fr.get fr t = Fr.get fr2 t)→parts place fr l z = parts place fr2 l z
 | [],z,_=>rfl
 | (i,x)::l,z,hl=>by
  simp only [parts]
  rw [ev_congr fun t ht=>hl t i (by simp [ht])]
  have:=fun z=>parts_congr (place:=place) (l:=l) (z:=z) fun t i ht=>hl t i (by simp [ht])
  simp only [this]
theorem opA_congr (hf:∀ t,Operand.tmp t ∈ o.op.operands.toList→Fr.get fr t = Fr.get fr2 t):opA P cmp fr h o = opA P cmp fr2 h o:=by
 obtain ⟨dst,op,type,pos,after,guard⟩:=o
 cases op <;> simp only [Op.operands] at hf <;> simp only [opA]
 case move x=>rw [ev_congr fun t ht=>hf t (by simp [ht])]
 case assign x=>rw [ev_congr fun t ht=>hf t (by simp [ht])]
 case pick c x y =>
  rw [evS_congr fun t ht=>hf t (by simp [ht])]
  have hx:∀ b:Bool,ev fr (if b then x else y) = ev fr2 (if b then x else y):=fun b=>by
   cases b
   ·exact ev_congr fun t ht=>hf t (by simp at ht;simp [ht])
   ·exact ev_congr fun t ht=>hf t (by simp at ht;simp [ht])
  simp only [hx]
 case box t x=>rw [ev_congr fun t ht=>hf t (by simp [ht])]
 case build t ps =>
  have:=fun place z=>parts_congr (fr:=fr) (fr2:=fr2) (place:=place) (l:=ps.toList) (z:=z) fun t i ht=>hf t (by simp;exact ⟨i,by simpa using ht⟩)
  simp only [this]
 case buildSlice t n ps =>
  have:=fun place z=>parts_congr (fr:=fr) (fr2:=fr2) (place:=place) (l:=ps.toList) (z:=z) fun t i ht=>hf t (by simp;exact ⟨i,by simpa using ht⟩)
  simp only [this]
 case load t x=>rw [evS_congr fun t ht=>hf t (by simp [ht])]
 case store t x y=>rw [evS_congr fun t ht=>hf t (by simp [ht]),ev_congr fun t ht=>hf t (by simp [ht])]
 case nilCheck x=>rw [evS_congr fun t ht=>hf t (by simp [ht])]
 case binOp op t x y u=>rw [ev_congr (x:=x) fun t ht=>hf t (by simp [ht]),ev_congr (x:=y) fun t ht=>hf t (by simp [ht])]
 case unOp op t x=>rw [ev_congr fun t ht=>hf t (by simp [ht])]
 case convert s d x=>rw [evS_congr fun t ht=>hf t (by simp [ht])]
 case makeInterface t x=>rw [evS_congr fun t ht=>hf t (by simp [ht])]
 case makeFunc f x y =>
  cases f <;> simp only []
  rw [evSL_congr (l:=x.toList) fun t ht=>hf t (by simp at ht ⊢;exact .inl ht),evSL_congr (l:=y.toList) fun t ht=>hf t (by simp at ht ⊢;exact .inr ht)]
 case makeSlice t x y=>rw [evS_congr (x:=x) fun t ht=>hf t (by simp [ht]),evS_congr (x:=y) fun t ht=>hf t (by simp [ht])]
 case slice t x lo hi mx =>
  rw [evS_congr fun t ht=>hf t (by simp [ht]),evO_congr (x:=lo) fun t ht=>hf t (by simp [ht]),evO_congr (x:=hi) fun t ht=>hf t (by simp [ht]),evO_congr (x:=mx) fun t ht=>hf t (by simp [ht])]
 case fieldAddr t x i=>rw [evS_congr fun t ht=>hf t (by simp [ht])]
 case field t x i=>rw [ev_congr fun t ht=>hf t (by simp [ht])]
 case indexAddr t x y=>rw [evS_congr (x:=x) fun t ht=>hf t (by simp [ht]),evS_congr (x:=y) fun t ht=>hf t (by simp [ht])]
 case index t x y=>rw [evS_congr (x:=x) fun t ht=>hf t (by simp [ht]),evS_congr (x:=y) fun t ht=>hf t (by simp [ht])]
 case extract x i=>rw [ev_congr fun t ht=>hf t (by simp [ht])]
 case call c =>
  unfold callA
  split
  ·rw [evSL_congr fun t ht=>hf t (by simp [Call.operands] at ht ⊢;simp [ht])]
  ·rename_i f hc
   rw [evS_congr fun t ht=>hf t (by simp [Call.operands,hc,ht]),evL_congr fun t ht=>hf t (by simp [Call.operands,hc] at ht ⊢;simp [ht])]
  ·rfl
 case panic x=>rw [evS_congr fun t ht=>hf t (by simp [ht])]
theorem runO_congr {C:Conf} {calls:Calls'} (hf:∀ t,Operand.tmp t ∈ o.op.operands.toList→Fr.get fr t = Fr.get fr2 t):runO C calls fr h o = runO C calls fr2 h o:=by
 unfold runO;rw [opA_congr hf]
theorem wantedA_congr {ops:List Oper} (hf:∀ j want q d,o.guard = some (j,want)→ops[j]? = some q→q.dst = some d→Fr.get fr d = Fr.get fr2 d):wantedA fr ops o = wantedA fr2 ops o:=by
 unfold wantedA
 cases hg:o.guard with
 | none=>rfl
 | some g =>
  obtain ⟨j,want⟩:=g
  cases hq:ops[j]? with
  | none=>simp [hq]
  | some q =>
   cases hd:q.dst with
   | none=>simp [hq,hd]
   | some d=>simp [hq,hd,hf j want q d hg hq hd]
theorem pure_any (hc:clsOf P o = .pure) (hr:opA P cmp fr h o = some r):∃ v,r = .val v h∧∀ h2,opA P cmp fr h2 o = some (.val v h2):=by
 obtain ⟨dst,op,type,pos,after,guard⟩:=o
 cases op <;> simp only [clsOf,reduceCtorEq] at hc <;> simp only [opA,oqE,oqB,oqI,reduceCtorEq] at hr ⊢
 case move x=>obtain ⟨v,hv,rfl⟩:=hr;exact ⟨v,rfl,fun h2=>⟨v,hv,rfl⟩⟩
 case assign x=>obtain ⟨v,hv,rfl⟩:=hr;exact ⟨v,rfl,fun h2=>⟨v,hv,rfl⟩⟩
 case pick c x y =>
  obtain ⟨s,hs,hr⟩:=hr
  split at hr
  ·rename_i b
   simp only [oqB,oqI] at hr
   obtain ⟨v,hv,rfl⟩:=hr
   exact ⟨v,rfl,fun h2=>⟨_,hs,by simp only [oqB,oqI];exact ⟨v,hv,rfl⟩⟩⟩
  ·cases hr
 case build t ps =>
  obtain ⟨d,hd,hr⟩:=hr
  split at hr
  ·split at hr
   ·rename_i hlt
    simp only [oqB,oqI] at hr
    obtain ⟨z,hz,l,hl,rfl⟩:=hr
    exact ⟨_,rfl,fun h2=>⟨_,hd,by simp only [if_pos hlt,oqB,oqI];exact ⟨z,hz,l,hl,rfl⟩⟩⟩
   ·cases hr
  ·simp only [oqB,oqI] at hr
   obtain ⟨s,hs,z,hz,l,hl,rfl⟩:=hr
   exact ⟨_,rfl,fun h2=>⟨_,hd,by simp only [oqB,oqI];exact ⟨s,hs,z,hz,l,hl,rfl⟩⟩⟩
  ·cases hr
 case nilCheck x =>
  obtain ⟨s,hs,hr⟩:=hr
  cases s <;> simp only [reduceCtorEq,oqI] at hr <;> subst hr <;> exact ⟨_,rfl,fun h2=>⟨_,hs,rfl⟩⟩
 case binOp op t x y u=>obtain ⟨a,ha,b,hb,s,hs,rfl⟩:=hr;exact ⟨_,rfl,fun h2=>⟨a,ha,b,hb,s,hs,rfl⟩⟩
 case unOp op t x=>obtain ⟨a,ha,s,hs,rfl⟩:=hr;exact ⟨_,rfl,fun h2=>⟨a,ha,s,hs,rfl⟩⟩
 case convert s d x =>
  obtain ⟨a,ha,hr⟩:=hr
  simp only [convA,oqE,oqB] at hr
  obtain ⟨ds,hds,dd,hdd,hr⟩:=hr
  have hgo:∀ h2 q,(do match ← P.underlying s,← P.underlying d,a with
    | _,.int k,.int _ n=>some (one (.int k (k.wrap n)) h2)
    | _,.float .f64,.int _ n=>some (one (.flt (FloatKind.nearest .f64 n)) h2)
    | _,.string,.str b=>some (one (.str b) h2)
    | _,_,_=>none:Option OR) = some q→True:=fun _ _ _=>trivial
  split at hr
  ·simp only [oqI] at hr;subst hr
   exact ⟨_,rfl,fun h2=>⟨_,ha,by simp [convA,hds,hdd,one]⟩⟩
  ·simp only [oqI] at hr;subst hr
   exact ⟨_,rfl,fun h2=>⟨_,ha,by simp [convA,hds,hdd,one]⟩⟩
  ·simp only [oqI] at hr;subst hr
   exact ⟨_,rfl,fun h2=>⟨_,ha,by simp [convA,hds,hdd,one]⟩⟩
  ·simp only [oqI] at hr;subst hr
   exact ⟨_,rfl,fun h2=>⟨_,ha,by simp [convA,hds,hdd,one]⟩⟩
  ·simp [hds,hdd] at hc
  ·simp [hds,hdd] at hc
  ·simp [hds,hdd] at hc
  ·cases hr
 case makeInterface t x =>
  obtain ⟨a,ha,d,hd,hr⟩:=hr
  split at hr
  ·cases hr
  ·rename_i hne
   simp only [oqI] at hr;subst hr
   refine ⟨_,rfl,fun h2=>⟨a,ha,d,hd, ?_⟩⟩
   cases d <;> first | exact absurd rfl (hne _) | rfl
 case makeFunc f x y =>
  cases f <;> simp only [oqB,oqI,reduceCtorEq] at hr ⊢
  obtain ⟨a,ha,b,hb,rfl⟩:=hr
  exact ⟨_,rfl,fun h2=>⟨a,ha,b,hb,rfl⟩⟩
 case fieldAddr t x i =>
  obtain ⟨⟨q,u⟩,hq,n,hn,hr⟩:=hr
  split at hr
  ·cases hr
  ·rename_i hn0
   simp only [oqB] at hr
   obtain ⟨s,hs,hr⟩:=hr
   cases s <;> simp only [reduceCtorEq,oqI] at hr <;> subst hr <;>
    exact ⟨_,rfl,fun h2=>⟨_,hq,n,hn,by rw [if_neg hn0];simp only [oqB];exact ⟨_,hs,rfl⟩⟩⟩
 case field t x i =>
  obtain ⟨⟨q,u⟩,hq,s,hs,hr⟩:=hr
  cases s <;> simp only [reduceCtorEq,oqB,oqI] at hr
  obtain ⟨n,hn,c,hc',g,hg,v,hv,rfl⟩:=hr
  exact ⟨_,rfl,fun h2=>⟨_,hq,_,hs,by simp only [oqB,oqI];exact ⟨n,hn,c,hc',g,hg,v,hv,rfl⟩⟩⟩
 case indexAddr t x y=>obtain ⟨s,hs,j,hj,i,hi,p,hp,rfl⟩:=hr;exact ⟨_,rfl,fun h2=>⟨s,hs,j,hj,i,hi,p,hp,rfl⟩⟩
 case index t x y =>
  obtain ⟨d,hd,hr⟩:=hr
  cases d <;> simp only [reduceCtorEq,oqB] at hr
  obtain ⟨s,hs,hr⟩:=hr
  cases s <;> simp only [reduceCtorEq,oqB,oqI] at hr
  obtain ⟨j,hj,i,hi,c,hc',rfl⟩:=hr
  exact ⟨_,rfl,fun h2=>⟨_,hd,by simp only [oqB];exact ⟨_,hs,by simp only [oqB,oqI];exact ⟨j,hj,i,hi,c,hc',rfl⟩⟩⟩⟩
 case extract x i =>
  obtain ⟨s,hs,hr⟩:=hr
  cases s <;> simp only [reduceCtorEq,oqB] at hr
  obtain ⟨⟨g,l⟩,hp,hr⟩:=hr
  simp only [oqB,oqI] at hr
  obtain ⟨v,hv,rfl⟩:=hr
  exact ⟨_,rfl,fun h2=>⟨_,hs,by simp only [oqB];exact ⟨_,hp,by simp only [oqB,oqI];exact ⟨v,hv,rfl⟩⟩⟩⟩
 case call c =>
  obtain ⟨callee,args,at'⟩:=c
  cases callee with
  | value f=>simp at hc
  | invoke q m=>simp [callA] at hr
  | builtin b =>
   simp only [callA,oqE,oqB] at hr ⊢
   obtain ⟨us,hus,hr⟩:=hr
   suffices ∃ v,r = .val v h∧∀ h2,builtinA P b at'.toList us h2 = some (.val v h2) by
    obtain ⟨v,h1,h2⟩:=this
    exact ⟨v,h1,fun q=>⟨us,hus,h2 q⟩⟩
   unfold builtinA at hr
   split at hr
   ·simp only [oqE,oqB] at hr
    obtain ⟨n,hn,t,ht,d,hd,hr⟩:=hr
    split at hr
    ·simp only [oqI] at hr;subst hr
     exact ⟨_,rfl,fun h2=>by simp [builtinA,hn,ht,hd,one]⟩
    ·cases hr
    ·rename_i hns
     simp only [oqI] at hr;subst hr
     refine ⟨_,rfl,fun h2=>?_⟩
     simp only [builtinA,oqE,hn,ht,hd,oqS]
     rfl
    ·cases hr
   ·simp at hc
   ·simp at hc
   ·simp at hc
   ·simp at hc
   ·simp only [oqE,oqB,oqI] at hr
    obtain ⟨q,hq,rfl⟩:=hr
    exact ⟨_,rfl,fun h2=>by simp [builtinA,hq,one]⟩
   ·simp only [oqE,oqB,oqI] at hr
    obtain ⟨q,hq,rfl⟩:=hr
    exact ⟨_,rfl,fun h2=>by simp [builtinA,hq,one]⟩
   ·cases hr
theorem make_any (hc:clsOf P o = .make) (hr:opA P cmp fr h o = some r) :
  ∃ (mk:Nat→AV) (l:List AS) (b:Bool),r = .val (mk h.next) (h.new (blkOf l b))∧∀ h2,opA P cmp fr h2 o = some (.val (mk h2.next) (h2.new (blkOf l b))):=by
 obtain ⟨dst,op,type,pos,after,guard⟩:=o
 cases op <;> simp only [clsOf,reduceCtorEq] at hc <;> simp only [opA,oqE,oqB,oqI,reduceCtorEq] at hr ⊢
 case alloc t =>
  obtain ⟨z,hz,rfl⟩:=hr
  exact ⟨fun n=>.one (.ptr n 0 0),z,true,rfl,fun h2=>⟨z,hz,rfl⟩⟩
 case box t x =>
  obtain ⟨v,hv,l,hl,rfl⟩:=hr
  exact ⟨fun n=>.one (.ptr n 0 0),l,true,rfl,fun h2=>⟨v,hv,l,hl,rfl⟩⟩
 case buildSlice t n ps =>
  obtain ⟨el,hel,size,hsize,z,hz,hr⟩:=hr
  split at hr
  ·rename_i hcond
   simp only [oqB,oqI] at hr
   obtain ⟨l,hl,rfl⟩:=hr
   exact ⟨fun m=>.one (.slc m 0 0 n size none),l,true,rfl,fun h2=>⟨el,hel,size,hsize,z,hz,by rw [if_pos hcond];simp only [oqB,oqI];exact ⟨l,hl,rfl⟩⟩⟩
  ·cases hr
 case makeSlice t x y =>
  obtain ⟨el,hel,size,hsize,bytes,hbytes,z,hz,x',hx,n,hn,y',hy,m,hm,hr⟩:=hr
  split at hr
  ·rename_i hcond
   simp only [oqI] at hr;subst hr
   exact ⟨fun q=>.one (.slc q 0 0 n size none),repL z m,true,rfl,fun h2=>⟨el,hel,size,hsize,bytes,hbytes,z,hz,x',hx,n,hn,y',hy,m,hm,by rw [if_pos hcond];rfl⟩⟩
  ·cases hr
 case convert s d x =>
  obtain ⟨a,ha,hr⟩:=hr
  simp only [convA,oqE,oqB] at hr
  obtain ⟨ds,hds,dd,hdd,hr⟩:=hr
  split at hr
  ·simp [hds,hdd] at hc
  ·simp [hds,hdd] at hc
  ·simp [hds,hdd] at hc
  ·cases ds <;> simp [hds,hdd] at hc
  ·simp [hds,hdd] at hc
  ·rename_i u b
   split at hr
   ·rename_i hcond
    simp only [oqI] at hr;subst hr
    exact ⟨fun q=>.one (.slc q 0 0 b.length 1 none),b.map byteS,false,rfl,fun h2=>⟨_,ha,by simp [convA,hds,hdd,one,hcond]⟩⟩
   ·cases hr
  ·simp [hds,hdd] at hc
  ·cases hr
 case call c =>
  obtain ⟨callee,args,at'⟩:=c
  cases callee with
  | value f=>simp at hc
  | invoke q m=>simp at hc
  | builtin b=>cases b <;> simp at hc
def Same (φ:Phi) (h h2:H):Prop:=∀ b v l B,φ b v = some l→h.f b = some B→h2.f b = some B
theorem readC_same {φ:Phi} {O:Nat→Prop} {w:World} {h h2:H} (hs:Same φ h h2) {p:AS} {pv:Value} (hp:VR φ O w p pv) {n:Nat} {q:List AS} (hr:readC h p n = some q):readC h2 p n = some q:=by
 cases hp with
 | ptr b v o l hl =>
  simp only [readC,oqE,oqB] at hr ⊢
  obtain ⟨k,hk,hr⟩:=hr
  exact ⟨k,hs b v l k hl hk,hr⟩
 | _=>exact hr
theorem elemsOf_same {φ:Phi} {O:Nat→Prop} {w:World} {h h2:H} (hs:Same φ h h2) {p:AS} {pv:Value} (hp:VR φ O w p pv) {size n:Nat} {q:List AS} (hr:elemsOf h size n p = some q):elemsOf h2 size n p = some q:=by
 cases hp with
 | slc b v o k s c l a cap hl =>
  simp only [elemsOf,readC,oqE] at hr ⊢
  split at hr
  ·rename_i hc
   rw [if_pos hc]
   simp only [oqB] at hr ⊢
   obtain ⟨k,hk,hr⟩:=hr
   exact ⟨k,hs b v l k hl hk,hr⟩
  ·cases hr
 | _=>exact hr
theorem sliceA_same {φ:Phi} {O:Nat→Prop} {w:World} {h h2:H} (hs:Same φ h h2) {p:AS} {pv:Value} (hp:VR φ O w p pv) {size:Nat} {lo hi mx:Option AV} {q:AS} (hr:sliceA h size p lo hi mx = some q):sliceA h2 size p lo hi mx = some q:=by
 cases hp with
 | slc b v o k s c l a cap hl =>
  cases hb:h.f b with
  | some B =>
   have:=hs b v l B hl hb
   simp only [sliceA,hb,this] at hr ⊢
   exact hr
  | none =>
   simp only [sliceA,hb,oqE,Option.bind_none] at hr ⊢
   split at hr
   ·cases hr
   ·rename_i hc
    rw [if_neg hc]
    simp only [oqB] at hr ⊢
    obtain ⟨l',hl',u,hu,hr⟩:=hr
    refine ⟨l',hl',u,hu, ?_⟩
    split at hr
    ·cases hr
    ·rename_i hc2
     rw [if_neg hc2]
     split at hr
     ·exact hr
     ·split at hr
      ·rename_i hc3;rw [if_pos hc3];exact hr
      ·split at hr <;> cases hr
 | _=>exact hr
theorem capA_same {φ:Phi} {O:Nat→Prop} {w:World} {h h2:H} (hs:Same φ h h2) {p:AS} {pv:Value} (hp:VR φ O w p pv) {q:Nat} (hr:capA h p = some q):capA h2 p = some q:=by
 cases hp with
 | slc b v o k s c l a cap hl =>
  cases hb:h.f b with
  | some B =>
   have:=hs b v l B hl hb
   simp only [capA,hb,this] at hr ⊢
   exact hr
  | none =>
   simp only [capA,hb,oqE,Option.bind_none] at hr ⊢
   split at hr
   ·exact hr
   ·cases hr
 | _=>exact hr
theorem read_any {φ:Phi} {O:Nat→Prop} {w:World} {a:Act} (hf:AVL φ O w fr a.tmps.toList) (hc:clsOf P o = .read) {h2:H} (hs:Same φ h h2) (hr:opA P cmp fr h o = some r) :
  ∃ v,r = .val v h∧opA P cmp fr h2 o = some (.val v h2):=by
 obtain ⟨dst,op,type,pos,after,guard⟩:=o
 cases op <;> simp only [clsOf,reduceCtorEq] at hc <;> simp only [opA,oqE,oqB,oqI,reduceCtorEq] at hr ⊢
 case load t x =>
  obtain ⟨p,hp,n,hn,l,hl,g,hg,v,hv,rfl⟩:=hr
  exact ⟨v,rfl,p,hp,n,hn,l,readC_same hs (evS_ok hf hp) hl,g,hg,v,hv,rfl⟩
 case slice t x lo hi mx =>
  obtain ⟨p,hp,size,hsize,hr⟩:=hr
  split at hr
  ·cases hr
  ·rename_i hmx
   simp only [oqB,oqI] at hr
   obtain ⟨lo',hlo,hi',hhi,mx',hmx',s,hss,rfl⟩:=hr
   refine ⟨_,rfl,p,hp,size,hsize, ?_⟩
   rw [if_neg hmx]
   simp only [oqB,oqI]
   exact ⟨lo',hlo,hi',hhi,mx',hmx',s,sliceA_same hs (evS_ok hf hp) hss,rfl⟩
 case convert s d x =>
  obtain ⟨p,hp,hr⟩:=hr
  simp only [convA,oqE,oqB] at hr
  obtain ⟨ds,hds,dd,hdd,hr⟩:=hr
  split at hr
  ·simp [hds,hdd] at hc
  ·simp [hds,hdd] at hc
  ·simp [hds,hdd] at hc
  ·simp only [oqI] at hr;subst hr
   exact ⟨_,rfl,_,hp,by simp [convA,hds,hdd,one]⟩
  ·rename_i u hns
   split at hr
   ·rename_i hcond
    split at hr
    ·cases hr
    ·simp only [oqB,oqI] at hr
     obtain ⟨n,hn,l,hl,b,hb,rfl⟩:=hr
     refine ⟨_,rfl,p,hp, ?_⟩
     replace hl:=elemsOf_same hs (evS_ok hf hp) hl
     cases p <;> first | exact absurd rfl (hns _) | (simp only [convA,oqE,hds,hdd,oqS,if_pos hcond,hn,hl,hb];rfl)
   ·cases hr
  ·simp [hds,hdd] at hc
  ·simp [hds,hdd] at hc
  ·cases hr
 case call c =>
  obtain ⟨callee,args,at'⟩:=c
  cases callee with
  | value f=>simp at hc
  | invoke q m=>simp at hc
  | builtin b =>
   cases b <;> simp at hc
   simp only [callA,oqE,oqB] at hr ⊢
   obtain ⟨us,hus,hr⟩:=hr
   have hvs:=evSL_ok hf hus
   rcases us with _ | ⟨x,_ | ⟨y,l⟩⟩
   ·simp [builtinA] at hr
   ·simp only [builtinA,oqE,oqB] at hr
    obtain ⟨t,ht,d,hd,hr⟩:=hr
    split at hr
    ·simp only [oqB,oqI] at hr
     obtain ⟨c,hcap,rfl⟩:=hr
     have hv1:∃ xv,VR φ O w x xv:=by
      generalize List.map a.eval args.toList = vs at hvs
      cases hvs with | cons _ xv _ _ hx _=>exact ⟨xv,hx⟩
     obtain ⟨xv,hx⟩:=hv1
     replace hcap:=capA_same hs hx hcap
     exact ⟨_,rfl,_,hus,by simp [builtinA,ht,hd,hcap,one]⟩
    ·cases hr
   ·simp [builtinA] at hr
end
end Go.Ab
namespace Go.Ab
def putF (fr:Fr) (dst:Option Nat) (v:AV):Fr:=match dst with | none=>fr | some d=>fr.set d v
theorem put_putF {fr fr':Fr} {dst:Option Nat} {v:AV} (h:Fr.put fr dst v = some fr'):fr' = putF fr dst v∧∀ d,dst = some d→d < fr.length:=by
 cases dst with
 | none=>simp only [Fr.put,oqI] at h;exact ⟨h.symm,fun d hd=>by cases hd⟩
 | some d =>
  simp only [Fr.put] at h
  split at h
  ·simp only [oqI] at h;exact ⟨h.symm,fun d' hd=>by cases hd;assumption⟩
  ·cases h
theorem putF_length (fr:Fr) (dst:Option Nat) (v:AV):(putF fr dst v).length = fr.length:=by cases dst <;> simp [putF]
structure Rec where
 i:Nat
 o:Oper
 fr:Fr
 h:H
 want:Bool
 pan:Bool
 out:AV
 h':H
section
variable (C:Conf) (calls:Calls') (ops:List Oper)
def Rec.fr' (r:Rec):Fr:=if r.pan then r.fr else putF r.fr r.o.dst r.out
def Rec.nh (r:Rec):H:=if r.pan then r.h else r.h'
def Rec.isE (r:Rec):Prop:=r.want = true∧clsOf C.P r.o = .eff
def Rec.isR (r:Rec):Prop:=r.want = true∧clsOf C.P r.o = .read
def Rec.isM (r:Rec):Prop:=r.want = true∧clsOf C.P r.o = .make
structure Rec.Good (r:Rec):Prop where
 op:ops[r.i]? = some r.o
 want:wantedA r.fr ops r.o = some r.want
 dst:r.pan = false→∀ d,r.o.dst = some d→d < r.fr.length
 skip:r.want = false→r.pan = false∧r.out = .undef∧r.h' = r.h
 run:r.want = true→r.pan = false→runO C calls r.fr r.h r.o = some (.ok r.out r.h')
 dead:r.pan = true→r.isE C∧∃ v,r.out = .one v∧runO C calls r.fr r.h r.o = some (.pan v r.h')
 read:r.isR C→ask C r.fr r.o r.h = some r.out∧r.h' = r.h
inductive Tr:List Rec→Fr→H→Fr→H→Prop
 | nil (fr:Fr) (h:H):Tr [] fr h fr h
 | cons (r:Rec) (T:List Rec) (fr2:Fr) (h2:H):r.Good C calls ops→Tr T r.fr' r.nh fr2 h2→Tr (r::T) r.fr r.h fr2 h2
def gh (e:H):List Rec→H
 | []=>e
 | r::V=>gh (if r.want = true∧clsOf C.P r.o ≠ .eff then e.ghost r.h r.h' else e) V
def Seen.adv (s:Seen) (V:List Rec):Seen:=⟨s.effs.map fun e=>(e.1,e.2.1,gh C e.2.2 V),s.rds⟩
def Cross (A:List Nat) (r:Rec) (V:List Rec) (r':Rec):Prop :=
 (r.isE C→r.pan = false→r'.isR C→isAnc A r.i r'.i = true ∨ ask C r'.fr r'.o r.h = some r'.out ∨ ask C r'.fr r'.o (gh C r.h V) = some r'.out) ∧
 (r.isR C→r'.isE C→r'.pan = false→isAnc A r.i r'.i = true ∨ ask C r.fr r.o r'.h' = some r.out)
def CrossS (A:List Nat) (s:Seen) (r':Rec):Prop :=
 (r'.isR C→∀ e ∈ s.effs,isAnc A e.1 r'.i = true ∨ ask C r'.fr r'.o e.2.1 = some r'.out ∨ ask C r'.fr r'.o e.2.2 = some r'.out) ∧
 (r'.isE C→r'.pan = false→∀ q ∈ s.rds,isAnc A q.1 r'.i = true ∨ q.2.1 r'.h' = some q.2.2)
end
section
variable {C:Conf} {calls:Calls'} {ops:List Oper} {A:List Nat}
theorem ask_run {fr:Fr} {o:Oper} {h:H} {v:AV} (hc:clsOf C.P o = .read) (ha:ask C fr o h = some v):runO C calls fr h o = some (.ok v h):=by
 unfold ask at ha
 split at ha
 ·rename_i v' h' hop
  simp only [oqI] at ha;subst ha
  have hh:h' = h:=by
   obtain ⟨dst,op,type,pos,after,guard⟩:=o
   cases op <;> simp only [clsOf,reduceCtorEq] at hc <;> simp only [opA,oqE,oqB,oqI,reduceCtorEq] at hop
   case load t x=>obtain ⟨p,hp,n,hn,l,hl,g,hg,v,hv,e⟩:=hop;cases e;rfl
   case slice t x lo hi mx =>
    obtain ⟨p,hp,size,hsize,hr⟩:=hop
    split at hr
    ·cases hr
    ·simp only [oqB,oqI] at hr
     obtain ⟨lo',hlo,hi',hhi,mx',hmx',s,hss,e⟩:=hr
     cases e;rfl
   case convert s d x =>
    obtain ⟨p,hp,hr⟩:=hop
    simp only [convA,oqE,oqB] at hr
    obtain ⟨ds,hds,dd,hdd,hr⟩:=hr
    split at hr
    ·cases hr;rfl
    ·cases hr;rfl
    ·cases hr;rfl
    ·cases hr;rfl
    ·split at hr
     ·split at hr
      ·cases hr
      ·simp only [oqB,oqI] at hr
       obtain ⟨n,hn,l,hl,b,hb,e⟩:=hr
       cases e;rfl
     ·cases hr
    ·simp [hds,hdd] at hc
    ·simp [hds,hdd] at hc
    ·cases hr
   case call c =>
    obtain ⟨callee,args,at'⟩:=c
    cases callee with
    | value f=>simp at hc
    | invoke q m=>simp at hc
    | builtin b =>
     cases b <;> simp at hc
     simp only [callA,oqE,oqB] at hop
     obtain ⟨us,hus,hr⟩:=hop
     rcases us with _ | ⟨x,_ | ⟨y,l⟩⟩
     ·simp [builtinA] at hr
     ·simp only [builtinA,oqE,oqB] at hr
      obtain ⟨t,ht,d,hd,hr⟩:=hr
      split at hr
      ·simp only [oqB,oqI] at hr
       obtain ⟨c,hcap,e⟩:=hr
       cases e;rfl
      ·cases hr
     ·simp [builtinA] at hr
  subst hh
  simp [runO,hop]
 ·cases ha
theorem CrossS.less {s s':Seen} {r:Rec} (h:CrossS C A s' r) (h1:∀ e ∈ s.effs,e ∈ s'.effs) (h2:∀ e ∈ s.rds,e ∈ s'.rds):CrossS C A s r :=
 ⟨fun hr e he=>h.1 hr e (h1 e he),fun hr hp q hq=>h.2 hr hp q (h2 q hq)⟩
theorem H.ghost_self (e h:H):e.ghost h h = e:=by unfold H.ghost;rw [if_neg (Nat.lt_irrefl _)]
theorem Seen.ghost_self (s:Seen) (h:H):s.ghost h h = s:=by
 cases s;simp only [Seen.ghost,H.ghost_self,List.map_id']
theorem Seen.adv_nil (s:Seen):s.adv C [] = s:=by
 cases s;simp only [Seen.adv,gh,List.map_id']
theorem Seen.adv_cons (s:Seen) (r:Rec) (V:List Rec):s.adv C (r::V) = (if r.want = true∧clsOf C.P r.o ≠ .eff then s.ghost r.h r.h' else s).adv C V:=by
 cases s
 simp only [Seen.adv,gh]
 split <;> simp only [Seen.ghost,List.map_map,Function.comp_def]
theorem crossS_cons {s s':Seen} {r0:Rec} {T:List Rec} (h0:CrossS C A s r0) (hs:∀ V,(∀ e ∈ (s.adv C (r0::V)).effs,e ∈ (s'.adv C V).effs)∧∀ e ∈ s.rds,e ∈ s'.rds)
  (ht:∀ T1 r T2,T = T1++r::T2→CrossS C A (s'.adv C T1) r):∀ T1 r T2,r0::T = T1++r::T2→CrossS C A (s.adv C T1) r
 | [],r,T2,e=>by cases e;rw [Seen.adv_nil];exact h0
 | r1::T1,r,T2,e=>by
  simp only [List.cons_append,List.cons.injEq] at e
  obtain ⟨rfl,e⟩:=e
  exact (ht T1 r T2 e).less (hs T1).1 (hs T1).2
theorem cross_cons {s':Seen} {r0:Rec} {T:List Rec} (h0:∀ V r,CrossS C A (s'.adv C V) r→Cross C A r0 V r) (ht:∀ T1 r T2,T = T1++r::T2→CrossS C A (s'.adv C T1) r)
  (hc:∀ U e V r W,T = U++e::V++r::W→Cross C A e V r):∀ U e V r W,r0::T = U++e::V++r::W→Cross C A e V r
 | [],e,V,r,W,he=>by
  simp only [List.nil_append,List.cons_append,List.cons.injEq] at he
  obtain ⟨rfl,he⟩:=he
  exact h0 V r (ht V r W he)
 | r1::U,e,V,r,W,he=>by
  simp only [List.cons_append,List.cons.injEq] at he
  exact hc U e V r W he.2
theorem good_skip {i:Nat} {o:Oper} {fr fr':Fr} {h:H} (ho:ops[i]? = some o) (hb:wantedA fr ops o = some false) (hput:Fr.put fr o.dst .undef = some fr') :
  (Rec.mk i o fr h false false .undef h).Good C calls ops∧(Rec.mk i o fr h false false .undef h).fr' = fr'∧(Rec.mk i o fr h false false .undef h).nh = h:=by
 obtain ⟨e,hd⟩:=put_putF hput
 exact ⟨⟨ho,hb,fun _=>hd,fun _=>⟨rfl,rfl,rfl⟩,(fun h=>by cases h),(fun h=>by cases h),(fun h=>by cases h.1)⟩,by simp [Rec.fr',e],by simp [Rec.nh]⟩
theorem good_run {i:Nat} {o:Oper} {fr fr':Fr} {h h':H} {v:AV} (ho:ops[i]? = some o) (hb:wantedA fr ops o = some true) (hr:runO C calls fr h o = some (.ok v h')) (hread:clsOf C.P o = .read→ask C fr o h = some v∧h' = h)
  (hput:Fr.put fr o.dst v = some fr'):(Rec.mk i o fr h true false v h').Good C calls ops∧(Rec.mk i o fr h true false v h').fr' = fr'∧(Rec.mk i o fr h true false v h').nh = h':=by
 obtain ⟨e,hd⟩:=put_putF hput
 exact ⟨⟨ho,hb,fun _=>hd,(fun h=>by cases h),fun _ _=>hr,(fun h=>by cases h),fun h=>hread h.2⟩,by simp [Rec.fr',e],by simp [Rec.nh]⟩
theorem Tr.put {r:Rec} {T:List Rec} {fr2:Fr} {h2:H} {fr':Fr} {h':H} (hg:r.Good C calls ops) (hf:r.fr' = fr') (hh:r.nh = h') (ht:Tr C calls ops T fr' h' fr2 h2):Tr C calls ops (r::T) r.fr r.h fr2 h2 :=
 .cons r T fr2 h2 hg (by rw [hf,hh];exact ht)
theorem trace_dead (e:Nat) (v:AS) (frP:Fr) (hP:H):∀ (l:List Nat) (fr:Fr) (h:H) (s:Seen) (x:Ex) (frX:Fr) (hX:H),runD C calls ops A (some (e,v,frP,hP)) l fr h s = some (x,frX,hX) →
  ∃ T fr2 h2,Tr C calls ops T fr h fr2 h2∧(∀ r ∈ T,r.pan = false∧¬ r.isE C)∧(∀ T1 r T2,T = T1++r::T2→CrossS C A (s.adv C T1) r)∧T.map (·.i) = l.filter (fun j=>!isAnc A e j)∧(∀ U e V r W,T = U++e::V++r::W→Cross C A e V r)∧x = .pan v∧hX = hP
 | [],fr,h,s,x,frX,hX,hr=>by
  simp only [runD,oqI,oqM] at hr
  obtain ⟨rfl,rfl,rfl⟩:=hr
  exact ⟨[],fr,h,.nil _ _,by simp,by simp,by simp,by simp,rfl,rfl⟩
 | i::l,fr,h,s,x,frX,hX,hr=>by
  rw [runD] at hr
  split at hr
  ·rename_i hanc
   obtain ⟨T,fr2,h2,h1,h2',hc,h3,h4,h5⟩:=trace_dead e v frP hP l fr h s x frX hX hr
   exact ⟨T,fr2,h2,h1,h2',hc,by simp [hanc,h3],h4,h5⟩
  ·rename_i hanc
   have hanc:isAnc A e i = false:=by simpa using hanc
   simp only [oqE,oqB] at hr
   obtain ⟨o,ho,b,hb,hr⟩:=hr
   cases b with
   | false =>
    simp only [oqF,if_false,oqB] at hr
    obtain ⟨fr1,hput,hr⟩:=hr
    obtain ⟨g1,g2,g3⟩:=good_skip (C:=C) (calls:=calls) (h:=h) ho hb hput
    obtain ⟨T,fr2,h2,h1,h2',hc,h3,h4,h5⟩:=trace_dead e v frP hP l fr1 h s x frX hX hr
    refine ⟨_::T,fr2,h2,Tr.put g1 g2 g3 h1, ?_,crossS_cons ⟨(fun h=>by cases h.1),(fun h=>by cases h.1)⟩ (fun V=>⟨by rw [Seen.adv_cons,if_neg (fun h=>by cases h.1)];exact fun _ h=>h,fun _ h=>h⟩) hc,by simp [hanc,h3],cross_cons (fun V r' _=>⟨(fun h=>by cases h.1),(fun h=>by cases h.1)⟩) hc h4,h5⟩
    intro r hrm
    rcases List.mem_cons.1 hrm with rfl | hrm
    ·exact ⟨rfl,(fun h=>by cases h.1)⟩
    ·exact h2' r hrm
   | true =>
    simp only [if_true] at hr
    split at hr
    ·simp at hr
    ·rename_i hcls
     simp only [oqB] at hr
     obtain ⟨q,hq,hr⟩:=hr
     split at hr
     ·rename_i hall
      simp only [oqB] at hr
      obtain ⟨fr1,hput,hr⟩:=hr
      obtain ⟨g1,g2,g3⟩:=good_run (C:=C) (calls:=calls) ho hb (ask_run hcls hq) (fun _=>⟨hq,rfl⟩) hput
      obtain ⟨T,fr2,h2,h1,h2',hc,h3,h4,h5⟩:=trace_dead e v frP hP l fr1 h _ x frX hX hr
      have hnE:∀ {q:Prop},(clsOf C.P o = .eff)→q:=fun h=>by rw [hcls] at h;cases h
      refine ⟨_::T,fr2,h2,Tr.put g1 g2 g3 h1, ?_,crossS_cons ⟨fun _=>hall,fun h=>hnE h.2⟩ (fun V=>⟨by rw [Seen.adv_cons,if_pos ⟨rfl,fun h=>hnE h⟩,Seen.ghost_self];exact fun _ h=>h,fun _ h=>List.mem_cons_of_mem _ h⟩) hc,by simp [hanc,h3],cross_cons (fun V r' hr'=>⟨fun h=>hnE h.2,fun _ hE hp=>hr'.2 hE hp _ (List.mem_cons_self ..)⟩) hc h4,h5⟩
      intro r hrm
      rcases List.mem_cons.1 hrm with rfl | hrm
      ·exact ⟨rfl,fun h=>hnE h.2⟩
      ·exact h2' r hrm
     ·cases hr
    ·rename_i hne hnr
     simp only [oqB] at hr
     obtain ⟨ro,hro,hr⟩:=hr
     split at hr
     ·rename_i q h1'
      simp only [oqB] at hr
      obtain ⟨fr1,hput,hr⟩:=hr
      obtain ⟨g1,g2,g3⟩:=good_run (C:=C) (calls:=calls) ho hb hro (fun h=>absurd h hnr) hput
      obtain ⟨T,fr2,h2,h1,h2',hc,h3,h4,h5⟩:=trace_dead e v frP hP l fr1 _ _ x frX hX hr
      refine ⟨_::T,fr2,h2,Tr.put g1 g2 g3 h1, ?_,crossS_cons (s':=s.ghost _ _) ⟨(fun h=>absurd h.2 hnr),(fun h=>absurd h.2 hne)⟩ (fun V=>⟨by rw [Seen.adv_cons,if_pos ⟨rfl,hne⟩];exact fun _ h=>h,fun _ h=>h⟩) hc,by simp [hanc,h3],cross_cons (fun V r' _=>⟨(fun h=>absurd h.2 hne),(fun h=>absurd h.2 hnr)⟩) hc h4,h5⟩
      intro r hrm
      rcases List.mem_cons.1 hrm with rfl | hrm
      ·exact ⟨rfl,(fun h=>hne h.2)⟩
      ·exact h2' r hrm
     ·cases hr
theorem trace_live:∀ (l:List Nat) (fr:Fr) (h:H) (s:Seen) (x:Ex) (frX:Fr) (hX:H),runD C calls ops A none l fr h s = some (x,frX,hX) →
  ∃ T fr2 h2,Tr C calls ops T fr h fr2 h2∧(∀ T1 r T2,T = T1++r::T2→CrossS C A (s.adv C T1) r)∧(∀ U e V r W,T = U++e::V++r::W→Cross C A e V r) ∧
   ((x = .normal∧frX = fr2∧hX = h2∧T.map (·.i) = l∧∀ r ∈ T,r.pan = false) ∨
    ∃ v T1 e T2 l1 l2,x = .pan v∧T = T1++e::T2∧e.pan = true∧e.out = .one v∧hX = e.h'∧l = l1++e.i::l2∧T1.map (·.i) = l1∧T2.map (·.i) = l2.filter (fun j=>!isAnc A e.i j) ∧
     (∀ r ∈ T1,r.pan = false)∧∀ r ∈ T2,r.pan = false∧¬ r.isE C)
 | [],fr,h,s,x,frX,hX,hr=>by
  simp only [runD,oqI,oqM] at hr
  obtain ⟨rfl,rfl,rfl⟩:=hr
  exact ⟨[],fr,h,.nil _ _,by simp,by simp,.inl ⟨rfl,rfl,rfl,rfl,by simp⟩⟩
 | i::l,fr,h,s,x,frX,hX,hr=>by
  rw [runD] at hr
  simp only [oqF,if_false,oqE,oqB,Option.isSome_none] at hr
  obtain ⟨o,ho,b,hb,hr⟩:=hr
  have go:∀ (r:Rec) (fr1:Fr) (h1:H) (s':Seen),r.i = i→r.fr = fr→r.h = h→r.pan = false→r.Good C calls ops→r.fr' = fr1→r.nh = h1→CrossS C A s r→(∀ V,(∀ e ∈ (s.adv C (r::V)).effs,e ∈ (s'.adv C V).effs)∧∀ e ∈ s.rds,e ∈ s'.rds) →
    (∀ V r',CrossS C A (s'.adv C V) r'→Cross C A r V r')→runD C calls ops A none l fr1 h1 s' = some (x,frX,hX) →
    ∃ T fr2 h2,Tr C calls ops T fr h fr2 h2∧(∀ T1 r T2,T = T1++r::T2→CrossS C A (s.adv C T1) r)∧(∀ U e V r W,T = U++e::V++r::W→Cross C A e V r) ∧
   ((x = .normal∧frX = fr2∧hX = h2∧T.map (·.i) = i::l∧∀ r ∈ T,r.pan = false) ∨
    ∃ v T1 e T2 l1 l2,x = .pan v∧T = T1++e::T2∧e.pan = true∧e.out = .one v∧hX = e.h'∧i::l = l1++e.i::l2∧T1.map (·.i) = l1∧T2.map (·.i) = l2.filter (fun j=>!isAnc A e.i j) ∧
     (∀ r ∈ T1,r.pan = false)∧∀ r ∈ T2,r.pan = false∧¬ r.isE C):=by
   intro r fr1 h1 s' e1 e2 e3 e4 hg hf hh hcs hse hcr hrun
   obtain ⟨T,fr2,h2,t1,t2,t3,t4⟩:=trace_live l fr1 h1 s' x frX hX hrun
   refine ⟨r::T,fr2,h2,e2 ▸ e3 ▸ Tr.put hg hf hh t1,crossS_cons hcs hse t2,cross_cons hcr t2 t3, ?_⟩
   ·rcases t4 with ⟨a1,a2,a3,a4,a5⟩ | ⟨v,T1,e,T2,l1,l2,a1,a2,a3,a4,a5,a6,a7,a8,a9,a10⟩
    ·refine .inl ⟨a1,a2,a3,by simp [e1,a4],fun r' hr'=>?_⟩
     rcases List.mem_cons.1 hr' with rfl | hr'
     ·exact e4
     ·exact a5 r' hr'
    ·refine .inr ⟨v,r::T1,e,T2,i::l1,l2,a1,by simp [a2],a3,a4,a5,by simp [a6],by simp [e1,a7],a8,fun r' hr'=>?_,a10⟩
     rcases List.mem_cons.1 hr' with rfl | hr'
     ·exact e4
     ·exact a9 r' hr'
  cases b with
  | false =>
   simp only [oqF,if_false,oqB] at hr
   obtain ⟨fr1,hput,hr⟩:=hr
   obtain ⟨g1,g2,g3⟩:=good_skip (C:=C) (calls:=calls) (h:=h) ho hb hput
   exact go _ fr1 h s rfl rfl rfl rfl g1 g2 g3 ⟨(fun h=>by cases h.1),(fun h=>by cases h.1)⟩ (fun V=>⟨by rw [Seen.adv_cons,if_neg (fun h=>by cases h.1)];exact fun _ h=>h,fun _ h=>h⟩) (fun V r' _=>⟨(fun h=>by cases h.1),(fun h=>by cases h.1)⟩) hr
  | true =>
   simp only [if_true] at hr
   split at hr
   ·rename_i hcls
    have hnR:∀ {q:Prop},(clsOf C.P o = .read)→q:=fun h=>by rw [hcls] at h;cases h
    simp only [oqB] at hr
    obtain ⟨ro,hro,hr⟩:=hr
    cases ro with
    | ok v h1 =>
     simp only at hr
     split at hr
     ·rename_i hall
      simp only [oqB] at hr
      obtain ⟨fr1,hput,hr⟩:=hr
      obtain ⟨g1,g2,g3⟩:=good_run (C:=C) (calls:=calls) ho hb hro (fun h=>hnR h) hput
      refine go _ fr1 h1 ⟨(i,h,h)::s.effs,s.rds⟩ rfl rfl rfl rfl g1 g2 g3 ⟨fun h=>hnR h.2,fun _ _=>hall⟩ (fun V=>⟨by rw [Seen.adv_cons,if_neg (fun h=>h.2 hcls)];exact fun _ h=>List.mem_cons_of_mem _ h,fun _ h=>h⟩) (fun V r' hr'=>⟨fun _ _ hR=>?_,fun h=>hnR h.2⟩) hr
      exact hr'.1 hR _ (List.mem_cons_self ..)
     ·cases hr
    | pan v h1 =>
     simp only at hr
     obtain ⟨T,fr2,h2,t1,t2,tc,t3,t4,t5,t6⟩:=trace_dead i v fr h1 l fr h s x frX hX hr
     have hg:(Rec.mk i o fr h true true (.one v) h1).Good C calls ops :=
      ⟨ho,hb,(fun h=>by cases h),(fun h=>by cases h),(fun _ h=>by cases h),fun _=>⟨⟨rfl,hcls⟩,v,rfl,hro⟩,fun h=>hnR h.2⟩
     have hS0:CrossS C A s (Rec.mk i o fr h true true (.one v) h1):=⟨fun h=>hnR h.2,(fun _ h=>by cases h)⟩
     exact ⟨Rec.mk i o fr h true true (.one v) h1::T,fr2,h2,Tr.put hg (by simp [Rec.fr']) (by simp [Rec.nh]) t1,crossS_cons hS0 (fun V=>⟨by rw [Seen.adv_cons,if_neg (fun h=>h.2 hcls)];exact fun _ h=>h,fun _ h=>h⟩) tc,cross_cons (fun V r' _=>⟨(fun _ h=>by cases h),fun h=>hnR h.2⟩) tc t4,.inr ⟨v,[],_,T,[],l,t5,rfl,rfl,rfl,t6,rfl,rfl,t3,by simp,fun r hr=>t2 r hr⟩⟩
   ·rename_i hcls
    have hnE:∀ {q:Prop},(clsOf C.P o = .eff)→q:=fun h=>by rw [hcls] at h;cases h
    simp only [oqB] at hr
    obtain ⟨q,hq,hr⟩:=hr
    split at hr
    ·rename_i hall
     simp only [oqB] at hr
     obtain ⟨fr1,hput,hr⟩:=hr
     obtain ⟨g1,g2,g3⟩:=good_run (C:=C) (calls:=calls) ho hb (ask_run hcls hq) (fun _=>⟨hq,rfl⟩) hput
     refine go _ fr1 h ⟨s.effs,(i,ask C fr o,q)::s.rds⟩ rfl rfl rfl rfl g1 g2 g3 ⟨fun _=>hall,fun h=>hnE h.2⟩ (fun V=>⟨by rw [Seen.adv_cons,if_pos ⟨rfl,fun h=>hnE h⟩,Seen.ghost_self];exact fun _ h=>h,fun _ h=>List.mem_cons_of_mem _ h⟩) (fun V r' hr'=>⟨fun h=>hnE h.2,fun _ hE hp=>?_⟩) hr
     exact hr'.2 hE hp _ (List.mem_cons_self ..)
    ·cases hr
   ·rename_i hne hnr
    simp only [oqB] at hr
    obtain ⟨ro,hro,hr⟩:=hr
    split at hr
    ·rename_i q h1'
     simp only [oqB] at hr
     obtain ⟨fr1,hput,hr⟩:=hr
     obtain ⟨g1,g2,g3⟩:=good_run (C:=C) (calls:=calls) ho hb hro (fun h=>absurd h hnr) hput
     exact go _ fr1 _ (s.ghost h h1') rfl rfl rfl rfl g1 g2 g3 ⟨(fun h=>absurd h.2 hnr),(fun h=>absurd h.2 hne)⟩ (fun V=>⟨by rw [Seen.adv_cons,if_pos ⟨rfl,hne⟩];exact fun _ h=>h,fun _ h=>h⟩) (fun V r' _=>⟨(fun h=>absurd h.2 hne),(fun h=>absurd h.2 hnr)⟩) hr
    ·cases hr
end
end Go.Ab
namespace Go.Ab
theorem foldl_bit (acc:List Nat) (i:Nat):∀ (l:List Edge) (s:Nat),
  ((l.foldl (fun s e=>if Region.binds .any e then s ||| 2 ^ e.on ||| (acc[e.on]?).getD 0 else s) s).testBit i = true ↔
   s.testBit i = true ∨ ∃ e ∈ l,Region.binds .any e = true∧(e.on = i ∨ ((acc[e.on]?).getD 0).testBit i = true))
 | [],s=>by simp
 | e::l,s=>by
  rw [List.foldl_cons,foldl_bit acc i l]
  by_cases hb:Region.binds .any e = true
  ·simp only [hb,if_true,Nat.testBit_or,Bool.or_eq_true,Nat.testBit_two_pow,decide_eq_true_eq,List.mem_cons]
   constructor
   ·rintro (((h | h) | h) | ⟨e',he',h⟩)
    ·exact .inl h
    ·exact .inr ⟨e,.inl rfl,hb,.inl h⟩
    ·exact .inr ⟨e,.inl rfl,hb,.inr h⟩
    ·exact .inr ⟨e',.inr he',h⟩
   ·rintro (h | ⟨e',rfl | he',h1,h2 | h2⟩)
    ·exact .inl (.inl (.inl h))
    ·exact .inl (.inl (.inr h2))
    ·exact .inl (.inr h2)
    ·exact .inr ⟨e',he',h1,.inl h2⟩
    ·exact .inr ⟨e',he',h1,.inr h2⟩
  ·have hb:Region.binds .any e = false:=by simpa using hb
   simp only [hb,oqF,if_false,List.mem_cons]
   constructor
   ·rintro (h | ⟨e',he',h⟩)
    ·exact .inl h
    ·exact .inr ⟨e',.inr he',h⟩
   ·rintro (h | ⟨e',rfl | he',h1,h2⟩)
    ·exact .inl h
    ·rw [hb] at h1;cases h1
    ·exact .inr ⟨e',he',h1,h2⟩
theorem ancs_prefix:∀ (l:List Oper) (acc:List Nat),∃ t,ancs l acc = acc++t∧t.length = l.length
 | [],acc=>⟨[],by simp [ancs]⟩
 | o::l,acc=>by
  obtain ⟨t,h1,h2⟩:=ancs_prefix l (acc++[ancOf acc o])
  exact ⟨ancOf acc o::t,by simp [ancs,h1],by simp [h2]⟩
theorem ancs_bit:∀ (l:List Oper) (acc:List Nat) (k:Nat) (o:Oper),l[k]? = some o→(∀ e ∈ o.after.toList,Region.binds .any e = true→e.on < acc.length + k)→∀ i,
  (isAnc (ancs l acc) i (acc.length + k) = true ↔ ∃ e ∈ o.after.toList,Region.binds .any e = true∧(e.on = i ∨ isAnc (ancs l acc) i e.on = true))
 | [],_,_,_,h,_,_=>by simp at h
 | q::l,acc,0,o,h,hlt,i=>by
  simp only [List.getElem?_cons_zero,oqI] at h;subst h
  obtain ⟨t,h1,h2⟩:=ancs_prefix l (acc++[ancOf acc q])
  have hA:ancs (q::l) acc = acc++(ancOf acc q::t):=by simp [ancs,h1]
  have e1:isAnc (ancs (q::l) acc) i (acc.length + 0) = (ancOf acc q).testBit i:=by
   rw [hA];simp [isAnc]
  rw [e1]
  unfold ancOf
  rw [foldl_bit]
  simp only [Nat.zero_testBit,oqF,false_or]
  refine exists_congr fun e=>and_congr_right fun he=>and_congr_right fun hb=>or_congr_right ?_
  have:=hlt e he hb
  rw [hA]
  simp only [isAnc]
  rw [List.getElem?_append_left (by omega)]
 | q::l,acc,k + 1,o,h,hlt,i=>by
  have:=ancs_bit l (acc++[ancOf acc q]) k o (by simpa using h) (fun e he hb=>by have:=hlt e he hb;simp;omega) i
  simp only [List.length_append,List.length_cons,List.length_nil] at this
  rw [show acc.length + (k + 1) = acc.length + (0 + 1) + k by omega]
  exact this
section
variable {ops:List Oper}
def Back (ops:List Oper):Prop:=∀ j o,ops[j]? = some o→∀ e ∈ o.after.toList,Region.binds .any e = true→e.on < j
theorem anc_iff (hB:Back ops) {j:Nat} {o:Oper} (ho:ops[j]? = some o) (i:Nat):isAnc (ancs ops []) i j = true ↔ ∃ e ∈ o.after.toList,Region.binds .any e = true∧(e.on = i ∨ isAnc (ancs ops []) i e.on = true):=by
 have:=ancs_bit ops [] j o ho (fun e he hb=>by simpa using hB j o ho e he hb) i
 simpa using this
theorem anc_some {i j:Nat} (h:isAnc (ancs ops []) i j = true):∃ o,ops[j]? = some o:=by
 obtain ⟨t,h1,h2⟩:=ancs_prefix ops []
 have hl:(ancs ops []).length = ops.length:=by simp [h1,h2]
 rcases Nat.lt_or_ge j ops.length with hj | hj
 ·exact ⟨_,List.getElem?_eq_getElem hj⟩
 ·have:(ancs ops [])[j]? = none:=List.getElem?_eq_none (by omega)
  simp [isAnc,this] at h
theorem anc_closed (hB:Back ops) {S:Nat→Prop} (hS:∀ j o,S j→ops[j]? = some o→∀ e ∈ o.after.toList,Region.binds .any e = true→S e.on):∀ (j i:Nat),isAnc (ancs ops []) i j = true→S j→S i:=by
 intro j
 induction j using Nat.strongRecOn with
 | _ j ih =>
  intro i h hj
  obtain ⟨o,ho⟩:=anc_some h
  obtain ⟨e,he,hb,h1 | h1⟩:=(anc_iff hB ho i).1 h
  ·exact h1 ▸ hS j o hj ho e he hb
  ·exact ih e.on (hB j o ho e he hb) i h1 (hS j o hj ho e he hb)
theorem okOrder_split:∀ (c1:List Nat) (j:Nat) (c2 seen:List Nat),okOrder ops (c1++j::c2) seen = true→(∃ o,ops[j]? = some o∧∀ e ∈ o.after.toList,Region.binds .any e = true→e.on ∈ seen++c1)∧j ∉ seen++c1
 | [],j,c2,seen,h=>by
  simp only [List.nil_append,okOrder,Bool.and_eq_true,Bool.not_eq_true'] at h
  obtain ⟨⟨h1,h2⟩,_⟩:=h
  refine ⟨?_,by simpa using h2⟩
  split at h1
  ·rename_i o ho
   refine ⟨o,ho,fun e he hb=>?_⟩
   have:=List.all_eq_true.1 h1 e he
   simpa [hb] using this
  ·cases h1
 | i::c1,j,c2,seen,h=>by
  simp only [List.cons_append,okOrder,Bool.and_eq_true] at h
  have:=okOrder_split c1 j c2 (seen++[i]) h.2
  simpa using this
theorem anc_before (hB:Back ops) {c:List Nat} (hc:okOrder ops c [] = true):∀ (j i:Nat) (c1 c2:List Nat),c = c1++j::c2→isAnc (ancs ops []) i j = true→i ∈ c1:=by
 intro j
 induction j using Nat.strongRecOn with
 | _ j ih =>
  intro i c1 c2 h hi
  obtain ⟨⟨o,ho,he⟩,_⟩:=okOrder_split c1 j c2 [] (h ▸ hc)
  obtain ⟨e,hem,hb,h1 | h1⟩:=(anc_iff hB ho i).1 hi
  ·have:=he e hem hb;simpa [h1] using this
  ·have hin:e.on ∈ c1:=by simpa using he e hem hb
   obtain ⟨d1,d2,hd⟩:=List.append_of_mem hin
   have:=ih e.on (hB j o ho e hem hb) i d1 (d2++j::c2) (by rw [h,hd];simp) h1
   rw [hd];simp [this]
theorem okOrder_nodup {c:List Nat} (hc:okOrder ops c [] = true):c.Nodup:=by
 have:∀ (c2 c1:List Nat),c = c1++c2→c1.Nodup→(c1++c2).Nodup:=by
  intro c2
  induction c2 with
  | nil=>intro c1 _ h;simpa using h
  | cons j c2 ih =>
   intro c1 h hn
   have h2:=(okOrder_split c1 j c2 [] (h ▸ hc)).2
   have:=ih (c1++[j]) (by simp [h]) (by
    rw [List.nodup_append]
    exact ⟨hn,by simp,fun a ha b hb=>by simp at hb;subst hb;intro e;subst e;simp at h2;exact h2 ha⟩)
   simpa using this
 have:=this c [] (by simp) (by simp)
 simpa using this
end
end Go.Ab
namespace Go.Ab
theorem get_putF (fr:Fr) (dst:Option Nat) (v:AV) (x:Nat):Fr.get (putF fr dst v) x = if dst = some x∧x < fr.length then v else Fr.get fr x:=by
 cases dst with
 | none=>simp [putF]
 | some d =>
  simp only [putF,Fr.get,oqI,List.getElem?_set]
  by_cases hd:d = x
  ·subst hd
   by_cases hl:d < fr.length
   ·simp [hl]
   ·simp [hl]
  ·simp [hd]
def foldF (p:Rec→Bool):List Rec→Fr→Fr
 | [],fr=>fr
 | r::T,fr=>foldF p T (if p r then putF fr r.o.dst r.out else fr)
theorem foldF_append (p:Rec→Bool):∀ (T1 T2:List Rec) (fr:Fr),foldF p (T1++T2) fr = foldF p T2 (foldF p T1 fr)
 | [],_,_=>rfl
 | r::T1,T2,fr=>by simp only [List.cons_append,foldF];exact foldF_append p T1 T2 _
theorem foldF_length (p:Rec→Bool):∀ (T:List Rec) (fr:Fr),(foldF p T fr).length = fr.length
 | [],_=>rfl
 | r::T,fr=>by
  simp only [foldF];rw [foldF_length p T]
  split
  ·exact putF_length _ _ _
  ·rfl
theorem foldF_get {p q:Rec→Bool} {x:Nat}:∀ (T:List Rec) (f g:Fr),f.length = g.length→Fr.get f x = Fr.get g x→(∀ r ∈ T,r.o.dst = some x→p r = q r)→Fr.get (foldF p T f) x = Fr.get (foldF q T g) x
 | [],_,_,_,h,_=>h
 | r::T,f,g,hl,h,hT=>by
  simp only [foldF]
  refine foldF_get T _ _ ?_ ?_ fun r' hr'=>hT r' (List.mem_cons_of_mem _ hr')
  ·split <;> split <;> simp [putF_length,hl]
  ·by_cases hd:r.o.dst = some x
   ·have:=hT r (List.mem_cons_self ..) hd
    rw [this]
    split
    ·rw [get_putF,get_putF,hl,h]
    ·exact h
   ·have hp:∀ (fr:Fr),Fr.get (putF fr r.o.dst r.out) x = Fr.get fr x:=fun fr=>by rw [get_putF,if_neg (fun h=>hd h.1)]
    split <;> split <;> simp [hp,h]
theorem foldF_none {p:Rec→Bool} {x:Nat} (T:List Rec) (f:Fr) (hT:∀ r ∈ T,r.o.dst = some x→p r = false):Fr.get (foldF p T f) x = Fr.get f x:=by
 have h1:=foldF_get (q:=fun _=>false) T f f rfl (x:=x) rfl hT
 have h2:∀ (T:List Rec) (f:Fr),foldF (fun _=>false) T f = f:=by
  intro T
  induction T with
  | nil=>intro f;rfl
  | cons r T ih=>intro f;simp only [foldF,oqF,if_false];exact ih f
 rw [h1,h2]
theorem fr_ext {f g:Fr} (hl:f.length = g.length) (h:∀ x,Fr.get f x = Fr.get g x):f = g:=by
 apply List.ext_getElem hl
 intro i h1 h2
 have:=h i
 simpa [Fr.get,List.getElem?_eq_getElem h1,List.getElem?_eq_getElem h2] using this
section
variable {C:Conf} {calls:Calls'} {ops:List Oper}
theorem Tr.split:∀ {T1:List Rec} {r:Rec} {T2:List Rec} {fr0:Fr} {h0:H} {fr2:Fr} {h2:H},Tr C calls ops (T1++r::T2) fr0 h0 fr2 h2→Tr C calls ops T1 fr0 h0 r.fr r.h∧r.Good C calls ops∧Tr C calls ops T2 r.fr' r.nh fr2 h2
 | [],r,T2,_,_,_,_,h=>by
  simp only [List.nil_append] at h
  cases h with
  | cons _ _ _ _ hg ht=>exact ⟨.nil _ _,hg,ht⟩
 | q::T1,r,T2,_,_,_,_,h=>by
  simp only [List.cons_append] at h
  cases h with
  | cons _ _ _ _ hg ht =>
   obtain ⟨a1,a2,a3⟩:=Tr.split ht
   exact ⟨.cons q T1 _ _ hg a1,a2,a3⟩
theorem Tr.good {T:List Rec} {fr0:Fr} {h0:H} {fr2:Fr} {h2:H} (h:Tr C calls ops T fr0 h0 fr2 h2) {r:Rec} (hr:r ∈ T):r.Good C calls ops:=by
 obtain ⟨T1,T2,rfl⟩:=List.append_of_mem hr
 exact (Tr.split h).2.1
theorem Tr.frame:∀ {T:List Rec} {fr0:Fr} {h0:H} {fr2:Fr} {h2:H},Tr C calls ops T fr0 h0 fr2 h2→fr2 = foldF (fun q=>!q.pan) T fr0
 | [],_,_,_,_,h=>by cases h;rfl
 | r::T,_,_,_,_,h=>by
  cases h with
  | cons _ _ _ _ hg ht =>
   have:=Tr.frame ht
   rw [this]
   simp only [foldF,Rec.fr']
   congr 1
   by_cases h:r.pan = true <;> simp [h]
theorem frame_ready {A:List Nat} {T1 T2:List Rec} {r:Rec} {fr0:Fr} {h0:H} {fr2:Fr} {h2:H} (ht:Tr C calls ops (T1++r::T2) fr0 h0 fr2 h2) {S:Nat→Bool} (hr:S r.i = false)
  (hup:∀ i,isAnc A i r.i = true→S i = true) (hdown:∀ i,isAnc A r.i i = true→S i = false) (hpan:∀ q ∈ T1++r::T2,q.pan = true→S q.i = false)
  (hcmp:∀ q ∈ T1++r::T2,q.i ≠ r.i→∀ x,q.o.dst = some x→x ∈ touches ops r.o→isAnc A q.i r.i = true ∨ isAnc A r.i q.i = true)
  (h1:∀ q ∈ T1,q.i ≠ r.i∧isAnc A r.i q.i = false∧(q.pan = true→isAnc A q.i r.i = false)) (h2':∀ q ∈ T2,q.i ≠ r.i∧isAnc A q.i r.i = false) (x:Nat) (hx:x ∈ touches ops r.o) :
  Fr.get (foldF (fun q=>S q.i) (T1++r::T2) fr0) x = Fr.get r.fr x:=by
 rw [foldF_append,(Tr.split ht).1.frame]
 have hrest:Fr.get (foldF (fun q=>S q.i) (r::T2) (foldF (fun q=>S q.i) T1 fr0)) x = Fr.get (foldF (fun q=>S q.i) T1 fr0) x:=by
  refine foldF_none _ _ fun q hq hd=>?_
  rcases List.mem_cons.1 hq with rfl | hq
  ·exact hr
  ·have hm:q ∈ T1++r::T2:=List.mem_append.2 (.inr (List.mem_cons_of_mem _ hq))
   rcases hcmp q hm (h2' q hq).1 x hd hx with h | h
   ·rw [(h2' q hq).2] at h;cases h
   ·exact hdown _ h
 rw [hrest]
 refine foldF_get T1 fr0 fr0 rfl rfl fun q hq hd=>?_
 have hm:q ∈ T1++r::T2:=List.mem_append.2 (.inl hq)
 obtain ⟨a1,a2,a3⟩:=h1 q hq
 cases hp:q.pan with
 | true=>simpa using hpan q hm hp
 | false =>
  rcases hcmp q hm a1 x hd hx with h | h
  ·simpa using hup _ h
  ·rw [a2] at h;cases h
theorem frame_done {A:List Nat} {T1 T2:List Rec} {r:Rec} {fr0:Fr} {S:Nat→Bool} (hr:S r.i = false) (hdown:∀ i,isAnc A r.i i = true→S i = false)
  (hcmp:∀ q ∈ T1++r::T2,q.i ≠ r.i→∀ x,q.o.dst = some x→x ∈ touches ops r.o→isAnc A q.i r.i = true ∨ isAnc A r.i q.i = true)
  (h1:∀ q ∈ T1,q.i ≠ r.i) (h2':∀ q ∈ T2,q.i ≠ r.i∧isAnc A q.i r.i = false) (hlen:∀ d,r.o.dst = some d→d < fr0.length) :
  foldF (fun q=>if q.i = r.i then true else S q.i) (T1++r::T2) fr0 = putF (foldF (fun q=>S q.i) (T1++r::T2) fr0) r.o.dst r.out:=by
 apply fr_ext
 ·rw [putF_length,foldF_length,foldF_length]
 ·intro x
  rw [get_putF,foldF_length]
  have hT1:foldF (fun q=>if q.i = r.i then true else S q.i) T1 fr0 = foldF (fun q=>S q.i) T1 fr0:=by
   apply fr_ext
   ·rw [foldF_length,foldF_length]
   ·intro y;exact foldF_get T1 _ _ rfl rfl fun q hq _=>by rw [if_neg (h1 q hq)]
  rw [foldF_append,foldF_append,hT1]
  simp only [foldF,if_true,hr,oqF,if_false]
  by_cases hd:r.o.dst = some x
  ·rw [if_pos ⟨hd,hlen x hd⟩]
   rw [foldF_none _ _ fun q hq hqd=>?_,get_putF,if_pos ⟨hd,by rw [foldF_length];exact hlen x hd⟩]
   have hm:q ∈ T1++r::T2:=List.mem_append.2 (.inr (List.mem_cons_of_mem _ hq))
   have hx:x ∈ touches ops r.o:=by simp [touches,hd]
   rw [if_neg (h2' q hq).1]
   rcases hcmp q hm (h2' q hq).1 x hqd hx with h | h
   ·rw [(h2' q hq).2] at h;cases h
   ·exact hdown _ h
  ·rw [if_neg (fun h=>hd h.1)]
   refine foldF_get T2 _ _ (by rw [putF_length]) ?_ fun q hq _=>by rw [if_neg (h2' q hq).1]
   rw [get_putF,if_neg (fun h=>hd h.1)]
end
end Go.Ab
namespace Go.Ab
def Gh (fr:Fr) (h:H):Prop:=∃ (φ:Phi) (w:World) (a:Act),Rel φ h w∧AVL φ (Nf φ) w fr a.tmps.toList
theorem putF_ok {φ:Phi} {O:Nat→Prop} {w:World} {fr:Fr} {a:Act} (hf:AVL φ O w fr a.tmps.toList) {d:Option Nat} {v:AV} {cv:Value} (hv:AVR φ O w v cv):AVL φ O w (putF fr d v) (a.put d cv).tmps.toList:=by
 cases d with
 | none=>exact hf
 | some d=>simpa [putF,Act.put,Array.toList_setIfInBounds] using hf.set d hv
section
variable {C:Conf} {calls:Calls'} {ops:List Oper}
theorem Rec.Good.gh (hP:OkT C.P) (hC:∀ t z,C.cmp t = some z→CmpT C.P t z) (hc:CallsOk C.P calls) {r:Rec} (g:r.Good C calls ops) (h:Gh r.fr r.h):Gh r.fr' r.nh∧r.h.next ≤ r.nh.next:=by
 obtain ⟨φ,w,a,R,hf⟩:=h
 by_cases hp:r.pan = true
 ·simp only [Rec.fr',Rec.nh,hp,if_true]
  exact ⟨⟨φ,w,a,R,hf⟩,Nat.le_refl _⟩
 ·have hp:r.pan = false:=by simpa using hp
  simp only [Rec.fr',Rec.nh,hp,oqF,if_false]
  cases hw:r.want with
  | false =>
   obtain ⟨_,h2,h3⟩:=g.skip hw
   rw [h2,h3]
   exact ⟨⟨φ,w,_,R,putF_ok hf .undef⟩,Nat.le_refl _⟩
  | true =>
   obtain ⟨φ',cv,w',R',G,hv⟩:=runO_ghost hP hC hc R hf (g.run hw hp)
   exact ⟨⟨φ',w',_,R',putF_ok (G.avl hf) hv⟩,G.next⟩
theorem Tr.gh (hP:OkT C.P) (hC:∀ t z,C.cmp t = some z→CmpT C.P t z) (hc:CallsOk C.P calls):∀ {T:List Rec} {fr0:Fr} {h0:H} {fr2:Fr} {h2:H},Tr C calls ops T fr0 h0 fr2 h2→Gh fr0 h0→Gh fr2 h2∧h0.next ≤ h2.next
 | [],_,_,_,_,h,hg=>by cases h;exact ⟨hg,Nat.le_refl _⟩
 | r::T,_,_,_,_,h,hg=>by
  cases h with
  | cons _ _ _ _ g ht =>
   obtain ⟨h1,h2⟩:=g.gh hP hC hc hg
   obtain ⟨h3,h4⟩:=Tr.gh hP hC hc ht h1
   exact ⟨h3,Nat.le_trans h2 h4⟩
theorem Tr.gh_at (hP:OkT C.P) (hC:∀ t z,C.cmp t = some z→CmpT C.P t z) (hc:CallsOk C.P calls) {T:List Rec} {fr0:Fr} {h0:H} {fr2:Fr} {h2:H} (ht:Tr C calls ops T fr0 h0 fr2 h2) (hg:Gh fr0 h0) {r:Rec} (hr:r ∈ T):Gh r.fr r.h:=by
 obtain ⟨T1,T2,rfl⟩:=List.append_of_mem hr
 exact (Tr.gh hP hC hc (Tr.split ht).1 hg).1
theorem Rec.Good.heap {r:Rec} (g:r.Good C calls ops) (hE:r.isE C→r.pan = true):r.nh = r.h ∨ (r.isM C∧r.pan = false∧∃ l b,r.nh = r.h.new (blkOf l b)∧r.h' = r.h.new (blkOf l b)):=by
 by_cases hp:r.pan = true
 ·left;simp [Rec.nh,hp]
 ·have hp:r.pan = false:=by simpa using hp
  simp only [Rec.nh,hp,oqF,if_false]
  cases hw:r.want with
  | false=>left;exact (g.skip hw).2.2
  | true =>
   have hrun:=g.run hw hp
   simp only [runO,oqE,oqB] at hrun
   obtain ⟨ro,hop,hrun⟩:=hrun
   cases hcls:clsOf C.P r.o with
   | pure =>
    left
    obtain ⟨v,rfl,_⟩:=pure_any hcls hop
    simp only [oqI,RO.ok.injEq] at hrun
    exact hrun.2.symm
   | read=>left;exact (g.read ⟨hw,hcls⟩).2
   | make =>
    right
    obtain ⟨mk,l,b,rfl,_⟩:=make_any hcls hop
    simp only [oqI,RO.ok.injEq] at hrun
    exact ⟨⟨hw,hcls⟩,trivial,l,b,hrun.2.symm,hrun.2.symm⟩
   | eff=>exact absurd (hE ⟨hw,hcls⟩) (by simp [hp])
theorem Tr.seg:∀ {T:List Rec} {fr0:Fr} {h0:H} {fr2:Fr} {h2:H},Tr C calls ops T fr0 h0 fr2 h2→(∀ r ∈ T,r.isE C→r.pan = true)→(∀ b,h0.next ≤ b→h0.f b = none) →
  h0.next ≤ h2.next∧(∀ b,b < h0.next→h2.f b = h0.f b)∧(∀ b,h2.next ≤ b→h2.f b = none)∧(∀ m ∈ T,m.isM C→h0.next ≤ m.h.next∧m.h.next < h2.next) ∧
   ∀ b B,h0.next ≤ b→(h2.f b = some B ↔ ∃ m ∈ T,m.isM C∧b = m.h.next∧m.h'.f b = some B)
 | [],_,_,_,_,h,_,h0=>by
  cases h
  exact ⟨Nat.le_refl _,fun _ _=>rfl,h0,by simp,fun b B hb=>by simp [h0 b hb]⟩
 | r::T,_,_,_,h2,h,hE,h0=>by
  cases h with
  | cons _ _ _ _ g ht =>
   have hE':∀ q ∈ T,q.isE C→q.pan = true:=fun q hq=>hE q (List.mem_cons_of_mem _ hq)
   rcases g.heap (hE r (List.mem_cons_self ..)) with hh | ⟨hM,hp,l,b0,hh,hh'⟩
   ·have hnM:r.isM C→False:=by
     intro hM
     have hp:r.pan = false:=by
      cases hp:r.pan with
      | false=>rfl
      | true =>
       have:=(g.dead hp).1.2
       rw [hM.2] at this;cases this
     have hrun:=g.run hM.1 hp
     simp only [runO,oqE,oqB] at hrun
     obtain ⟨ro,hop,hrun⟩:=hrun
     obtain ⟨mk,l,b,rfl,_⟩:=make_any hM.2 hop
     simp only [oqI,RO.ok.injEq] at hrun
     have:r.nh = r.h.new (blkOf l b):=by simp [Rec.nh,hp,hrun.2]
     rw [hh] at this
     have:=congrArg H.next this
     simp [H.new] at this
    rw [hh] at ht
    obtain ⟨a1,a2,a3,a4,a5⟩:=Tr.seg ht hE' h0
    refine ⟨a1,a2,a3,fun m hm hM=>?_,fun b B hb=>?_⟩
    ·rcases List.mem_cons.1 hm with rfl | hm
     ·exact (hnM hM).elim
     ·exact a4 m hm hM
    ·rw [a5 b B hb]
     constructor
     ·rintro ⟨m,hm,h⟩;exact ⟨m,List.mem_cons_of_mem _ hm,h⟩
     ·rintro ⟨m,hm,h⟩
      rcases List.mem_cons.1 hm with rfl | hm
      ·exact (hnM h.1).elim
      ·exact ⟨m,hm,h⟩
   ·rw [hh] at ht
    have h0':∀ b,(r.h.new (blkOf l b0)).next ≤ b→(r.h.new (blkOf l b0)).f b = none:=by
     intro b hb
     simp only [H.new] at hb ⊢
     rw [if_neg (by omega)];exact h0 b (by omega)
    obtain ⟨a1,a2,a3,a4,a5⟩:=Tr.seg ht hE' h0'
    have hn:(r.h.new (blkOf l b0)).next = r.h.next + 1:=rfl
    rw [hn] at a1 a2 a4 a5
    refine ⟨by omega,fun b hb=>?_,a3,fun m hm hM=>?_,fun b B hb=>?_⟩
    ·rw [a2 b (by omega)];simp only [H.new];rw [if_neg (by omega)]
    ·rcases List.mem_cons.1 hm with rfl | hm
     ·exact ⟨Nat.le_refl _,by omega⟩
     ·have:=a4 m hm hM;omega
    ·by_cases hbe:b = r.h.next
     ·subst hbe
      rw [a2 _ (by omega)]
      constructor
      ·intro hB;exact ⟨r,List.mem_cons_self ..,hM,rfl,by rw [hh'];exact hB⟩
      ·rintro ⟨m,hm,hmM,hme,hB⟩
       rcases List.mem_cons.1 hm with rfl | hm
       ·rw [hh'] at hB;exact hB
       ·have:=a4 m hm hmM;omega
     ·rw [a5 b B (by omega)]
      constructor
      ·rintro ⟨m,hm,h⟩;exact ⟨m,List.mem_cons_of_mem _ hm,h⟩
      ·rintro ⟨m,hm,hmM,hme,hB⟩
       rcases List.mem_cons.1 hm with rfl | hm
       ·exact absurd hme hbe
       ·exact ⟨m,hm,hmM,hme,hB⟩
end
end Go.Ab
namespace Go.Ab
theorem two_splits {α:Type} {T1 T2 T1' T2':List α} {r e:α} (h:T1'++e::T2' = T1++r::T2) (hne:e ≠ r) :
  (∃ V,T1 = T1'++e::V∧T2' = V++r::T2) ∨ (∃ V,T2 = V++e::T2'∧T1' = T1++r::V):=by
 rcases List.append_eq_append_iff.1 h with ⟨as,h1,h2⟩ | ⟨bs,h1,h2⟩
 ·cases as with
  | nil=>simp only [List.nil_append,List.cons.injEq] at h2;exact absurd h2.1 hne
  | cons x V =>
   simp only [List.cons_append,List.cons.injEq] at h2
   obtain ⟨rfl,h2⟩:=h2
   exact .inl ⟨V,h1,h2⟩
 ·cases bs with
  | nil=>simp only [List.nil_append,List.cons.injEq] at h2;exact absurd h2.1.symm hne
  | cons x V =>
   simp only [List.cons_append,List.cons.injEq] at h2
   obtain ⟨rfl,h2⟩:=h2
   exact .inr ⟨V,h2,h1⟩
section
variable {C:Conf} {calls:Calls'} {ops:List Oper} (T:List Rec) (fr0:Fr) (h0:H) (φ0:Phi) (w0:World) (M:Nat)
def Base (C:Conf) (T:List Rec) (h0:H) (S:Nat→Bool) (hb:H):Prop :=
 (hb = h0∧∀ r ∈ T,r.isE C→S r.i = false) ∨ ∃ T1 e T2,T = T1++e::T2∧e.isE C∧e.pan = false∧S e.i = true∧hb = e.h'∧∀ r ∈ T2,r.isE C→S r.i = false
structure Inv (C:Conf) (S:Nat→Bool) (φ:Phi) (hS hb:H) (w:World) (a:Act):Prop where
 rel:Rel φ hS w
 grow:Grow φ0 h0 w0 φ hS w
 fr:AVL φ (Nf φ) w (foldF (fun q=>S q.i) T fr0) a.tmps.toList
 defers:a.defers = []
 next:hS.next = M
 base:Base C T h0 S hb
 heap:∀ b B,hS.f b = some B ↔ (b < hb.next∧hb.f b = some B) ∨ (∃ m ∈ T,m.isM C∧S m.i = true∧hb.next ≤ m.h.next∧b = m.h.next∧m.h'.f b = some B)
 dom:∀ b v l,φ b v = some l→b < hb.next ∨ ∃ m ∈ T,m.isM C∧S m.i = true∧hb.next ≤ m.h.next∧b = m.h.next
end
section
variable {C:Conf} {calls:Calls'} {ops:List Oper} {T:List Rec} {fr0:Fr} {h0:H} {fr2:Fr} {h2:H}
theorem Rec.nh_live {r:Rec} (h:r.pan = false):r.nh = r.h':=by simp [Rec.nh,h]
theorem Rec.isM.live {r:Rec} (g:r.Good C calls ops) (hM:r.isM C):r.pan = false:=by
 cases hp:r.pan with
 | false=>rfl
 | true=>have:=(g.dead hp).1.2;rw [hM.2] at this;cases this
theorem Tr.rise (hP:OkT C.P) (hC:∀ t z,C.cmp t = some z→CmpT C.P t z) (hc:CallsOk C.P calls) {T1 T2:List Rec} {r:Rec} (ht:Tr C calls ops (T1++r::T2) fr0 h0 fr2 h2) (hg:Gh fr0 h0) :
  (∀ q ∈ T1,q.nh.next ≤ r.h.next)∧r.h.next ≤ r.nh.next∧(∀ q ∈ T2,r.nh.next ≤ q.h.next)∧r.nh.next ≤ h2.next∧h0.next ≤ r.h.next:=by
 obtain ⟨a1,a2,a3⟩:=Tr.split ht
 have g1:=Tr.gh hP hC hc a1 hg
 have g2:=a2.gh hP hC hc g1.1
 refine ⟨fun q hq=>?_,g2.2,fun q hq=>?_,(Tr.gh hP hC hc a3 g2.1).2,g1.2⟩
 ·obtain ⟨U,V,rfl⟩:=List.append_of_mem hq
  obtain ⟨b1,b2,b3⟩:=Tr.split a1
  have q1:=Tr.gh hP hC hc b1 hg
  have q2:=b2.gh hP hC hc q1.1
  exact (Tr.gh hP hC hc b3 q2.1).2
 ·obtain ⟨U,V,rfl⟩:=List.append_of_mem hq
  obtain ⟨b1,b2,b3⟩:=Tr.split a3
  exact (Tr.gh hP hC hc b1 g2.1).2
theorem Gh.none {fr:Fr} {h:H} (g:Gh fr h) (b:Nat) (hb:h.next ≤ b):h.f b = none:=by
 obtain ⟨φ,w,a,R,_⟩:=g
 cases hf:h.f b with
 | none=>rfl
 | some k=>have:=R.lt b k hf;omega
theorem Base.seg (hP:OkT C.P) (hC:∀ t z,C.cmp t = some z→CmpT C.P t z) (hc:CallsOk C.P calls) {T1 T2:List Rec} {r:Rec} (hT:T = T1++r::T2) (ht:Tr C calls ops T fr0 h0 fr2 h2) (hg:Gh fr0 h0) {S:Nat→Bool} {hb:H} (hB:Base C T h0 S hb)
  (hr:S r.i = false) (h1:∀ q ∈ T1,q.isE C→q.pan = false→S q.i = true) (hp:∀ q ∈ T,q.pan = true→S q.i = false) (h2':∀ q ∈ T2,q.isE C→S q.i = false) :
  ∃ V fr,Tr C calls ops V fr hb r.fr r.h∧Gh fr hb∧(∀ q ∈ V,q.isE C→q.pan = true)∧(∀ q ∈ V,q ∈ T1)∧∀ m ∈ T,m.isM C→hb.next ≤ m.h.next→m ∈ V ∨ m = r ∨ m ∈ T2:=by
 rcases hB with ⟨rfl,hno⟩ | ⟨U,e,W,he,heE,hep,heS,rfl,hno⟩
 ·subst hT
  refine ⟨T1,fr0,(Tr.split ht).1,hg,fun q hq hE=>?_,fun _ h=>h,fun m hm _ _=>?_⟩
  ·cases hqp:q.pan with
   | true=>rfl
   | false =>
    have:=h1 q hq hE hqp
    rw [hno q (List.mem_append.2 (.inl hq)) hE] at this;cases this
  ·rcases List.mem_append.1 hm with h | h
   ·exact .inl h
   ·rcases List.mem_cons.1 h with h | h
    ·exact .inr (.inl h)
    ·exact .inr (.inr h)
 ·have hne:e ≠ r:=fun h=>by rw [h,hr] at heS;cases heS
  rcases two_splits (he.symm.trans hT) hne with ⟨V,q1,q2⟩ | ⟨V,q1,q2⟩
  ·subst hT
   subst q1
   obtain ⟨a1,a2,a3⟩:=Tr.split ht
   obtain ⟨b1,b2,b3⟩:=Tr.split a1
   have g1:=b2.gh hP hC hc (Tr.gh hP hC hc b1 hg).1
   rw [Rec.nh_live hep] at b3 g1
   refine ⟨V,e.fr',b3,g1.1,fun q hq hE=>?_,fun q hq=>List.mem_append.2 (.inr (List.mem_cons_of_mem _ hq)),fun m hm hM hle=>?_⟩
   ·cases hqp:q.pan with
    | true=>rfl
    | false =>
     have:=h1 q (List.mem_append.2 (.inr (List.mem_cons_of_mem _ hq))) hE hqp
     rw [hno q (by rw [q2];exact List.mem_append.2 (.inl hq)) hE] at this;cases this
   ·rcases List.mem_append.1 hm with h | h
    ·rcases List.mem_append.1 h with h | h
     ·exfalso
      have ht':Tr C calls ops (U++e::(V++r::T2)) fr0 h0 fr2 h2:=by simpa using ht
      have hr1:=(Tr.rise hP hC hc ht' hg).1 m h
      have hr2:=(Tr.rise hP hC hc ht' hg).2.1
      have hgm:=Tr.good ht (List.mem_append.2 (.inl (List.mem_append.2 (.inl h))))
      have hmp:=hM.live hgm
      rcases hgm.heap (fun hE=>by have:=hE.2;rw [hM.2] at this;cases this) with hh | ⟨_,_,l,b,hh,_⟩
      ·have hrun:=hgm.run hM.1 hmp
       simp only [runO,oqE,oqB] at hrun
       obtain ⟨ro,hop,hrun⟩:=hrun
       obtain ⟨mk,l,b,rfl,_⟩:=make_any hM.2 hop
       simp only [oqI,RO.ok.injEq] at hrun
       have e1:m.nh = m.h.new (blkOf l b):=by rw [Rec.nh_live hmp,← hrun.2]
       rw [e1] at hr1
       rw [Rec.nh_live hep] at hr2
       have:(m.h.new (blkOf l b)).next = m.h.next + 1:=rfl
       omega
      ·rw [hh] at hr1
       rw [Rec.nh_live hep] at hr2
       have:(m.h.new (blkOf l b)).next = m.h.next + 1:=rfl
       omega
     ·rcases List.mem_cons.1 h with rfl | h
      ·have:=hM.2;rw [heE.2] at this;cases this
      ·exact .inl h
    ·rcases List.mem_cons.1 h with h | h
     ·exact .inr (.inl h)
     ·exact .inr (.inr h)
  ·exfalso
   have:=h2' e (by rw [q1];exact List.mem_append.2 (.inr (List.mem_cons_self ..))) heE
   rw [heS] at this;cases this
theorem Gh.under {fr:Fr} {h:H} (g:Gh fr h) {b:Nat} {k:Blk} {v e:Nat} (hb:h.f b = some k) (he:k.ext v = some e) {N:Nat} (hN:h.next ≤ N):∃ φ0 O0 w0 vs0,Under φ0 N∧VRL φ0 O0 w0 (k.cells.take e) vs0:=by
 obtain ⟨φ,w,a,R,_⟩:=g
 obtain ⟨l,a1,a2,a3,a4,a5,c,ty,fz,a6,a7,a8,us,a9,a10⟩:=R.blk b k v e hb he
 rw [a2] at a9
 exact ⟨φ,_,w,us,fun b v l hl=>Nat.lt_of_lt_of_le (R.dom b v l hl).1 hN,a9⟩
theorem Inv.cut (hP:OkT C.P) (hC:∀ t z,C.cmp t = some z→CmpT C.P t z) (hc:CallsOk C.P calls) {φ0:Phi} {w0:World} {M:Nat} (R0:Rel φ0 h0 w0) {T1 T2:List Rec} {r:Rec} (hT:T = T1++r::T2) (ht:Tr C calls ops T fr0 h0 fr2 h2) (hg:Gh fr0 h0)
  {S:Nat→Bool} {φ:Phi} {hS hb:H} {w:World} {a:Act} (I:Inv T fr0 h0 φ0 w0 M C S φ hS hb w a)
  (hr:S r.i = false) (h1:∀ q ∈ T1,q.isE C→q.pan = false→S q.i = true) (hp:∀ q ∈ T,q.pan = true→S q.i = false) (h2':∀ q ∈ T2,q.isE C→S q.i = false) :
  Rel (φ.lt r.h.next) (hS.upto r.h.next) w∧Grow φ0 h0 w0 (φ.lt r.h.next) (hS.upto r.h.next) w∧hb.next ≤ r.h.next ∧
   (∀ b,r.h.next ≤ b→(hS.f b ≠ none ∨ ∃ v,φ b v ≠ none)→∃ m ∈ T2,m.isM C∧S m.i = true∧b = m.h.next) ∧
   ((∀ q ∈ T1,q.isM C→S q.i = true)→¬ r.isM C→hS.upto r.h.next = r.h):=by
 obtain ⟨V,frV,hV,gb,hVE,hVT,hVm⟩:=Base.seg hP hC hc hT ht hg I.base hr h1 hp h2'
 obtain ⟨s1,s2,s3,s4,s5⟩:=hV.seg hVE (fun b hb=>gb.none b hb)
 have hrise:=Tr.rise hP hC hc (hT ▸ ht) hg
 have hgr:=Tr.gh_at hP hC hc ht hg (r:=r) (by rw [hT];simp)
 have hpend:∀ b,r.h.next ≤ b→(hS.f b ≠ none ∨ ∃ v,φ b v ≠ none)→∃ m ∈ T2,m.isM C∧S m.i = true∧b = m.h.next:=by
  intro b hbn hx
  have hm:∃ m ∈ T,m.isM C∧S m.i = true∧hb.next ≤ m.h.next∧b = m.h.next:=by
   rcases hx with hx | ⟨v,hx⟩
   ·cases hq:hS.f b with
    | none=>exact absurd hq hx
    | some B =>
     rcases (I.heap b B).1 hq with ⟨hlt,_⟩ | ⟨m,hm,hM,hSm,hle,hbe,_⟩
     ·omega
     ·exact ⟨m,hm,hM,hSm,hle,hbe⟩
   ·cases hq:φ b v with
    | none=>exact absurd hq hx
    | some l =>
     rcases I.dom b v l hq with hlt | hm
     ·omega
     ·exact hm
  obtain ⟨m,hm,hM,hSm,hle,hbe⟩:=hm
  rcases hVm m hm hM hle with h | rfl | h
  ·have:=(s4 m h hM).2;omega
  ·rw [hr] at hSm;cases hSm
  ·exact ⟨m,h,hM,hSm,hbe⟩
 have hunder:∀ b k v e,b < r.h.next→hS.f b = some k→k.ext v = some e→∃ φ0 O0 w0 vs0,Under φ0 r.h.next∧VRL φ0 O0 w0 (k.cells.take e) vs0:=by
  intro b k v e hbn hbk hke
  rcases (I.heap b k).1 hbk with ⟨_,hbb⟩ | ⟨m,hm,hM,hSm,hle,hbe,hmk⟩
  ·exact gb.under hbb hke s1
  ·have hmT:m ∈ V:=by
    rcases hVm m hm hM hle with h | rfl | h
    ·exact h
    ·rw [hr] at hSm;cases hSm
    ·have:=hrise.2.2.1 m h;omega
   have hgm:=Tr.good ht hm
   have hmp:=hM.live hgm
   have ghm:=(hgm.gh hP hC hc (Tr.gh_at hP hC hc ht hg hm)).1
   rw [Rec.nh_live hmp] at ghm
   have hmn:=hrise.1 m (hVT m hmT)
   rw [Rec.nh_live hmp] at hmn
   exact ghm.under hmk hke hmn
 refine ⟨I.rel.cut _ hunder,Grow.cut R0 I.grow hrise.2.2.2.2,s1,hpend,fun hMs hnM=>?_⟩
 have hf:(hS.upto r.h.next).f = r.h.f:=by
  funext b
  simp only [H.upto]
  split
  ·rename_i hbn
   apply Option.ext
   intro B
   rw [I.heap b B]
   by_cases hbb:b < hb.next
   ·rw [s2 b hbb]
    constructor
    ·rintro (⟨_,h⟩ | ⟨m,_,_,_,hle,hbe,_⟩)
     ·exact h
     ·omega
    ·exact fun h=>.inl ⟨hbb,h⟩
   ·rw [s5 b B (by omega)]
    constructor
    ·rintro (⟨h,_⟩ | ⟨m,hm,hM,hSm,hle,hbe,hmk⟩)
     ·omega
     ·rcases hVm m hm hM hle with h | rfl | h
      ·exact ⟨m,h,hM,hbe,hmk⟩
      ·exact absurd hM hnM
      ·have:=hrise.2.2.1 m h;omega
    ·rintro ⟨m,hm,hM,hbe,hmk⟩
     exact .inr ⟨m,by rw [hT];exact List.mem_append.2 (.inl (hVT m hm)),hM,hMs m (hVT m hm) hM,(s4 m hm hM).1,hbe,hmk⟩
  ·rename_i hbn
   exact (hgr.none b (by omega)).symm
 cases hrh:r.h with
 | mk n f =>
  rw [hrh] at hf
  simp only [H.upto] at hf ⊢
  rw [hf]
end
end Go.Ab
namespace Go.Ab
section
variable {C:Conf} {calls:Calls'} {φ:Phi} {h:H} {w:World} {fr:Fr} {a a2:Act}
theorem runO_mask (hP:OkT C.P) (hC:∀ t z,C.cmp t = some z→CmpT C.P t z) (hc:CallsOk C.P calls) (R:Rel φ h w) (hf:AVL φ (Nf φ) w fr a2.tmps.toList) {o:Oper} {r:RO} (he:execOp a.eval o = execOp a2.eval o)
  (hr:runO C calls fr h o = some r) {next:Act→World→Prop} {Q:Exit→Act→World→Prop}
  (hn:∀ v h',r = .ok v h'→∀ φ' cv w',Rel φ' h' w'→Grow φ h w φ' h' w'→AVR φ' (Nf φ') w' v cv→next (a.put o.dst cv) w')
  (hp:∀ v h',r = .pan v h'→∀ φ' w' cv,Rel φ' h' w'→Grow φ h w φ' h' w'→VR φ' (Nf φ') w' v cv→Q (.panic [{ v:=cv,recovered:=false }]) a w') :
  o.wp C.P a w next Q:=by
 unfold Oper.wp
 rw [he]
 simp only [runO,oqE,oqB] at hr
 obtain ⟨r1,hop,hr⟩:=hr
 have hok:=op_ok hP hC R hf hop
 cases r1 with
 | val v h1 =>
  simp only [oqI] at hr;subst hr
  obtain ⟨cv,w',φ',e,hv,R',G⟩:=hok
  rw [e]
  exact hn _ _ rfl φ' cv w' R' G hv
 | skip h1 =>
  simp only [oqI] at hr;subst hr
  obtain ⟨w',φ',e,R',G⟩:=hok
  rw [e]
  exact hn _ _ rfl φ' _ w' R' G .undef
 | call f args h1 =>
  obtain ⟨rfl,cargs,hargs,e⟩:=hok
  rw [e]
  simp only [oqB] at hr
  obtain ⟨cr,hcr,hr⟩:=hr
  refine (hc f args _ cr hcr φ w cargs R hargs).upon ?_ ?_
  ·rintro cv w' ⟨v,h2,φ',rfl,R',G,hv⟩
   simp only [oqI] at hr;subst hr
   exact hn _ _ rfl φ' cv w' R' G hv
  ·rintro ch w' ⟨v,h2,φ',cv,rfl,R',G,hv,rfl⟩
   simp only [oqI] at hr;subst hr
   exact hp _ _ rfl φ' w' cv R' G hv
 | pan v h1 =>
  obtain ⟨rfl,cv,e,hv⟩:=hok
  rw [e]
  simp only [oqI] at hr;subst hr
  exact hp _ _ rfl φ w cv R (Grow.refl _ _ _) hv
def maskF (p:Nat→Bool) (n:Nat) (fr:Fr):Fr:=(List.range n).map fun x=>if p x then Fr.get fr x else .undef
def maskA (p:Nat→Bool) (a:Act):Act:={ a with tmps:=((List.range a.tmps.size).map fun x=>if p x then a.tmps.getD x Go.undef else Go.undef).toArray }
theorem avl_map {φ:Phi} {O:Nat→Prop} {f:Nat→AV} {g:Nat→Value}:∀ (l:List Nat),(∀ x ∈ l,AVR φ O w (f x) (g x))→AVL φ O w (l.map f) (l.map g)
 | [],_=>.nil
 | x::l,h=>.cons _ _ _ _ (h x (List.mem_cons_self ..)) (avl_map l fun y hy=>h y (List.mem_cons_of_mem _ hy))
theorem mask_ok {φ:Phi} {O:Nat→Prop} {p:Nat→Bool} {a:Act} (h:∀ x,p x = true→AVR φ O w (Fr.get fr x) (a.tmps.getD x Go.undef)):AVL φ O w (maskF p a.tmps.size fr) (maskA p a).tmps.toList:=by
 simp only [maskF,maskA]
 refine avl_map _ fun x _=>?_
 by_cases hp:p x = true
 ·rw [if_pos hp,if_pos hp];exact h x hp
 ·rw [if_neg hp,if_neg hp];exact .undef
theorem mask_get {p:Nat→Bool} {n:Nat} {fr:Fr} (hn:fr.length = n) {x:Nat} (hp:p x = true):Fr.get (maskF p n fr) x = Fr.get fr x:=by
 simp only [maskF]
 by_cases hx:x < n
 ·simp [Fr.get,hx,hp]
 ·simp [Fr.get,hx,hn]
theorem mask_eval {p:Nat→Bool} {a:Act} {x:Operand} (h:∀ t,x = .tmp t→p t = true):a.eval x = (maskA p a).eval x:=by
 cases x with
 | tmp t =>
  have:=h t rfl
  simp only [Act.eval,maskA]
  by_cases ht:t < a.tmps.size
  ·simp [ht,this]
  ·simp [ht]
 | _=>rfl
theorem mask_exec {ops:List Oper} {a:Act} {o:Oper} (hs:∀ cs b,o.op ≠ .select cs b):execOp a.eval o = execOp (maskA (fun x=>(touches ops o).contains x) a).eval o:=by
 refine execOp_congr o hs fun x hx=>mask_eval fun t ht=>?_
 subst ht
 have:t ∈ touches ops o:=by
  simp only [touches,List.mem_append]
  refine .inl (.inr ?_)
  simp only [tmpsOf,List.mem_filterMap]
  exact ⟨.tmp t,by simpa using hx,rfl⟩
 simpa using this
theorem runO_noSelect {h:H} {o:Oper} {r:RO} (hr:runO C calls fr h o = some r):∀ cs b,o.op ≠ .select cs b:=by
 intro cs b e
 simp only [runO,oqE,oqB] at hr
 obtain ⟨r1,hop,_⟩:=hr
 obtain ⟨dst,op,type,pos,after,guard⟩:=o
 simp only at e
 subst e
 simp [opA] at hop
end
section
variable {C:Conf} {calls:Calls'} {ops:List Oper} {T:List Rec} {fr0:Fr} {h0:H} {fr2:Fr} {h2:H}
theorem Rec.isM.heap {r:Rec} (g:r.Good C calls ops) (hM:r.isM C):∃ (mk:Nat→AV) (l:List AS) (b:Bool),r.out = mk r.h.next∧r.h' = r.h.new (blkOf l b)∧∀ h2:H,runO C calls r.fr h2 r.o = some (.ok (mk h2.next) (h2.new (blkOf l b))):=by
 have hmp:=hM.live g
 have hrun:=g.run hM.1 hmp
 simp only [runO,oqE,oqB] at hrun
 obtain ⟨ro,hop,hrun⟩:=hrun
 obtain ⟨mk,l,b,rfl,hall⟩:=make_any hM.2 hop
 simp only [oqI,RO.ok.injEq] at hrun
 exact ⟨mk,l,b,hrun.1.symm,hrun.2.symm,fun h2=>by simp [runO,hall h2]⟩
theorem Base.le (hP:OkT C.P) (hC:∀ t z,C.cmp t = some z→CmpT C.P t z) (hc:CallsOk C.P calls) {T1 T2:List Rec} {r:Rec} (hT:T = T1++r::T2) (ht:Tr C calls ops T fr0 h0 fr2 h2) (hg:Gh fr0 h0) {S:Nat→Bool} {hb:H} (hB:Base C T h0 S hb)
  (hr:S r.i = false) (h2':∀ q ∈ T2,q.isE C→S q.i = false):hb.next ≤ r.h.next∧∃ fr,Gh fr hb:=by
 have hrise:=Tr.rise hP hC hc (hT ▸ ht) hg
 rcases hB with ⟨rfl,hno⟩ | ⟨U,e,W,he,heE,hep,heS,rfl,hno⟩
 ·exact ⟨hrise.2.2.2.2,fr0,hg⟩
 ·have hge:=(Tr.good ht (r:=e) (by rw [he];simp)).gh hP hC hc (Tr.gh_at hP hC hc ht hg (by rw [he];simp))
  rw [Rec.nh_live hep] at hge
  refine ⟨?_,_,hge.1⟩
  have hne:e ≠ r:=fun h=>by rw [h,hr] at heS;cases heS
  rcases two_splits (he.symm.trans hT) hne with ⟨V,q1,q2⟩ | ⟨V,q1,q2⟩
  ·have:=hrise.1 e (by rw [q1];simp)
   rwa [Rec.nh_live hep] at this
  ·have:=h2' e (by rw [q1];simp) heE
   rw [heS] at this;cases this
theorem Inv.cut0 (hP:OkT C.P) (hC:∀ t z,C.cmp t = some z→CmpT C.P t z) (hc:CallsOk C.P calls) {φ0:Phi} {w0:World} {M:Nat} (R0:Rel φ0 h0 w0) {T1 T2:List Rec} {r:Rec} (hT:T = T1++r::T2) (ht:Tr C calls ops T fr0 h0 fr2 h2) (hg:Gh fr0 h0)
  {S:Nat→Bool} {φ:Phi} {hS hb:H} {w:World} {a:Act} (I:Inv T fr0 h0 φ0 w0 M C S φ hS hb w a)
  (hr:S r.i = false) (h2':∀ q ∈ T2,q.isE C→S q.i = false) :
  Rel (φ.lt r.h.next) (hS.upto r.h.next) w∧Grow φ0 h0 w0 (φ.lt r.h.next) (hS.upto r.h.next) w∧hb.next ≤ r.h.next ∧
   (∀ b,r.h.next ≤ b→(hS.f b ≠ none ∨ ∃ v,φ b v ≠ none)→∃ m ∈ T2,m.isM C∧S m.i = true∧b = m.h.next):=by
 obtain ⟨s1,frb,gb⟩:=Base.le hP hC hc hT ht hg I.base hr h2'
 have hrise:=Tr.rise hP hC hc (hT ▸ ht) hg
 have hwhere:∀ m ∈ T,m.isM C→S m.i = true→(m ∈ T1∧m.h.next < r.h.next) ∨ (m ∈ T2∧r.h.next ≤ m.h.next):=by
  intro m hm hM hSm
  rw [hT] at hm
  rcases List.mem_append.1 hm with h | h
  ·refine .inl ⟨h, ?_⟩
   have hgm:=Tr.good ht (r:=m) (by rw [hT];exact List.mem_append.2 (.inl h))
   obtain ⟨mk,l,b,e1,e2,_⟩:=hM.heap hgm
   have:=hrise.1 m h
   rw [Rec.nh_live (hM.live hgm),e2] at this
   have h3:(m.h.new (blkOf l b)).next = m.h.next + 1:=rfl
   omega
  ·rcases List.mem_cons.1 h with rfl | h
   ·rw [hr] at hSm;cases hSm
   ·exact .inr ⟨h,Nat.le_trans hrise.2.1 (hrise.2.2.1 m h)⟩
 have hpend:∀ b,r.h.next ≤ b→(hS.f b ≠ none ∨ ∃ v,φ b v ≠ none)→∃ m ∈ T2,m.isM C∧S m.i = true∧b = m.h.next:=by
  intro b hbn hx
  have hm:∃ m ∈ T,m.isM C∧S m.i = true∧b = m.h.next:=by
   rcases hx with hx | ⟨v,hx⟩
   ·cases hq:hS.f b with
    | none=>exact absurd hq hx
    | some B =>
     rcases (I.heap b B).1 hq with ⟨hlt,_⟩ | ⟨m,hm,hM,hSm,hle,hbe,_⟩
     ·omega
     ·exact ⟨m,hm,hM,hSm,hbe⟩
   ·cases hq:φ b v with
    | none=>exact absurd hq hx
    | some l =>
     rcases I.dom b v l hq with hlt | ⟨m,hm,hM,hSm,_,hbe⟩
     ·omega
     ·exact ⟨m,hm,hM,hSm,hbe⟩
  obtain ⟨m,hm,hM,hSm,hbe⟩:=hm
  rcases hwhere m hm hM hSm with ⟨_,h⟩ | ⟨h,_⟩
  ·omega
  ·exact ⟨m,h,hM,hSm,hbe⟩
 refine ⟨I.rel.cut _ ?_,Grow.cut R0 I.grow hrise.2.2.2.2,s1,hpend⟩
 intro b k v e hbn hbk hke
 rcases (I.heap b k).1 hbk with ⟨_,hbb⟩ | ⟨m,hm,hM,hSm,hle,hbe,hmk⟩
 ·exact gb.under hbb hke s1
 ·have hmT:m ∈ T1:=by
   rcases hwhere m hm hM hSm with ⟨h,_⟩ | ⟨_,h⟩
   ·exact h
   ·omega
  have hgm:=Tr.good ht hm
  have ghm:=(hgm.gh hP hC hc (Tr.gh_at hP hC hc ht hg hm)).1
  rw [Rec.nh_live (hM.live hgm)] at ghm
  have hmn:=hrise.1 m hmT
  rw [Rec.nh_live (hM.live hgm)] at hmn
  exact ghm.under hmk hke hmn
theorem Inv.same (hP:OkT C.P) (hC:∀ t z,C.cmp t = some z→CmpT C.P t z) (hc:CallsOk C.P calls) {φ0:Phi} {w0:World} {M:Nat} {T1 T2:List Rec} {r:Rec} (hT:T = T1++r::T2) (ht:Tr C calls ops T fr0 h0 fr2 h2) (hg:Gh fr0 h0)
  {S:Nat→Bool} {φ:Phi} {hS hb:H} {w:World} {a:Act} (I:Inv T fr0 h0 φ0 w0 M C S φ hS hb w a)
  (hr:S r.i = false) (h1:∀ q ∈ T1,q.isE C→q.pan = false→S q.i = true) (hp:∀ q ∈ T,q.pan = true→S q.i = false) (h2':∀ q ∈ T2,q.isE C→S q.i = false):Same φ r.h hS:=by
 obtain ⟨V,frV,hV,gb,hVE,hVT,hVm⟩:=Base.seg hP hC hc hT ht hg I.base hr h1 hp h2'
 obtain ⟨s1,s2,s3,s4,s5⟩:=hV.seg hVE (fun b hb=>gb.none b hb)
 have hrise:=Tr.rise hP hC hc (hT ▸ ht) hg
 have hgr:=Tr.gh_at hP hC hc ht hg (r:=r) (by rw [hT];simp)
 intro b v l B hbv hbB
 have hbn:b < r.h.next:=by
  rcases Nat.lt_or_ge b r.h.next with h | h
  ·exact h
  ·rw [hgr.none b h] at hbB;cases hbB
 rcases I.dom b v l hbv with hlt | ⟨m,hm,hM,hSm,hle,hbe⟩
 ·rw [s2 b hlt] at hbB
  exact (I.heap b B).2 (.inl ⟨hlt,hbB⟩)
 ·have hgm:=Tr.good ht hm
  obtain ⟨mk,l,b',e1,e2,_⟩:=hM.heap hgm
  have hmb:m.h'.f b = some (blkOf l b'):=by rw [e2,hbe];simp [H.new]
  rcases hVm m hm hM hle with h | rfl | h
  ·have:=(s5 b (blkOf l b') (by omega)).2 ⟨m,h,hM,hbe,hmb⟩
   rw [this] at hbB
   rw [← hbB]
   exact (I.heap b _).2 (.inr ⟨m,hm,hM,hSm,hle,hbe,hmb⟩)
  ·rw [hr] at hSm;cases hSm
  ·have:=hrise.2.2.1 m h;have:=hrise.2.1;omega
theorem Inv.same_base {φ0:Phi} {w0:World} {M:Nat} {S:Nat→Bool} {φ:Phi} {hS hb:H} {w:World} {a:Act} (hgb:∀ b,hb.next ≤ b→hb.f b = none) (I:Inv T fr0 h0 φ0 w0 M C S φ hS hb w a):Same φ hb hS:=by
 intro b v l B hbv hbB
 refine (I.heap b B).2 (.inl ⟨?_,hbB⟩)
 rcases Nat.lt_or_ge b hb.next with h | h
 ·exact h
 ·rw [hgb b h] at hbB;cases hbB
end
end Go.Ab
namespace Go.Ab
structure Ctx (C:Conf) (calls:Calls') (ops:List Oper) (A:List Nat) (T:List Rec) (fr0:Fr) (h0:H) (fr2:Fr) (h2:H):Prop where
 tr:Tr C calls ops T fr0 h0 fr2 h2
 cross:∀ U e V r W,T = U++e::V++r::W→Cross C A e V r
 slots:∀ q ∈ T,∀ r ∈ T,q.i ≠ r.i→∀ x,q.o.dst = some x→x ∈ touches ops r.o→isAnc A q.i r.i = true ∨ isAnc A r.i q.i = true
 effs:∀ q ∈ T,∀ r ∈ T,q.isE C→r.isE C→q.i ≠ r.i→isAnc A q.i r.i = true ∨ isAnc A r.i q.i = true
 ord:∀ T1 q T2,T = T1++q::T2→∀ r ∈ T2,isAnc A r.i q.i = false∧r.i ≠ q.i
 sink:∀ T1 e T2,T = T1++e::T2→e.isE C→∀ m ∈ T1,m.isM C→isAnc A m.i e.i = true
structure Lst (A:List Nat) (T:List Rec) (S:Nat→Bool):Prop where
 up:∀ i j,isAnc A i j = true→S j = true→S i = true
 pan:∀ q ∈ T,q.pan = true→S q.i = false
def add (S:Nat→Bool) (k:Nat):Nat→Bool:=fun i=>if i = k then true else S i
section
variable {C:Conf} {calls:Calls'} {ops:List Oper} {A:List Nat} {T:List Rec} {fr0:Fr} {h0:H} {fr2:Fr} {h2:H} {S:Nat→Bool}
theorem Ctx.inj (X:Ctx C calls ops A T fr0 h0 fr2 h2) {q r:Rec} (hq:q ∈ T) (hr:r ∈ T) (he:q.i = r.i):q = r:=by
 obtain ⟨T1,T2,hT⟩:=List.append_of_mem hr
 rw [hT] at hq
 rcases List.mem_append.1 hq with h | h
 ·obtain ⟨U,V,rfl⟩:=List.append_of_mem h
  have:=(X.ord U q (V++r::T2) (by rw [hT];simp) r (by simp)).2
  exact absurd he.symm this
 ·rcases List.mem_cons.1 h with h | h
  ·exact h
  ·exact absurd he (X.ord T1 r T2 hT q h).2
theorem Ctx.behind (X:Ctx C calls ops A T fr0 h0 fr2 h2) {T1 T2:List Rec} {r:Rec} (hT:T = T1++r::T2) {q:Rec} (hq:q ∈ T1):isAnc A r.i q.i = false∧q.i ≠ r.i:=by
 obtain ⟨U,V,rfl⟩:=List.append_of_mem hq
 have:=X.ord U q (V++r::T2) (by rw [hT];simp) r (by simp)
 exact ⟨this.1,fun e=>this.2 e.symm⟩
theorem Ctx.frame (X:Ctx C calls ops A T fr0 h0 fr2 h2) (L:Lst A T S) {T1 T2:List Rec} {r:Rec} (hT:T = T1++r::T2) (hr:S r.i = false) (hup:∀ i,isAnc A i r.i = true→S i = true) :
  ∀ x ∈ touches ops r.o,Fr.get (foldF (fun q=>S q.i) T fr0) x = Fr.get r.fr x:=by
 have hmr:r ∈ T:=by rw [hT];simp
 have hdown:∀ i,isAnc A r.i i = true→S i = false:=by
  intro i hi
  cases hS:S i with
  | false=>rfl
  | true=>rw [L.up _ _ hi hS] at hr;cases hr
 intro x hx
 have:=frame_ready (A:=A) (hT ▸ X.tr) hr hup hdown (fun q hq=>L.pan q (hT ▸ hq)) (fun q hq hne y hd hy=>X.slots q (hT ▸ hq) r hmr hne y hd hy)
  (fun q hq=>⟨(X.behind hT hq).2,(X.behind hT hq).1,fun hp=>by
   cases ha:isAnc A q.i r.i with
   | false=>rfl
   | true=>have:=hup _ ha;rw [L.pan q (by rw [hT];simp [hq]) hp] at this;cases this⟩)
  (fun q hq=>⟨(X.ord T1 r T2 hT q hq).2,(X.ord T1 r T2 hT q hq).1⟩) x hx
 rw [hT];exact this
theorem Ctx.done (X:Ctx C calls ops A T fr0 h0 fr2 h2) (L:Lst A T S) {T1 T2:List Rec} {r:Rec} (hT:T = T1++r::T2) (hr:S r.i = false) (hp:r.pan = false) :
  foldF (fun q=>add S r.i q.i) T fr0 = putF (foldF (fun q=>S q.i) T fr0) r.o.dst r.out:=by
 have hmr:r ∈ T:=by rw [hT];simp
 have hdown:∀ i,isAnc A r.i i = true→S i = false:=by
  intro i hi
  cases hS:S i with
  | false=>rfl
  | true=>rw [L.up _ _ hi hS] at hr;cases hr
 have hlen:r.fr.length = fr0.length:=by
  rw [(Tr.split (hT ▸ X.tr)).1.frame,foldF_length]
 have:=frame_done (ops:=ops) (A:=A) (S:=S) (fr0:=fr0) (T1:=T1) (T2:=T2) hr hdown (fun q hq hne y hd hy=>X.slots q (hT ▸ hq) r hmr hne y hd hy) (fun q hq=>(X.behind hT hq).2)
  (fun q hq=>⟨(X.ord T1 r T2 hT q hq).2,(X.ord T1 r T2 hT q hq).1⟩) (fun d hd=>by rw [← hlen];exact (Tr.good X.tr hmr).dst hp d hd)
 rw [hT];exact this
theorem avl_done (X:Ctx C calls ops A T fr0 h0 fr2 h2) (L:Lst A T S) {T1 T2:List Rec} {r:Rec} (hT:T = T1++r::T2) (hr:S r.i = false) (hp:r.pan = false) {φ:Phi} {w:World} {a:Act} {cv:Value}
  (hf:AVL φ (Nf φ) w (foldF (fun q=>S q.i) T fr0) a.tmps.toList) (hv:AVR φ (Nf φ) w r.out cv):AVL φ (Nf φ) w (foldF (fun q=>add S r.i q.i) T fr0) (a.put r.o.dst cv).tmps.toList:=by
 rw [X.done L hT hr hp]
 exact putF_ok hf hv
theorem put_defers {a:Act} (hd:a.defers = []) (d:Option Nat) (v:Value):(a.put d v).defers = []:=by rw [← hd];cases d <;> rfl
theorem add_ne {S:Nat→Bool} {k i:Nat} (h:i ≠ k):add S k i = S i:=by simp [add,h]
theorem add_self {S:Nat→Bool} {k:Nat}:add S k k = true:=by simp [add]
theorem Inv.still (X:Ctx C calls ops A T fr0 h0 fr2 h2) (L:Lst A T S) {T1 T2:List Rec} {r:Rec} (hT:T = T1++r::T2) (hr:S r.i = false) (hp:r.pan = false) (hE:¬ r.isE C) (hM:¬ r.isM C)
  {φ0:Phi} {w0:World} {M:Nat} {φ φ':Phi} {hS hb:H} {w w':World} {a:Act} (I:Inv T fr0 h0 φ0 w0 M C S φ hS hb w a) {cv:Value} (R':Rel φ' hS w') (G:Grow φ hS w φ' hS w') (hv:AVR φ' (Nf φ') w' r.out cv) :
  Inv T fr0 h0 φ0 w0 M C (add S r.i) φ' hS hb w' (a.put r.o.dst cv):=by
 have hmr:r ∈ T:=by rw [hT];simp
 have hne:∀ m ∈ T,(m.isE C ∨ m.isM C)→add S r.i m.i = S m.i:=by
  intro m hm h
  refine add_ne fun e=>?_
  have:=X.inj hm hmr e
  subst this
  exact h.elim hE hM
 have hiff:∀ b B,(∃ m ∈ T,m.isM C∧add S r.i m.i = true∧hb.next ≤ m.h.next∧b = m.h.next∧m.h'.f b = some B) ↔ (∃ m ∈ T,m.isM C∧S m.i = true∧hb.next ≤ m.h.next∧b = m.h.next∧m.h'.f b = some B) :=
  fun b B=>exists_congr fun m=>and_congr_right fun hm=>and_congr_right fun hM'=>by rw [hne m hm (.inr hM')]
 have hdom:∀ b,(∃ m ∈ T,m.isM C∧S m.i = true∧hb.next ≤ m.h.next∧b = m.h.next)→(∃ m ∈ T,m.isM C∧add S r.i m.i = true∧hb.next ≤ m.h.next∧b = m.h.next):=by
  rintro b ⟨m,hm,hM',h⟩
  exact ⟨m,hm,hM',by rw [hne m hm (.inr hM')];exact h⟩
 refine ⟨R',I.grow.trans G,avl_done X L hT hr hp (G.avl I.fr) hv,put_defers I.defers _ _,I.next, ?_,fun b B=>by rw [hiff];exact I.heap b B,fun b v l hb'=>?_⟩
 ·rcases I.base with ⟨h1,h2⟩ | ⟨U,e,V,h1,h2,h3,h4,h5,h6⟩
  ·exact .inl ⟨h1,fun q hq hqE=>by rw [hne q hq (.inl hqE)];exact h2 q hq hqE⟩
  ·exact .inr ⟨U,e,V,h1,h2,h3,by rw [hne e (by rw [h1];simp) (.inl h2)];exact h4,h5,fun q hq hqE=>by rw [hne q (by rw [h1];simp [hq]) (.inl hqE)];exact h6 q hq hqE⟩
 ·have hlt:=(R'.dom b v l hb').1
  rcases G.names b v l hb' with h | h | h
  ·exact (I.dom b v l h).imp id (hdom b)
  ·omega
  ·cases hq:hS.f b with
   | none=>exact absurd hq h
   | some B =>
    rcases (I.heap b B).1 hq with ⟨h1,_⟩ | ⟨m,hm,h1,h2,h3,h4,_⟩
    ·exact .inl h1
    ·exact .inr (hdom b ⟨m,hm,h1,h2,h3,h4⟩)
theorem Ctx.mask (hP:OkT C.P) (hC:∀ t z,C.cmp t = some z→CmpT C.P t z) (hc:CallsOk C.P calls) (X:Ctx C calls ops A T fr0 h0 fr2 h2) (hg:Gh fr0 h0) {r:Rec} (hmr:r ∈ T) {φ:Phi} {w:World} {frS:Fr} {a:Act} (hf:AVL φ (Nf φ) w frS a.tmps.toList)
  (hfr:∀ x ∈ touches ops r.o,Fr.get frS x = Fr.get r.fr x):AVL (φ.lt r.h.next) (Nf (φ.lt r.h.next)) w (maskF (fun x=>(touches ops r.o).contains x) a.tmps.size frS) (maskA (fun x=>(touches ops r.o).contains x) a).tmps.toList:=by
 obtain ⟨φg,wg,ag,Rg,hfg⟩:=Tr.gh_at hP hC hc X.tr hg hmr
 refine mask_ok fun x hx=>?_
 have hx':x ∈ touches ops r.o:=by simpa using hx
 have h1:=hfg.get x
 rw [← hfr x hx'] at h1
 have h2:AVR φ (Nf φ) w (Fr.get frS x) (a.tmps.getD x Go.undef):=by
  have:=hf.get x
  simpa [List.getD_eq_getElem?_getD,Array.getD_eq_getD_getElem?] using this
 exact AVR.cut (fun b v l hl=>(Rg.dom b v l hl).1) h1 h2
end
end Go.Ab
namespace Go.Ab
section
variable {C:Conf} {calls:Calls'} {ops:List Oper} {A:List Nat} {T:List Rec} {fr0:Fr} {h0:H} {fr2:Fr} {h2:H} {S:Nat→Bool}
theorem exists_first {α:Type} (p:α→Prop):∀ (l:List α),(∀ q ∈ l,¬ p q) ∨ ∃ U e V,l = U++e::V∧p e∧∀ q ∈ U,¬ p q
 | []=>.inl (by simp)
 | x::l=>by
  by_cases hx:p x
  ·exact .inr ⟨[],x,l,rfl,hx,by simp⟩
  ·rcases exists_first p l with h | ⟨U,e,V,h1,h2,h3⟩
   ·exact .inl fun q hq=>by
     rcases List.mem_cons.1 hq with rfl | hq
     ·exact hx
     ·exact h q hq
   ·exact .inr ⟨x::U,e,V,by simp [h1],h2,fun q hq=>by
     rcases List.mem_cons.1 hq with rfl | hq
     ·exact hx
     ·exact h3 q hq⟩
theorem Inv.moved (hP:OkT C.P) (hC:∀ t z,C.cmp t = some z→CmpT C.P t z) (hc:CallsOk C.P calls) (X:Ctx C calls ops A T fr0 h0 fr2 h2) (hg:Gh fr0 h0) (L:Lst A T S) {T1 T2:List Rec} {r:Rec} (hT:T = T1++r::T2) (hr:S r.i = false) (hp:r.pan = false)
  {φ0:Phi} {w0:World} (R0:Rel φ0 h0 w0) {φ:Phi} {hS hb:H} {w:World} {a:Act} (I:Inv T fr0 h0 φ0 w0 h2.next C S φ hS hb w a) (h2':∀ q ∈ T2,q.isE C→S q.i = false)
  {hc':H} {φ':Phi} {w':World} {cv:Value} (R':Rel φ' hc' w') (G:Grow (φ.lt r.h.next) (hS.upto r.h.next) w φ' hc' w') (hv:AVR φ' (Nf φ') w' r.out cv)
  (hk:(r.isE C∧hc' = r.h') ∨ (r.isM C∧∃ l b,hc' = (hS.upto r.h.next).new (blkOf l b)∧r.h' = r.h.new (blkOf l b))) :
  ∃ φJ hJ hb',Inv T fr0 h0 φ0 w0 h2.next C (add S r.i) φJ hJ hb' w' (a.put r.o.dst cv):=by
 have hmr:r ∈ T:=by rw [hT];simp
 obtain ⟨Rc,Gc,hbN,hpend⟩:=Inv.cut0 hP hC hc R0 hT X.tr hg I hr h2'
 have hrise:=Tr.rise hP hC hc (hT ▸ X.tr) hg
 rw [Rec.nh_live hp] at hrise
 have hn:hc'.next = r.h'.next:=by
  rcases hk with ⟨_,rfl⟩ | ⟨_,l,b,rfl,e⟩
  ·rfl
  ·rw [e];rfl
 have happ:∀ b,r.h.next ≤ b→(hS.f b ≠ none ∨ ∃ v,φ b v ≠ none)→hc'.next ≤ b:=by
  intro b hb hx
  obtain ⟨m,hm,hM,hSm,rfl⟩:=hpend b hb hx
  rw [hn];exact hrise.2.2.1 m hm
 obtain ⟨RJ,GJ⟩:=Rel.join I.rel R' G.toGrow0 (by rw [I.next];exact Nat.le_refl _) (by rw [hn];exact hrise.2.2.2.1) happ
 have hJf:∀ b,(hS.join hc' h2.next).f b = if hc'.next ≤ b then hS.f b else hc'.f b:=fun _=>rfl
 have hφJ:∀ b v,φ.join φ' hc'.next b v = if hc'.next ≤ b then φ b v else φ' b v:=fun _ _=>rfl
 have hNn:r.h.next ≤ hc'.next:=by rw [hn];exact hrise.2.1
 have hGr:Grow φ0 h0 w0 (φ.join φ' hc'.next) (hS.join hc' h2.next) w':=by
  refine ⟨I.grow.toGrow0.trans GJ,fun b v l hb=>?_,fun b hb=>?_⟩
  ·rw [hφJ] at hb
   split at hb
   ·exact I.grow.names b v l hb
   ·exact (Gc.trans G).names b v l hb
  ·rw [hJf] at hb
   split at hb
   ·exact I.grow.keepB b hb
   ·exact (Gc.trans G).keepB b hb
 have hsub':∀ b v l,φ' b v = some l→φ.join φ' hc'.next b v = some l:=by
  intro b v l hb
  rw [hφJ,if_neg (by have:=(R'.dom _ _ _ hb).1;omega)];exact hb
 have hvJ:AVR (φ.join φ' hc'.next) (Nf (φ.join φ' hc'.next)) w' r.out cv:=hv.mono (show (φ.join φ' hc'.next).q = φ'.q from G.q.symm) hsub' (Nat.le_refl _) (fun _ _ _=>rfl) (fun _ _ h=>h)
 have hfJ:AVL (φ.join φ' hc'.next) (Nf (φ.join φ' hc'.next)) w' (foldF (fun q=>S q.i) T fr0) a.tmps.toList:=GJ.avl I.fr
 have hne:∀ m ∈ T,m ≠ r→add S r.i m.i = S m.i:=fun m hm h=>add_ne fun e=>h (X.inj hm hmr e)
 have hold:∀ m ∈ T,m.isM C→S m.i = true→hc'.next ≤ m.h.next ∨ m.h.next < r.h.next:=by
  intro m hm hM hSm
  rw [hT] at hm
  rcases List.mem_append.1 hm with h | h
  ·right
   have hgm:=Tr.good X.tr (r:=m) (by rw [hT];exact List.mem_append.2 (.inl h))
   obtain ⟨mk,l,b,e1,e2,_⟩:=hM.heap hgm
   have:=hrise.1 m h
   rw [Rec.nh_live (hM.live hgm),e2] at this
   have h3:(m.h.new (blkOf l b)).next = m.h.next + 1:=rfl
   omega
  ·rcases List.mem_cons.1 h with rfl | h
   ·rw [hr] at hSm;cases hSm
   ·left;rw [hn];exact hrise.2.2.1 m h
 rcases hk with ⟨hE,rfl⟩ | ⟨hM,l,bx,rfl,hrh⟩
 ·-- an effect
  have hnr:∀ m,m.isM C→m ≠ r:=fun m hM e=>by subst e;have:=hM.2;rw [hE.2] at this;cases this
  refine ⟨_,_,r.h',RJ,hGr,avl_done X L hT hr hp hfJ hvJ,put_defers I.defers _ _,rfl, ?_,fun b B=>?_,fun b v l hb=>?_⟩
  ·refine .inr ⟨T1,r,T2,hT,hE,hp,add_self,rfl,fun q hq hqE=>?_⟩
   rw [hne q (by rw [hT];simp [hq]) (fun e=>(X.ord T1 r T2 hT q hq).2 (by rw [e]))]
   exact h2' q hq hqE
  ·rw [hJf]
   split
   ·rename_i hle
    rw [I.heap b B]
    constructor
    ·rintro (⟨h1,_⟩ | ⟨m,hm,hM,hSm,h1,rfl,h3⟩)
     ·omega
     ·exact .inr ⟨m,hm,hM,by rw [hne m hm (hnr m hM)];exact hSm,hle,rfl,h3⟩
    ·rintro (⟨h1,_⟩ | ⟨m,hm,hM,hSm,h1,rfl,h3⟩)
     ·omega
     ·exact .inr ⟨m,hm,hM,by rw [← hne m hm (hnr m hM)];exact hSm,by omega,rfl,h3⟩
   ·rename_i hle
    constructor
    ·exact fun h=>.inl ⟨by omega,h⟩
    ·rintro (⟨_,h⟩ | ⟨m,hm,hM,hSm,h1,rfl,h3⟩)
     ·exact h
     ·omega
  ·rw [hφJ] at hb
   split at hb
   ·rename_i hle
    rcases I.dom b v l hb with h | ⟨m,hm,hM,hSm,h1,rfl⟩
    ·omega
    ·exact .inr ⟨m,hm,hM,by rw [hne m hm (hnr m hM)];exact hSm,hle,rfl⟩
   ·exact .inl (by omega)
 ·-- something that is made
  have hnx:((hS.upto r.h.next).new (blkOf l bx)).next = r.h.next + 1:=rfl
  have hrb:r.h'.f r.h.next = some (blkOf l bx):=by rw [hrh];simp [H.new]
  refine ⟨_,_,hb,RJ,hGr,avl_done X L hT hr hp hfJ hvJ,put_defers I.defers _ _,rfl, ?_,fun b B=>?_,fun b v l' hbv=>?_⟩
  ·have hnr:∀ m,m.isE C→m ≠ r:=fun m hE e=>by subst e;have:=hM.2;rw [hE.2] at this;cases this
   rcases I.base with ⟨h1,h2⟩ | ⟨U,e,V,h1,h2,h3,h4,h5,h6⟩
   ·exact .inl ⟨h1,fun q hq hqE=>by rw [hne q hq (hnr q hqE)];exact h2 q hq hqE⟩
   ·exact .inr ⟨U,e,V,h1,h2,h3,by rw [hne e (by rw [h1];simp) (hnr e h2)];exact h4,h5,fun q hq hqE=>by rw [hne q (by rw [h1];simp [hq]) (hnr q hqE)];exact h6 q hq hqE⟩
  ·rw [hJf]
   have hmk:∀ b,b ≠ r.h.next→((∃ m ∈ T,m.isM C∧add S r.i m.i = true∧hb.next ≤ m.h.next∧b = m.h.next∧m.h'.f b = some B) ↔ (∃ m ∈ T,m.isM C∧S m.i = true∧hb.next ≤ m.h.next∧b = m.h.next∧m.h'.f b = some B)):=by
    intro b hbe
    refine exists_congr fun m=>and_congr_right fun hm=>and_congr_right fun hM'=>?_
    constructor
    ·rintro ⟨h1,h2,rfl,h4⟩
     refine ⟨?_,h2,rfl,h4⟩
     rwa [hne m hm (fun e=>by subst e;exact hbe rfl)] at h1
    ·rintro ⟨h1,h2,rfl,h4⟩
     refine ⟨?_,h2,rfl,h4⟩
     rwa [hne m hm (fun e=>by subst e;exact hbe rfl)]
   by_cases hbe:b = r.h.next
   ·subst hbe
    rw [if_neg (by omega)]
    constructor
    ·intro h
     refine .inr ⟨r,hmr,hM,add_self,hbN,rfl, ?_⟩
     rw [hrb]
     have:((hS.upto r.h.next).new (blkOf l bx)).f r.h.next = some (blkOf l bx):=by simp [H.new,H.upto]
     rw [this] at h;exact h
    ·rintro (⟨h,_⟩ | ⟨m,hm,hM',hSm,h1,h3,h4⟩)
     ·omega
     ·have hmr':m = r:=by
       by_cases hmr':m = r
       ·exact hmr'
       ·rw [hne m hm hmr'] at hSm
        rcases hold m hm hM' hSm with h | h <;> omega
      subst hmr'
      rw [hrb] at h4
      have:((hS.upto m.h.next).new (blkOf l bx)).f m.h.next = some (blkOf l bx):=by simp [H.new,H.upto]
      rw [this];exact h4
   ·rw [hmk b hbe,← I.heap b B]
    split
    ·rfl
    ·rename_i hle
     have:((hS.upto r.h.next).new (blkOf l bx)).f b = hS.f b:=by
      show (if b = r.h.next then some (blkOf l bx) else if b < r.h.next then hS.f b else none) = hS.f b
      rw [if_neg hbe,if_pos (by omega)]
     rw [this]
  ·have hdom:(b < hb.next ∨ ∃ m ∈ T,m.isM C∧S m.i = true∧hb.next ≤ m.h.next∧b = m.h.next)→(b < hb.next ∨ ∃ m ∈ T,m.isM C∧add S r.i m.i = true∧hb.next ≤ m.h.next∧b = m.h.next):=by
    rintro (h | ⟨m,hm,hM',hSm,h1,h3⟩)
    ·exact .inl h
    ·exact .inr ⟨m,hm,hM',by rw [hne m hm (fun e=>by subst e;rw [hr] at hSm;cases hSm)];exact hSm,h1,h3⟩
   rw [hφJ] at hbv
   split at hbv
   ·exact hdom (I.dom b v l' hbv)
   ·rename_i hle
    by_cases hbe:b = r.h.next
    ·exact .inr ⟨r,hmr,hM,add_self,hbN,hbe⟩
    ·have hlt:b < r.h.next:=by omega
     rcases G.names b v l' hbv with h | h | h
     ·exact hdom (I.dom b v l' (Phi.lt_some h).2)
     ·have:(hS.upto r.h.next).next = r.h.next:=rfl
      omega
     ·have hu:(hS.upto r.h.next).f b = hS.f b:=by simp [H.upto,hlt]
      rw [hu] at h
      cases hq:hS.f b with
      | none=>exact absurd hq h
      | some B =>
       rcases (I.heap b B).1 hq with ⟨h1,_⟩ | ⟨m,hm,h1,h2,h3,h4,_⟩
       ·exact .inl h1
       ·exact hdom (.inr ⟨m,hm,h1,h2,h3,h4⟩)
theorem gh_f:∀ (V:List Rec) (e:H) (b:Nat) (B:Blk),(gh C e V).f b = some B→e.f b = some B ∨ ∃ m ∈ V,m.want = true∧clsOf C.P m.o ≠ .eff∧m.h.next < m.h'.next∧b = m.h.next∧m.h'.f b = some B
 | [],e,b,B,h=>.inl h
 | r::V,e,b,B,h=>by
  rw [gh] at h
  rcases gh_f V _ b B h with h1 | ⟨m,hm,h2⟩
  ·split at h1
   ·rename_i hw
    unfold H.ghost at h1
    split at h1
    ·rename_i hlt
     simp only at h1
     split at h1
     ·rename_i hb
      exact .inr ⟨r,List.mem_cons_self,hw.1,hw.2,hlt,hb,h1⟩
     ·exact .inl h1
    ·exact .inl h1
   ·exact .inl h1
  ·exact .inr ⟨m,List.mem_cons_of_mem _ hm,h2⟩
theorem make_inj (hP:OkT C.P) (hC:∀ t z,C.cmp t = some z→CmpT C.P t z) (hc:CallsOk C.P calls) (X:Ctx C calls ops A T fr0 h0 fr2 h2) (hg:Gh fr0 h0) {m m':Rec} (hm:m ∈ T) (hm':m' ∈ T) (hM:m.isM C) (hM':m'.isM C) (he:m.h.next = m'.h.next):m = m':=by
 obtain ⟨T1,T2,hT⟩:=List.append_of_mem hm'
 have hrise:=Tr.rise hP hC hc (hT ▸ X.tr) hg
 have hgm:=Tr.good X.tr hm
 have hgm':=Tr.good X.tr hm'
 obtain ⟨mk,l,b,e1,e2,_⟩:=hM.heap hgm
 obtain ⟨mk',l',b',e1',e2',_⟩:=hM'.heap hgm'
 have n1:m.nh.next = m.h.next + 1:=by rw [Rec.nh_live (hM.live hgm),e2];rfl
 have n2:m'.nh.next = m'.h.next + 1:=by rw [Rec.nh_live (hM'.live hgm'),e2'];rfl
 rw [hT] at hm
 rcases List.mem_append.1 hm with h | h
 ·have:=hrise.1 m h;omega
 ·rcases List.mem_cons.1 h with h | h
  ·exact h
  ·have:=hrise.2.2.1 m h;omega
theorem Inv.read (hP:OkT C.P) (hC:∀ t z,C.cmp t = some z→CmpT C.P t z) (hc:CallsOk C.P calls) (X:Ctx C calls ops A T fr0 h0 fr2 h2) (hg:Gh fr0 h0) (L:Lst A T S) {T1 T2:List Rec} {r:Rec} (hT:T = T1++r::T2) (hr:S r.i = false) (hup:∀ i,isAnc A i r.i = true→S i = true)
  {φ0:Phi} {w0:World} {M:Nat} {φ:Phi} {hS hb:H} {w:World} {a:Act} (I:Inv T fr0 h0 φ0 w0 M C S φ hS hb w a) (hR:r.isR C):runO C calls (foldF (fun q=>S q.i) T fr0) hS r.o = some (.ok r.out hS):=by
 have hmr:r ∈ T:=by rw [hT];simp
 have hfr:=X.frame L hT hr hup
 have hask:∀ h,ask C r.fr r.o h = some r.out→Same φ h hS→runO C calls (foldF (fun q=>S q.i) T fr0) hS r.o = some (.ok r.out hS):=by
  intro h ha hs
  unfold ask at ha
  split at ha
  ·rename_i v h' hop
   simp only [oqI] at ha;subst ha
   have hcg:opA C.P C.cmp (foldF (fun q=>S q.i) T fr0) h r.o = opA C.P C.cmp r.fr h r.o:=opA_congr fun t ht=>hfr t (by
    simp only [touches,List.mem_append]
    exact .inl (.inr (by simp only [tmpsOf,List.mem_filterMap];exact ⟨.tmp t,ht,rfl⟩)))
   rw [← hcg] at hop
   obtain ⟨v,e,h2⟩:=read_any I.fr hR.2 hs hop
   cases e
   simp [runO,h2]
  ·cases ha
 have hpw:=X.cross
 rcases exists_first (fun q=>q.isE C∧q.pan = false∧S q.i = false) T1 with hall | ⟨U,e,V,hU,⟨hE,hEp,hES⟩,hUall⟩
 ·have h1:∀ q ∈ T1,q.isE C→q.pan = false→S q.i = true:=by
   intro q hq hqE hqp
   cases hS:S q.i with
   | true=>rfl
   | false=>exact absurd ⟨hqE,hqp,hS⟩ (hall q hq)
  by_cases hex:∃ e ∈ T2,e.isE C∧S e.i = true
  ·obtain ⟨e,heT,heE,heS⟩:=hex
   rcases I.base with ⟨_,h3⟩ | ⟨U,e',W,he',heE',hep',heS',hbe,hno⟩
   ·have:=h3 e (by rw [hT];simp [heT]) heE
    rw [heS] at this;cases this
   ·have hne:e' ≠ r:=fun h=>by rw [h,hr] at heS';cases heS'
    rcases two_splits (he'.symm.trans hT) hne with ⟨V,q1,q2⟩ | ⟨V,q1,q2⟩
    ·have:=hno e (by rw [q2];simp [heT]) heE
     rw [heS] at this;cases this
    ·have hcr:Cross C A r V e':=hpw T1 r V e' W (by rw [hT,q1];simp)
     rcases hcr.2 hR heE' hep' with h | h
     ·rw [L.up _ _ h heS'] at hr;cases hr
     ·refine hask _ h (hbe ▸ Inv.same_base (fun b hb=>?_) I)
      have hge:=(Tr.good X.tr (r:=e') (by rw [he'];simp)).gh hP hC hc (Tr.gh_at hP hC hc X.tr hg (by rw [he'];simp))
      rw [Rec.nh_live hep'] at hge
      rw [hbe] at hb ⊢
      exact hge.1.none b hb
  ·have h2':∀ q ∈ T2,q.isE C→S q.i = false:=by
    intro q hq hqE
    cases hS:S q.i with
    | false=>rfl
    | true=>exact absurd ⟨q,hq,hqE,hS⟩ hex
   exact hask _ ((Tr.good X.tr hmr).read hR).1 (Inv.same hP hC hc hT X.tr hg I hr h1 L.pan h2')
 ·have hT':T = U++e::(V++r::T2):=by rw [hT,hU];simp
  have hcr:Cross C A e V r:=hpw U e V r T2 (by rw [hT'];simp)
  have hmE:e ∈ T:=by rw [hT'];simp
  have h1':∀ q ∈ U,q.isE C→q.pan = false→S q.i = true:=by
   intro q hq hqE hqp
   cases hS:S q.i with
   | true=>rfl
   | false=>exact absurd ⟨hqE,hqp,hS⟩ (hUall q hq)
  have h2'':∀ q ∈ V++r::T2,q.isE C→S q.i = false:=by
   intro q hq hqE
   have ho:=X.ord U e (V++r::T2) hT' q hq
   rcases X.effs e hmE q (by rw [hT'];exact List.mem_append.2 (.inr (List.mem_cons_of_mem _ hq))) hE hqE (fun h=>ho.2 h.symm) with h3 | h3
   ·cases hS:S q.i with
    | false=>rfl
    | true=>rw [L.up _ _ h3 hS] at hES;cases hES
   ·rw [ho.1] at h3;cases h3
  have hsame:=Inv.same hP hC hc hT' X.tr hg I hES h1' L.pan h2''
  rcases hcr.1 hE hEp hR with h | h | h
  ·rw [hup _ h] at hES;cases hES
  ·exact hask _ h hsame
  ·refine hask _ h fun b v l B hbv hbB=>?_
   rcases gh_f _ _ _ _ hbB with hB | ⟨m,hm,hmw,hmc,hml,hmb,hmB⟩
   ·exact hsame b v l B hbv hB
   ·have hmT:m ∈ T:=by rw [hT'];simp [hm]
    have hgm:=Tr.good X.tr hmT
    have hmp:m.pan = false:=by
     cases hp:m.pan with
     | false=>rfl
     | true=>exact absurd (hgm.dead hp).1.2 hmc
    have hM:m.isM C:=by
     rcases hgm.heap (fun hE=>absurd hE.2 hmc) with hh | ⟨h,_⟩
     ·rw [Rec.nh_live hmp] at hh
      rw [hh] at hml;omega
     ·exact h
    have hbe:=(Base.le hP hC hc hT' X.tr hg I.base hES h2'').1
    have hrise:=Tr.rise hP hC hc (hT' ▸ X.tr) hg
    have hem:e.nh.next ≤ m.h.next:=hrise.2.2.1 m (by simp [hm])
    have hee:=hrise.2.1
    rcases I.dom b v l hbv with hlt | ⟨m',hm',hM',hSm,hle,hbe'⟩
    ·omega
    ·have:=make_inj hP hC hc X hg hmT hm' hM hM' (by rw [← hmb,← hbe'])
     subst this
     exact (I.heap b B).2 (.inr ⟨m,hmT,hM,hSm,hle,hmb,hmB⟩)
end
end Go.Ab
namespace Go.Ab
theorem runO_pure {C:Conf} {calls:Calls'} {fr:Fr} {h:H} {o:Oper} {v:AV} {h':H} (hcls:clsOf C.P o = .pure) (hr:runO C calls fr h o = some (.ok v h')):∀ h2,runO C calls fr h2 o = some (.ok v h2):=by
 intro h2
 simp only [runO,oqE,oqB] at hr
 obtain ⟨ro,hop,hr⟩:=hr
 obtain ⟨v',rfl,hall⟩:=pure_any hcls hop
 simp only [oqI,RO.ok.injEq] at hr
 simp [runO,hall h2,hr.1]
section
variable {C:Conf} {calls:Calls'} {ops:Array Oper} {A:List Nat} {T:List Rec} {fr0:Fr} {h0:H} {fr2:Fr} {h2:H} {S:Nat→Bool}
theorem tmps_touch {ops:List Oper} {o:Oper} {t:Nat} (ht:Operand.tmp t ∈ o.op.operands.toList):t ∈ touches ops o:=by
 simp only [touches,List.mem_append]
 exact .inl (.inr (by simp only [tmpsOf,List.mem_filterMap];exact ⟨.tmp t,ht,rfl⟩))
theorem guard_touch {ops:List Oper} {o q:Oper} {j d:Nat} {want:Bool} (hg:o.guard = some (j,want)) (hq:ops[j]? = some q) (hd:q.dst = some d):d ∈ touches ops o:=by
 simp only [touches,List.mem_append,hg,hq,hd]
 exact .inr (by simp)
theorem Inv.step (hP:OkT C.P) (hC:∀ t z,C.cmp t = some z→CmpT C.P t z) (hc:CallsOk C.P calls) (X:Ctx C calls ops.toList A T fr0 h0 fr2 h2) (hg:Gh fr0 h0) (L:Lst A T S) {r:Rec} (hmr:r ∈ T) (hr:S r.i = false) (hup:∀ i,isAnc A i r.i = true→S i = true)
  {φ0:Phi} {w0:World} (R0:Rel φ0 h0 w0) {φ:Phi} {hS hb:H} {w:World} {a:Act} (I:Inv T fr0 h0 φ0 w0 h2.next C S φ hS hb w a) {Q:Exit→Act→World→Prop} {K:Act→World→Prop}
  (hK:r.pan = false→∀ φ' hS' hb' w' a',Inv T fr0 h0 φ0 w0 h2.next C (add S r.i) φ' hS' hb' w' a'→K a' w')
  (hQ:r.pan = true→∀ v cv φ' w',r.out = .one v→Rel φ' r.h' w'→Grow φ0 h0 w0 φ' r.h' w'→VR φ' (Nf φ') w' v cv→Q (.panic [{ v:=cv,recovered:=false }]) a w') :
  wpOp C.P ops Q r.i K a w:=by
 obtain ⟨T1,T2,hT⟩:=List.append_of_mem hmr
 have hgood:=Tr.good X.tr hmr
 have hfr:=X.frame L hT hr hup
 have hop:ops[r.i]? = some r.o:=by simpa using hgood.op
 have hwant:wantedA (foldF (fun q=>S q.i) T fr0) ops.toList r.o = some r.want:=by
  rw [← hgood.want]
  exact wantedA_congr fun j want q d h1 h2 h3=>hfr d (guard_touch h1 h2 h3)
 have hwanted:=wanted_ok (ops:=ops) I.fr hwant
 have hrun:∀ h,runO C calls (foldF (fun q=>S q.i) T fr0) h r.o = runO C calls r.fr h r.o:=fun h=>runO_congr fun t ht=>hfr t (tmps_touch ht)
 unfold wpOp
 simp only [hop,hwanted]
 cases hw:r.want with
 | false =>
  simp only [oqF,if_false]
  obtain ⟨hp,ho,hh⟩:=hgood.skip hw
  refine hK hp φ hS hb w _ ?_
  exact Inv.still X L hT hr hp (fun h=>by have:=h.1;rw [hw] at this;cases this) (fun h=>by have:=h.1;rw [hw] at this;cases this) I I.rel (Grow.refl _ _ _) (by rw [ho];exact .undef)
 | true =>
  simp only [if_true]
  left
  have hstill:∀ (hp:r.pan = false),¬ r.isE C→¬ r.isM C→runO C calls (foldF (fun q=>S q.i) T fr0) hS r.o = some (.ok r.out hS)→r.o.wp C.P a w K Q:=by
   intro hp hE hM hro
   refine runO_ok hP hC hc I.rel I.fr hro (fun v h' e φ' cv w' R' G hv=>?_) (fun v h' e=>by cases e)
   cases e
   exact hK hp φ' hS hb w' _ (Inv.still X L hT hr hp hE hM I R' G hv)
  have hnp:¬ r.isE C→r.pan = false:=by
   intro hE
   cases hp:r.pan with
   | false=>rfl
   | true=>exact absurd (hgood.dead hp).1 hE
  cases hcls:clsOf C.P r.o with
  | pure =>
   have hE:¬ r.isE C:=fun h=>by have:=h.2;rw [hcls] at this;cases this
   refine hstill (hnp hE) hE (fun h=>by have:=h.2;rw [hcls] at this;cases this) ?_
   rw [hrun]
   exact runO_pure hcls (hgood.run hw (hnp hE)) hS
  | read =>
   have hE:¬ r.isE C:=fun h=>by have:=h.2;rw [hcls] at this;cases this
   exact hstill (hnp hE) hE (fun h=>by have:=h.2;rw [hcls] at this;cases this) (Inv.read hP hC hc X hg L hT hr hup I ⟨hw,hcls⟩)
  | make =>
   have hM:r.isM C:=⟨hw,hcls⟩
   have hE:¬ r.isE C:=fun h=>by have:=h.2;rw [hcls] at this;cases this
   have hp:=hnp hE
   have h2':∀ q ∈ T2,q.isE C→S q.i = false:=by
    intro q hq hqE
    obtain ⟨U,V,rfl⟩:=List.append_of_mem hq
    have:=X.sink (T1++r::U) q V (by rw [hT];simp) hqE r (by simp) hM
    cases hS:S q.i with
    | false=>rfl
    | true=>rw [L.up _ _ this hS] at hr;cases hr
   obtain ⟨Rc,Gc,hbN,hpend⟩:=Inv.cut0 hP hC hc R0 hT X.tr hg I hr h2'
   have hmask:=Ctx.mask hP hC hc X hg hmr I.fr hfr
   obtain ⟨mk,l,bx,e1,e2,hall⟩:=hM.heap hgood
   have hro:runO C calls (maskF (fun x=>(touches ops.toList r.o).contains x) a.tmps.size (foldF (fun q=>S q.i) T fr0)) (hS.upto r.h.next) r.o = some (.ok r.out ((hS.upto r.h.next).new (blkOf l bx))):=by
    rw [e1]
    refine Eq.trans ?_ (hall (hS.upto r.h.next))
    refine runO_congr fun t ht=>?_
    have htt:=tmps_touch (ops:=ops.toList) ht
    rw [mask_get (by rw [I.fr.length];simp) (by simpa using htt)]
    exact hfr t htt
   refine runO_mask hP hC hc Rc hmask (mask_exec (ops:=ops.toList) (runO_noSelect hro)) hro (fun v h' e φ' cv w' R' G hv=>?_) (fun v h' e=>by cases e)
   cases e
   obtain ⟨φJ,hJ,hb',IJ⟩:=Inv.moved hP hC hc X hg L hT hr hp R0 I h2' R' G hv (.inr ⟨hM,l,bx,rfl,e2⟩)
   exact hK hp φJ hJ hb' w' _ IJ
  | eff =>
   have hE:r.isE C:=⟨hw,hcls⟩
   have hnM:¬ r.isM C:=fun h=>by have:=h.2;rw [hcls] at this;cases this
   have h2':∀ q ∈ T2,q.isE C→S q.i = false:=by
    intro q hq hqE
    have ho:=X.ord T1 r T2 hT q hq
    rcases X.effs r hmr q (by rw [hT];simp [hq]) hE hqE (fun h=>ho.2 h.symm) with h3 | h3
    ·cases hS:S q.i with
     | false=>rfl
     | true=>rw [L.up _ _ h3 hS] at hr;cases hr
    ·rw [ho.1] at h3;cases h3
   have h1:∀ q ∈ T1,q.isE C→q.pan = false→S q.i = true:=by
    intro q hq hqE hqp
    have ho:=X.behind hT hq
    rcases X.effs q (by rw [hT];simp [hq]) r hmr hqE hE ho.2 with h3 | h3
    ·exact hup _ h3
    ·rw [ho.1] at h3;cases h3
   obtain ⟨Rc,Gc,hbN,hpend⟩:=Inv.cut0 hP hC hc R0 hT X.tr hg I hr h2'
   have heq:=(Inv.cut hP hC hc R0 hT X.tr hg I hr h1 L.pan h2').2.2.2.2 (fun q hq hqM=>hup _ (X.sink T1 r T2 hT hE q hq hqM)) hnM
   have hmask:=Ctx.mask hP hC hc X hg hmr I.fr hfr
   have hcg:runO C calls (maskF (fun x=>(touches ops.toList r.o).contains x) a.tmps.size (foldF (fun q=>S q.i) T fr0)) (hS.upto r.h.next) r.o = runO C calls r.fr r.h r.o:=by
    rw [heq]
    refine runO_congr fun t ht=>?_
    have htt:=tmps_touch (ops:=ops.toList) ht
    rw [mask_get (by rw [I.fr.length];simp) (by simpa using htt)]
    exact hfr t htt
   cases hp:r.pan with
   | false =>
    have hro:=hcg.trans (hgood.run hw hp)
    refine runO_mask hP hC hc Rc hmask (mask_exec (ops:=ops.toList) (runO_noSelect hro)) hro (fun v h' e φ' cv w' R' G hv=>?_) (fun v h' e=>by cases e)
    cases e
    obtain ⟨φJ,hJ,hb',IJ⟩:=Inv.moved hP hC hc X hg L hT hr hp R0 I h2' R' G hv (.inl ⟨hE,rfl⟩)
    exact hK hp φJ hJ hb' w' _ IJ
   | true =>
    obtain ⟨_,v0,hv0,hro0⟩:=hgood.dead hp
    have hro:=hcg.trans hro0
    refine runO_mask hP hC hc Rc hmask (mask_exec (ops:=ops.toList) (runO_noSelect hro)) hro (fun v h' e=>by cases e) (fun v h' e φ' w' cv R' G hv=>?_)
    cases e
    exact hQ hp _ cv φ' w' hv0 R' (Gc.trans G) hv
theorem Inv.all (hP:OkT C.P) (hC:∀ t z,C.cmp t = some z→CmpT C.P t z) (hc:CallsOk C.P calls) (X:Ctx C calls ops.toList A T fr0 h0 fr2 h2) (hg:Gh fr0 h0) (hall:∀ q ∈ T,S q.i = true∧q.pan = false)
  {φ0:Phi} {w0:World} {φ:Phi} {hS hb:H} {w:World} {a:Act} (I:Inv T fr0 h0 φ0 w0 h2.next C S φ hS hb w a):After φ0 h0 w0 .normal fr2 h2 .normal a w:=by
 have hfr:foldF (fun q=>S q.i) T fr0 = fr2:=by
  rw [X.tr.frame]
  apply fr_ext
  ·rw [foldF_length,foldF_length]
  ·intro x;exact foldF_get T _ _ rfl rfl fun r hr _=>by simp [hall r hr]
 have hH:hS = h2:=by
  have hseg:∃ V frb,Tr C calls ops.toList V frb hb fr2 h2∧Gh frb hb∧(∀ q ∈ V,¬ q.isE C)∧(∀ q ∈ V,q ∈ T)∧∀ m ∈ T,m.isM C→hb.next ≤ m.h.next→m ∈ V:=by
   rcases I.base with ⟨rfl,hno⟩ | ⟨U,e,V,hT,hE,hep,heS,rfl,hno⟩
   ·exact ⟨T,fr0,X.tr,hg,fun q hq hE=>(by have:=hno q hq hE;rw [(hall q hq).1] at this;cases this),fun _ h=>h,fun m hm _ _=>hm⟩
   ·obtain ⟨b1,b2,b3⟩:=Tr.split (hT ▸ X.tr)
    have g1:=b2.gh hP hC hc (Tr.gh hP hC hc b1 hg).1
    rw [Rec.nh_live hep] at b3 g1
    refine ⟨V,e.fr',b3,g1.1,fun q hq hqE=>?_,fun q hq=>by rw [hT];simp [hq],fun m hm hM hle=>?_⟩
    ·have:=hno q hq hqE
     rw [(hall q (by rw [hT];simp [hq])).1] at this;cases this
    ·rw [hT] at hm
     rcases List.mem_append.1 hm with h | h
     ·exfalso
      have hr1:=(Tr.rise hP hC hc (hT ▸ X.tr) hg).1 m h
      have hr2:=(Tr.rise hP hC hc (hT ▸ X.tr) hg).2.1
      have hgm:=Tr.good X.tr (r:=m) (by rw [hT];exact List.mem_append.2 (.inl h))
      obtain ⟨mk,l,b,e1,e2,_⟩:=hM.heap hgm
      rw [Rec.nh_live (hM.live hgm),e2] at hr1
      rw [Rec.nh_live hep] at hr2
      have h3:(m.h.new (blkOf l b)).next = m.h.next + 1:=rfl
      omega
     ·rcases List.mem_cons.1 h with rfl | h
      ·have:=hM.2;rw [hE.2] at this;cases this
      ·exact h
  obtain ⟨V,frb,hV,gb,hVE,hVT,hVm⟩:=hseg
  obtain ⟨s1,s2,s3,s4,s5⟩:=hV.seg (fun q hq hE=>absurd hE (hVE q hq)) (fun b hb=>gb.none b hb)
  have hf:hS.f = h2.f:=by
   funext b
   apply Option.ext
   intro B
   rw [I.heap b B]
   by_cases hbb:b < hb.next
   ·rw [s2 b hbb]
    constructor
    ·rintro (⟨_,h⟩ | ⟨m,_,_,_,hle,hbe,_⟩)
     ·exact h
     ·omega
    ·exact fun h=>.inl ⟨hbb,h⟩
   ·rw [s5 b B (by omega)]
    constructor
    ·rintro (⟨h,_⟩ | ⟨m,hm,hM,hSm,hle,hbe,hmk⟩)
     ·omega
     ·exact ⟨m,hVm m hm hM hle,hM,hbe,hmk⟩
    ·rintro ⟨m,hm,hM,hbe,hmk⟩
     exact .inr ⟨m,hVT m hm,hM,(hall m (hVT m hm)).1,(s4 m hm hM).1,hbe,hmk⟩
  have hn:=I.next
  cases hS;cases h2;simp only at hf hn;rw [hf,hn]
 exact ⟨φ,hH ▸ I.rel,hH ▸ I.grow,I.defers,hfr ▸ I.fr⟩
end
end Go.Ab
namespace Go.Ab
section
variable {C:Conf} {calls:Calls'} {ops:Array Oper} {T:List Rec} {fr0:Fr} {h0:H} {fr2:Fr} {h2:H}
theorem getD_add (listed:Array Bool) (k:Nat) (hk:k < listed.size):(fun i=>(listed.setIfInBounds k true).getD i false) = add (fun i=>listed.getD i false) k:=by
 funext i
 unfold add
 by_cases h:i = k
 ·subst h;simp [hk]
 ·rw [if_neg h,getD_set_ne false (fun e=>h e.symm)]
theorem ready_of_min (hB:Back ops.toList) {listed:Array Bool} (hsz:listed.size = ops.size) {j:Nat} (hj:j < ops.size) (hl:listed.getD j false = false) (hmin:∀ i,i < j→listed.getD i false = true):j ∈ Region.ready .any ops listed:=by
 rw [mem_ready]
 refine ⟨?_,ops[j],by simp [hj],fun e he hb=>hmin _ ?_⟩
 ·simpa [hsz,hj] using hl
 ·exact hB j ops[j] (by simp [hj]) e (by simpa using he) hb
theorem ready_nil (hB:Back ops.toList) {listed:Array Bool} (hsz:listed.size = ops.size) (hr:Region.ready .any ops listed = []):∀ j,j < ops.size→listed.getD j false = true:=by
 intro j
 induction j using Nat.strongRecOn with
 | _ j ih =>
  intro hj
  cases hl:listed.getD j false with
  | true=>rfl
  | false =>
   have:=ready_of_min hB hsz hj hl (fun i hi=>ih i hi (by omega))
   rw [hr] at this;cases this
theorem walk (hP:OkT C.P) (hC:∀ t z,C.cmp t = some z→CmpT C.P t z) (hc:CallsOk C.P calls) (hB:Back ops.toList) (X:Ctx C calls ops.toList (ancs ops.toList []) T fr0 h0 fr2 h2) (hg:Gh fr0 h0)
  {φ0:Phi} {w0:World} (R0:Rel φ0 h0 w0) {Q:Exit→Act→World→Prop}
  (hN:(∀ q ∈ T,q.pan = false)→∀ a' w',After φ0 h0 w0 .normal fr2 h2 .normal a' w'→Q .normal a' w')
  (hQ:∀ r ∈ T,r.pan = true→∀ v cv φ' a' w',r.out = .one v→a'.defers = []→Rel φ' r.h' w'→Grow φ0 h0 w0 φ' r.h' w'→VR φ' (Nf φ') w' v cv→Q (.panic [{ v:=cv,recovered:=false }]) a' w')
  (hin:∀ j,j < ops.size→(∃ r ∈ T,r.i = j) ∨ ∃ e ∈ T,e.pan = true∧isAnc (ancs ops.toList []) e.i j = true) :
  ∀ (fuel:Nat) (listed:Array Bool) (φ:Phi) (hS hb:H) (w:World) (a:Act),listed.size = ops.size→(List.range ops.size).countP (fun i=>!listed.getD i false) ≤ fuel →
   (∀ j o,listed.getD j false = true→ops.toList[j]? = some o→∀ e ∈ o.after.toList,Region.binds .any e = true→listed.getD e.on false = true)→(∀ q ∈ T,q.pan = true→listed.getD q.i false = false) →
   Inv T fr0 h0 φ0 w0 h2.next C (fun i=>listed.getD i false) φ hS hb w a→wpAny C.P .any ops Q fuel listed a w:=by
 intro fuel
 have hend:∀ (listed:Array Bool) (φ:Phi) (hS hb:H) (w:World) (a:Act),listed.size = ops.size→(∀ q ∈ T,q.pan = true→listed.getD q.i false = false) →
   Inv T fr0 h0 φ0 w0 h2.next C (fun i=>listed.getD i false) φ hS hb w a→(∀ j,j < ops.size→listed.getD j false = true)→Q .normal a w:=by
  intro listed φ hS hb w a hsz hpan I hall
  have hq:∀ q ∈ T,listed.getD q.i false = true∧q.pan = false:=by
   intro q hq
   have hlt:q.i < ops.size:=by
    have:=(Tr.good X.tr hq).op
    have:=(List.getElem?_eq_some_iff.1 this).1
    simpa using this
   refine ⟨hall _ hlt, ?_⟩
   cases hp:q.pan with
   | false=>rfl
   | true=>have:=hpan q hq hp;rw [hall _ hlt] at this;cases this
  exact hN (fun q hq'=>(hq q hq').2) a w (Inv.all hP hC hc X hg hq I)
 induction fuel with
 | zero =>
  intro listed φ hS hb w a hsz hcnt hcl hpan I
  have hall:∀ j,j < ops.size→listed.getD j false = true:=by
   intro j hj
   have h1:=List.countP_eq_zero.1 (Nat.le_zero.1 hcnt) j (by simpa using hj)
   simpa using h1
  refine ⟨?_,hend listed φ hS hb w a hsz hpan I hall⟩
  cases hr:Region.ready .any ops listed with
  | nil=>rfl
  | cons j l =>
   have hj:j ∈ Region.ready .any ops listed:=by rw [hr];simp
   obtain ⟨h1,o,ho,_⟩:=mem_ready.1 hj
   have hlt:=(Array.getElem?_eq_some_iff.1 ho).1
   have:=hall j hlt
   simp [hsz,hlt] at h1 this
   rw [h1] at this;cases this
 | succ fuel ih =>
  intro listed φ hS hb w a hsz hcnt hcl hpan I
  refine ⟨fun hr=>hend listed φ hS hb w a hsz hpan I (ready_nil hB hsz hr),fun i hi=>?_⟩
  obtain ⟨h1,o,ho,hall⟩:=mem_ready.1 hi
  have hlt:=(Array.getElem?_eq_some_iff.1 ho).1
  have hnot:listed.getD i false = false:=by simpa [hsz,hlt] using h1
  have hup0:∀ k j,isAnc (ancs ops.toList []) k j = true→listed.getD j false = true→listed.getD k false = true:=fun k j hk hj=>anc_closed (S:=fun i=>listed.getD i false = true) hB hcl j k hk hj
  have hup:∀ k,isAnc (ancs ops.toList []) k i = true→listed.getD k false = true:=by
   intro k hk
   obtain ⟨e,he,hb',h2 | h2⟩:=(anc_iff hB (by simpa using ho) k).1 hk
   ·rw [← h2];exact hall e (by simpa using he) hb'
   ·exact hup0 k e.on h2 (hall e (by simpa using he) hb')
  have hr:∃ r ∈ T,r.i = i:=by
   rcases hin i hlt with h | ⟨e,he,hp,ha⟩
   ·exact h
   ·have:=hup _ ha;rw [hpan e he hp] at this;cases this
  obtain ⟨r,hmr,rfl⟩:=hr
  refine Inv.step hP hC hc X hg (S:=fun i=>listed.getD i false) ⟨hup0,hpan⟩ hmr hnot hup R0 I (fun hp φ' hS' hb' w' a' I'=>?_) (fun hp v cv φ' w' hv R' G hvr=>hQ r hmr hp v cv φ' a w' hv I.defers R' G hvr)
  rw [← getD_add listed r.i (by omega)] at I'
  refine ih _ φ' hS' hb' w' a' (by simpa using hsz) ?_ ?_ ?_ I'
  ·have hlt':(List.range ops.size).countP (fun i=>!(listed.setIfInBounds r.i true).getD i false) < (List.range ops.size).countP (fun i=>!listed.getD i false):=by
    have hmem:r.i ∈ List.range ops.size:=by simpa using hlt
    have hfun:=getD_add listed r.i (by omega)
    have he:∀ i,(listed.setIfInBounds r.i true).getD i false = add (fun i=>listed.getD i false) r.i i:=fun i=>congrFun hfun i
    simp only [he]
    clear hcnt
    have key:∀ l:List Nat,(l.countP (fun i=>!add (fun i=>listed.getD i false) r.i i) ≤ l.countP (fun i=>!listed.getD i false))∧(r.i ∈ l→l.countP (fun i=>!add (fun i=>listed.getD i false) r.i i) < l.countP (fun i=>!listed.getD i false)):=by
     intro l
     induction l with
     | nil=>simp
     | cons x l ihl =>
      simp only [List.countP_cons]
      have hx:(if (!add (fun i=>listed.getD i false) r.i x) = true then 1 else 0) ≤ (if (!listed.getD x false) = true then 1 else 0):=by
       by_cases hxr:x = r.i
       ·subst hxr;simp [add]
       ·rw [add_ne hxr];exact Nat.le_refl _
      refine ⟨by have:=ihl.1;omega,fun hm=>?_⟩
      rcases List.mem_cons.1 hm with h | h
      ·have:=ihl.1
       rw [← h,hnot]
       have:(if (!add (fun i=>listed.getD i false) r.i r.i) = true then 1 else 0) = 0:=by simp [add]
       rw [this]
       have h1:(if (!false) = true then 1 else 0) = 1:=rfl
       rw [h1];omega
      ·have:=ihl.2 h;omega
    exact (key _).2 hmem
   omega
  ·intro j o' hj ho' e he hb''
   have he':(listed.setIfInBounds r.i true).getD j false = add (fun i=>listed.getD i false) r.i j:=congrFun (getD_add listed r.i (by omega)) j
   rw [he'] at hj
   apply getD_set_true
   by_cases hjr:j = r.i
   ·subst hjr
    have:o' = o:=by
     have h5:ops.toList[r.i]? = some o:=by simpa using ho
     rw [h5] at ho';exact (Option.some.inj ho').symm
    subst this
    exact hall e (by simpa using he) hb''
   ·rw [add_ne hjr] at hj
    exact hcl j o' hj ho' e he hb''
  ·intro q hq hqp
   have he':(listed.setIfInBounds r.i true).getD q.i false = add (fun i=>listed.getD i false) r.i q.i:=congrFun (getD_add listed r.i (by omega)) q.i
   rw [he',add_ne]
   ·exact hpan q hq hqp
   ·intro e
    have:=X.inj hq hmr e
    subst this
    rw [hp] at hqp;cases hqp
def Before (A:List Nat) (i j:Nat):Prop:=isAnc A j i = false∧j ≠ i
theorem order_pairwise {ops:List Oper} (hB:Back ops) {c:List Nat} (hc:okOrder ops c [] = true):c.Pairwise (Before (ancs ops [])):=by
 have hnd:=okOrder_nodup hc
 have:∀ (c2 c1:List Nat),c = c1++c2→c2.Pairwise (Before (ancs ops [])):=by
  intro c2
  induction c2 with
  | nil=>intro c1 _;exact .nil
  | cons j c2 ih =>
   intro c1 h
   refine .cons (fun r hr=>?_) (ih (c1++[j]) (by simp [h]))
   rw [h] at hnd
   obtain ⟨_,hn2,hn3⟩:=List.nodup_append.1 hnd
   refine ⟨?_,fun e=>?_⟩
   ·cases ha:isAnc (ancs ops []) r j with
    | false=>rfl
    | true =>
     have:=anc_before hB hc j r c1 c2 h ha
     exact absurd rfl (hn3 r this r (by simp [hr]))
   ·subst e
    exact (List.nodup_cons.1 hn2).1 hr
 exact this c [] (by simp)
theorem sink_pairwise {P:Program} {ops:List Oper} {A:List Nat}:∀ (l seen:List Nat),okSink P ops A l seen = true →
  (∀ m ∈ seen,∀ e ∈ l,isEff P ops e = true→isMake P ops m = true→isAnc A m e = true)∧l.Pairwise (fun m e=>isEff P ops e = true→isMake P ops m = true→isAnc A m e = true)
 | [],_,_=>⟨by simp,.nil⟩
 | i::l,seen,h=>by
  simp only [okSink,Bool.and_eq_true] at h
  obtain ⟨h1,h2⟩:=h
  obtain ⟨g1,g2⟩:=sink_pairwise l (seen++[i]) h2
  refine ⟨fun m hm e he hE hM=>?_,.cons (fun e he=>g1 i (by simp) e he) g2⟩
  rcases List.mem_cons.1 he with rfl | he
  ·rw [hE] at h1
   simp only [Bool.not_true,Bool.false_or,List.all_eq_true] at h1
   simpa [hM] using h1 m hm
  ·exact g1 m (by simp [hm]) e he hE hM
theorem draw_all (hP:OkT C.P) (hC:∀ t z,C.cmp t = some z→CmpT C.P t z) (hmix:C.P.follows .mixedOrders = true) (hc:CallsOk C.P calls) {ops:Array Oper} {fr:Fr} {h:H} {x:Ex} {fr':Fr} {h':H} (hok:okDraw C.P ops.toList = true)
  (hrun:runD C calls ops.toList (ancs ops.toList []) none (canon C.P ops.toList) fr h ⟨[],[]⟩ = some (x,fr',h')) {φ:Phi} {w:World} {a:Act} (R:Rel φ h w) (hf:AVL φ (Nf φ) w fr a.tmps.toList) (hd:a.defers = []) (t:Nat) :
  wpOps C.P ops (After φ h w x fr' h') (Region.schedule (C.P.follows .mixedOrders) ops t) a { w with drawn:=w.drawn + 1 }:=by
 simp only [okDraw,Bool.and_eq_true] at hok
 obtain ⟨⟨⟨hpair,hmem⟩,hord⟩,hsink⟩:=hok
 have hB:Back ops.toList:=by
  intro j o ho e he hb
  have hj:j < ops.toList.length:=(List.getElem?_eq_some_iff.1 ho).1
  have:=List.all_eq_true.1 hpair j (by simpa using hj)
  simp only [Bool.and_eq_true,ho] at this
  have:=List.all_eq_true.1 this.1 e he
  simpa [hb] using this
 have hij:∀ i j,i < ops.size→j < ops.size→i ≠ j→(i ≥ j ∨ ¬ (isEff C.P ops.toList i = true∧isEff C.P ops.toList j = true) ∨ isAnc (ancs ops.toList []) i j = true)∧okSlots ops.toList (ancs ops.toList []) i j = true:=by
  intro i j hi hj hne
  have:=List.all_eq_true.1 hpair j (by simpa using hj)
  simp only [Bool.and_eq_true] at this
  have:=List.all_eq_true.1 this.2 i (by simpa using hi)
  simp only [Bool.or_eq_true,beq_iff_eq,hne,false_or,Bool.and_eq_true,decide_eq_true_eq,Bool.not_eq_true',Bool.and_eq_false_iff] at this
  refine ⟨?_,this.2⟩
  rcases this.1 with (h | h) | h
  ·exact .inl h
  ·refine .inr (.inl fun ⟨h1,h2⟩=>?_)
   rcases h with h | h
   ·rw [h] at h1;cases h1
   ·rw [h] at h2;cases h2
  ·exact .inr (.inr h)
 obtain ⟨T,fr2,h2,ht,_,hcr,hends⟩:=trace_live (A:=ancs ops.toList []) (ops:=ops.toList) _ _ _ _ _ _ _ hrun
 have hsub:(T.map (·.i)).Sublist (canon C.P ops.toList):=by
  rcases hends with ⟨_,_,_,h4,_⟩ | ⟨v,T1,e,T2,l1,l2,_,h2,_,_,_,h6,h7,h8,_⟩
  ·rw [h4];exact List.Sublist.refl _
  ·rw [h6,h2]
   simp only [List.map_append,List.map_cons,h7,h8]
   exact (List.Sublist.refl _).append ((List.filter_sublist).cons_cons _)
 have hbef:=List.pairwise_map.1 ((order_pairwise hB hord).sublist hsub)
 have hsk:=List.pairwise_map.1 ((sink_pairwise _ _ hsink).2.sublist hsub)
 have hlt:∀ q ∈ T,q.i < ops.size:=by
  intro q hq
  have:=(List.getElem?_eq_some_iff.1 (Tr.good ht hq).op).1
  simpa using this
 have heff:∀ q ∈ T,q.isE C→isEff C.P ops.toList q.i = true:=by
  intro q hq hE
  simp [isEff,(Tr.good ht hq).op,hE.2]
 have X:Ctx C calls ops.toList (ancs ops.toList []) T fr h fr2 h2:=by
  refine ⟨ht,hcr, ?_, ?_, ?_, ?_⟩
  ·intro q hq r hr hne y hy hty
   have:=(hij q.i r.i (hlt q hq) (hlt r hr) hne).2
   simp only [okSlots,(Tr.good ht hq).op,(Tr.good ht hr).op,hy,Bool.or_eq_true,Bool.not_eq_true'] at this
   rcases this with (h | h) | h
   ·have:(touches ops.toList r.o).contains y = true:=by simpa using hty
    rw [this] at h;cases h
   ·exact .inl h
   ·exact .inr h
  ·intro q hq r hr hqE hrE hne
   rcases Nat.lt_or_gt_of_ne hne with h | h
   ·rcases (hij q.i r.i (hlt q hq) (hlt r hr) hne).1 with h1 | h1 | h1
    ·omega
    ·exact absurd ⟨heff q hq hqE,heff r hr hrE⟩ h1
    ·exact .inl h1
   ·rcases (hij r.i q.i (hlt r hr) (hlt q hq) (fun e=>hne e.symm)).1 with h1 | h1 | h1
    ·omega
    ·exact absurd ⟨heff r hr hrE,heff q hq hqE⟩ h1
    ·exact .inr h1
  ·intro T1 q T2 hT r hr
   rw [hT] at hbef
   exact (List.pairwise_cons.1 (List.pairwise_append.1 hbef).2.1).1 r hr
  ·intro T1 e T2 hT hE m hm hM
   have hmT:m ∈ T:=by rw [hT];simp [hm]
   have heT:e ∈ T:=by rw [hT];simp
   rw [hT] at hsk
   exact (List.pairwise_append.1 hsk).2.2 m hm e (by simp) (heff e heT hE) (by simp [isMake,(Tr.good ht hmT).op,hM.2])
 have hg:Gh fr h:=⟨φ,w,a,R,hf⟩
 have hn2:h.next ≤ h2.next:=(Tr.gh hP hC hc ht hg).2
 simp only [Region.schedule,hmix,Bool.true_or,if_true]
 refine wpAny_sound ops.size t _ a _ ?_
 obtain ⟨R1,G1⟩:=rel_same (w':={ w with drawn:=w.drawn + 1 }) R rfl rfl rfl rfl
 refine walk hP hC hc hB X hg R ?_ ?_ ?_ ops.size _ φ ⟨h2.next,h.f⟩ h _ a (by simp) ?_ ?_ ?_ ?_
 ·intro hpan a' w' hA
  rcases hends with ⟨rfl,rfl,rfl,_⟩ | ⟨v,T1,e,T2,l1,l2,_,h2,h3,_⟩
  ·exact hA
  ·have:=hpan e (by rw [h2];simp)
   rw [h3] at this;cases this
 ·intro r hr hp v cv φ' a' w' hv hd' R' G hvr
  rcases hends with ⟨rfl,rfl,rfl,_,h5⟩ | ⟨v',T1,e,T2,l1,l2,rfl,h2,h3,h4,h5,_,_,_,h9,h10⟩
  ·have:=h5 r hr;rw [hp] at this;cases this
  ·have:r = e:=by
    rw [h2] at hr
    rcases List.mem_append.1 hr with h | h
    ·have:=h9 r h;rw [hp] at this;cases this
    ·rcases List.mem_cons.1 h with h | h
     ·exact h
     ·have:=(h10 r h).1;rw [hp] at this;cases this
   subst this
   rw [h4] at hv
   cases hv
   subst h5
   exact ⟨φ',R',G,hd',cv,hvr,rfl⟩
 ·intro j hj
  have hjc:j ∈ canon C.P ops.toList:=by
   have:=List.all_eq_true.1 hmem j (by simpa using hj)
   simpa using this
  rcases hends with ⟨_,_,_,h4,_⟩ | ⟨v,T1,e,T2,l1,l2,_,h2,h3,_,_,h6,h7,h8,_⟩
  ·rw [← h4] at hjc
   obtain ⟨r,hr,he⟩:=List.mem_map.1 hjc
   exact .inl ⟨r,hr,he⟩
  ·rw [h6] at hjc
   rcases List.mem_append.1 hjc with h | h
   ·rw [← h7] at h
    obtain ⟨r,hr,he⟩:=List.mem_map.1 h
    exact .inl ⟨r,by rw [h2];simp [hr],he⟩
   ·rcases List.mem_cons.1 h with h | h
    ·exact .inl ⟨e,by rw [h2];simp,h.symm⟩
    ·cases ha:isAnc (ancs ops.toList []) e.i j with
     | true=>exact .inr ⟨e,by rw [h2];simp,h3,ha⟩
     | false =>
      have:j ∈ T2.map (·.i):=by rw [h8];simp [h,ha]
      obtain ⟨r,hr,he⟩:=List.mem_map.1 this
      exact .inl ⟨r,by rw [h2];simp [hr],he⟩
 ·exact Nat.le_trans List.countP_le_length (by simp)
 ·intro j o hj
  simp [Array.getD_eq_getD_getElem?,Array.getElem?_replicate] at hj
  split at hj <;> simp at hj
 ·intro q hq hp
  simp [Array.getD_eq_getD_getElem?,Array.getElem?_replicate]
  split <;> rfl
 ·have hS:(fun i=>(Array.replicate ops.size false).getD i false) = fun _=>false:=by
   funext i
   simp [Array.getD_eq_getD_getElem?,Array.getElem?_replicate]
   split <;> rfl
  rw [hS]
  have hfold:∀ (T:List Rec) (f:Fr),foldF (fun _=>false) T f = f:=by
   intro T
   induction T with
   | nil=>intro f;rfl
   | cons r T ih=>intro f;simp only [foldF,oqF,if_false];exact ih f
  refine ⟨⟨fun b k hb=>Nat.lt_of_lt_of_le (R1.lt b k hb) hn2,R1.blk,R1.sep,fun b v l hb=>⟨Nat.lt_of_lt_of_le (R1.dom b v l hb).1 hn2,(R1.dom b v l hb).2⟩,R1.ver,R1.frz⟩, ?_, ?_,hd,rfl,.inl ⟨rfl,fun _ _ _=>rfl⟩, ?_, ?_⟩
  ·exact ⟨⟨G1.sub,hn2,G1.size,G1.keep,G1.own,G1.os,G1.tape,G1.output,G1.keepF,G1.F,G1.fresh,G1.q⟩,G1.names,G1.keepB⟩
  ·show AVL φ (Nf φ) _ (foldF (fun _=>false) T fr) _
   rw [hfold]
   exact G1.avl hf
  ·intro b B
   constructor
   ·exact fun hb=>.inl ⟨R1.lt b B hb,hb⟩
   ·rintro (⟨_,h⟩ | ⟨m,_,_,hm,_⟩)
    ·exact h
    ·cases hm
  ·exact fun b v l hb=>.inl (R1.dom b v l hb).1
theorem draw_ok (hP:OkT C.P) (hC:∀ t z,C.cmp t = some z→CmpT C.P t z) (hmix:C.P.follows .mixedOrders = true) (hc:CallsOk C.P calls):DrawOk C calls :=
 fun id ops fr h x fr' h' hok hrun φ w a R hf hd=>wp_region_draw fun t=>draw_all hP hC hmix hc hok hrun R hf hd t
end
end Go.Ab
namespace Go.Ab
def Le (c d:Calls'):Prop:=∀ f args h r,c f args h = some r→d f args h = some r
abbrev Rec':=Code→Fr→H→Out
def LeR (c d:Rec'):Prop:=∀ x fr h r,c x fr h = some r→d x fr h = some r
section
variable {C:Conf} {c d:Calls'}
theorem runO_mono (hl:Le c d) {fr:Fr} {h:H} {o:Oper} {r:RO} (hr:runO C c fr h o = some r):runO C d fr h o = some r:=by
 simp only [runO,oqE,oqB] at hr ⊢
 obtain ⟨ro,hop,hr⟩:=hr
 refine ⟨ro,hop, ?_⟩
 cases ro with
 | call f args h' =>
  simp only [oqB] at hr ⊢
  obtain ⟨cr,hc,hr⟩:=hr
  exact ⟨cr,hl _ _ _ _ hc,hr⟩
 | _=>exact hr
theorem runOp_mono (hl:Le c d) {fr:Fr} {h:H} {o:Oper} {r:Ex × Fr × H} (hr:runOp C c fr h o = some r):runOp C d fr h o = some r:=by
 simp only [runOp,oqE,oqB] at hr ⊢
 obtain ⟨ro,hop,hr⟩:=hr
 exact ⟨ro,runO_mono hl hop,hr⟩
theorem runOps_mono (hl:Le c d) {ops:List Oper}:∀ {l:List Oper} {fr:Fr} {h:H} {r:Ex × Fr × H},runOps C c ops l fr h = some r→runOps C d ops l fr h = some r
 | [],_,_,_,hr=>hr
 | o::l,fr,h,r,hr=>by
  simp only [runOps,oqE,oqB] at hr ⊢
  obtain ⟨b,hb,hr⟩:=hr
  refine ⟨b,hb, ?_⟩
  cases b with
  | true =>
   simp only [if_true,oqB] at hr ⊢
   obtain ⟨⟨x,fr',h'⟩,hop,hr⟩:=hr
   refine ⟨_,runOp_mono hl hop, ?_⟩
   cases x <;> first | exact runOps_mono hl hr | exact hr
  | false =>
   simp only [oqF,if_false,oqB] at hr ⊢
   obtain ⟨fr',hp,hr⟩:=hr
   exact ⟨fr',hp,runOps_mono hl hr⟩
theorem runD_mono (hl:Le c d) {ops:List Oper} {A:List Nat}:∀ {l:List Nat} {dead:Option (Nat × AS × Fr × H)} {fr:Fr} {h:H} {s:Seen} {r:Ex × Fr × H},runD C c ops A dead l fr h s = some r→runD C d ops A dead l fr h s = some r
 | [],dead,fr,h,s,r,hr=>by
  cases dead with
  | none=>simpa [runD] using hr
  | some e=>obtain ⟨_,v,fr',h'⟩:=e;simpa [runD] using hr
 | i::l,dead,fr,h,s,r,hr=>by
  by_cases hd:(match dead with | some (e,_)=>isAnc A e i | none=>false) = true
  ·rcases dead with _ | ⟨e,v,fr',h'⟩
   ·cases hd
   ·rw [runD] at hr ⊢;rw [if_pos hd] at hr ⊢;exact runD_mono hl hr
  ·rcases dead with _ | ⟨e,v,fr',h'⟩
   all_goals
   rw [runD] at hr ⊢
   rw [if_neg hd] at hr ⊢
   simp only [oqE,oqB] at hr ⊢
   obtain ⟨o,ho,b,hb,hr⟩:=hr
   refine ⟨o,ho,b,hb, ?_⟩
   cases b with
   | false =>
    simp only [oqF,if_false,oqB] at hr ⊢
    obtain ⟨fr',hp,hr⟩:=hr
    exact ⟨fr',hp,runD_mono hl hr⟩
   | true =>
    simp only [if_true] at hr ⊢
    split at hr
    ·split at hr
     ·cases hr
     ·rename_i hds
      rw [if_neg hds]
      simp only [oqB] at hr ⊢
      obtain ⟨ro,hop,hr⟩:=hr
      refine ⟨ro,runO_mono hl hop, ?_⟩
      cases ro with
      | ok v h' =>
       simp only at hr ⊢
       split at hr
       ·rename_i hall
        rw [if_pos hall]
        simp only [oqB] at hr ⊢
        obtain ⟨fr',hp,hr⟩:=hr
        exact ⟨fr',hp,runD_mono hl hr⟩
       ·cases hr
      | pan v h'=>exact runD_mono hl hr
    ·simp only [oqB] at hr ⊢
     obtain ⟨v,hv,hr⟩:=hr
     refine ⟨v,hv, ?_⟩
     split at hr
     ·rename_i hall
      rw [if_pos hall]
      simp only [oqB] at hr ⊢
      obtain ⟨fr',hp,hr⟩:=hr
      exact ⟨fr',hp,runD_mono hl hr⟩
     ·cases hr
    ·simp only [oqB] at hr ⊢
     obtain ⟨ro,hop,hr⟩:=hr
     refine ⟨ro,runO_mono hl hop, ?_⟩
     cases ro with
     | ok v h' =>
      simp only [oqB] at hr ⊢
      obtain ⟨fr',hp,hr⟩:=hr
      exact ⟨fr',hp,runD_mono hl hr⟩
     | pan v h'=>exact hr
theorem step_mono (hl:Le c d) {p q:Rec'} (hr':LeR p q) {x:Code} {fr:Fr} {h:H} {r:Ex × Fr × H} (hr:step C c p x fr h = some r):step C d q x fr h = some r:=by
 unfold step at hr ⊢
 split at hr
 ·exact hr
 ·exact hr
 ·rename_i ops draw
  cases draw with
  | false=>simp only [oqF,if_false] at hr ⊢;exact runOps_mono hl hr
  | true =>
   simp only [if_true] at hr ⊢
   split at hr
   ·rename_i hk;rw [if_pos hk];exact runD_mono hl hr
   ·cases hr
 ·simp only [oqE,oqB] at hr ⊢
  obtain ⟨⟨x1,fr1,h1⟩,ha,hr⟩:=hr
  refine ⟨_,hr' _ _ _ _ ha, ?_⟩
  cases x1 <;> first | exact hr' _ _ _ _ hr | exact hr
 ·simp only [oqE,oqB] at hr ⊢
  obtain ⟨v,hv,hr⟩:=hr
  refine ⟨v,hv, ?_⟩
  split at hr
  ·exact hr' _ _ _ _ hr
  ·cases hr
 ·simp only [oqE,oqB] at hr ⊢
  obtain ⟨⟨x1,fr1,h1⟩,ha,hr⟩:=hr
  exact ⟨_,hr' _ _ _ _ ha,hr⟩
 ·simp only [oqE,oqB] at hr ⊢
  obtain ⟨⟨x1,fr1,h1⟩,ha,hr⟩:=hr
  refine ⟨_,hr' _ _ _ _ ha, ?_⟩
  cases x1 <;> first | exact hr' _ _ _ _ hr | exact hr
 ·exact hr
 ·exact hr
 ·cases hr
structure PrimOk (C:Conf):Prop where
 mono:∀ f g,C.prim f = some g→∀ c d,Le c d→∀ args h r,g c args h = some r→g d args h = some r
 cont:∀ f g,C.prim f = some g→∀ (c:Nat→Calls') (w:Calls'),(∀ m n,m ≤ n→Le (c m) (c n))→(∀ f args h r,w f args h = some r→∃ n,c n f args h = some r)→∀ args h r,g w args h = some r→∃ n,g (c n) args h = some r
theorem callF_mono (hP:PrimOk C) (hl:Le c d) {p q:Rec'} (hr':LeR p q) {f:Nat} {args:List AV} {h:H} {r:CR} (hr:callF C c p f args h = some r):callF C d q f args h = some r:=by
 unfold callF at hr ⊢
 split at hr
 ·rename_i g hg;exact hP.mono f g hg c d hl args h r hr
 ·exact hr
 ·simp only [oqE,oqB] at hr ⊢
  obtain ⟨fn,hfn,b,hb,hr⟩:=hr
  refine ⟨fn,hfn,b,hb, ?_⟩
  split at hr
  ·cases hr
  ·rename_i hlt
   rw [if_neg hlt]
   by_cases hz:C.frz f = true
   ·rw [if_pos hz] at hr ⊢
    simp only [oqB] at hr ⊢
    obtain ⟨as,hv,⟨x,fr',h'⟩,ha,hr⟩:=hr
    exact ⟨as,hv,_,hr' _ _ _ _ ha,hr⟩
   ·rw [if_neg hz] at hr ⊢
    simp only [oqB] at hr ⊢
    obtain ⟨⟨x,fr',h'⟩,ha,hr⟩:=hr
    exact ⟨_,hr' _ _ _ _ ha,hr⟩
theorem both_succ (hP:PrimOk C):∀ n,LeR (exec C n) (exec C (n + 1))∧Le (call C n) (call C (n + 1))
 | 0=>⟨fun _ _ _ _ h=>by simp [exec,both] at h,fun _ _ _ _ h=>by simp [call,both] at h⟩
 | n + 1=>by
  obtain ⟨h1,h2⟩:=both_succ hP n
  exact ⟨fun x fr h r hr=>step_mono (C:=C) h2 h1 hr,fun f args h r hr=>callF_mono (C:=C) hP h2 h1 hr⟩
theorem call_le (hP:PrimOk C) {m n:Nat} (h:m ≤ n):Le (call C m) (call C n):=by
 induction h with
 | refl=>exact fun _ _ _ _ h=>h
 | step _ ih=>exact fun f args h r hr=>(both_succ hP _).2 _ _ _ _ (ih f args h r hr)
theorem exec_le (hP:PrimOk C) {m n:Nat} (h:m ≤ n):LeR (exec C m) (exec C n):=by
 induction h with
 | refl=>exact fun _ _ _ _ h=>h
 | step _ ih=>exact fun f args h r hr=>(both_succ hP _).1 _ _ _ _ (ih f args h r hr)
end
open Classical in
noncomputable def W (C:Conf):Calls':=fun f args h=>if hx:∃ r n,call C n f args h = some r then some (Classical.choose hx) else none
open Classical in
noncomputable def X (C:Conf):Rec':=fun c fr h=>if hx:∃ r n,exec C n c fr h = some r then some (Classical.choose hx) else none
section
variable {C:Conf}
theorem W_iff (hP:PrimOk C) {f:Nat} {args:List AV} {h:H} {r:CR}:W C f args h = some r ↔ ∃ n,call C n f args h = some r:=by
 unfold W
 constructor
 ·intro hr
  split at hr
  ·rename_i hx
   simp only [oqI] at hr;subst hr
   exact Classical.choose_spec hx
  ·cases hr
 ·rintro ⟨n,hn⟩
  have hx:∃ r n,call C n f args h = some r:=⟨r,n,hn⟩
  rw [dif_pos hx]
  obtain ⟨m,hm⟩:=Classical.choose_spec hx
  have h1:=call_le hP (Nat.le_max_left n m) _ _ _ _ hn
  have h2:=call_le hP (Nat.le_max_right n m) _ _ _ _ hm
  rw [h1] at h2
  exact h2.symm
theorem X_iff (hP:PrimOk C) {c:Code} {fr:Fr} {h:H} {r:Ex × Fr × H}:X C c fr h = some r ↔ ∃ n,exec C n c fr h = some r:=by
 unfold X
 constructor
 ·intro hr
  split at hr
  ·rename_i hx
   simp only [oqI] at hr;subst hr
   exact Classical.choose_spec hx
  ·cases hr
 ·rintro ⟨n,hn⟩
  have hx:∃ r n,exec C n c fr h = some r:=⟨r,n,hn⟩
  rw [dif_pos hx]
  obtain ⟨m,hm⟩:=Classical.choose_spec hx
  have h1:=exec_le hP (Nat.le_max_left n m) _ _ _ _ hn
  have h2:=exec_le hP (Nat.le_max_right n m) _ _ _ _ hm
  rw [h1] at h2
  exact h2.symm
theorem call_le_W (hP:PrimOk C) (n:Nat):Le (call C n) (W C):=fun f args h r hr=>(W_iff hP).2 ⟨n,hr⟩
theorem exec_le_X (hP:PrimOk C) (n:Nat):LeR (exec C n) (X C):=fun f args h r hr=>(X_iff hP).2 ⟨n,hr⟩
section
variable {cs:Nat→Calls'} {ww:Calls'} {es:Nat→Rec'} {xx:Rec'} (hm:∀ m n,m ≤ n→Le (cs m) (cs n)) (hw:∀ f args h r,ww f args h = some r→∃ n,cs n f args h = some r)
section
include hm hw
omit hm in
theorem runO_cont {fr:Fr} {h:H} {o:Oper} {r:RO} (hr:runO C ww fr h o = some r):∃ n,runO C (cs n) fr h o = some r:=by
 simp only [runO,oqE,oqB] at hr ⊢
 obtain ⟨ro,hop,hr⟩:=hr
 cases ro with
 | call f args h' =>
  simp only [oqB] at hr
  obtain ⟨cr,hc,hr⟩:=hr
  obtain ⟨n,hn⟩:=hw _ _ _ _ hc
  exact ⟨n,_,hop,by simp only [oqB];exact ⟨cr,hn,hr⟩⟩
 | _=>exact ⟨0,_,hop,hr⟩
omit hm in
theorem runOp_cont {fr:Fr} {h:H} {o:Oper} {r:Ex × Fr × H} (hr:runOp C ww fr h o = some r):∃ n,runOp C (cs n) fr h o = some r:=by
 simp only [runOp,oqE,oqB] at hr ⊢
 obtain ⟨ro,hop,hr⟩:=hr
 obtain ⟨n,hn⟩:=runO_cont hw hop
 exact ⟨n,ro,hn,hr⟩
theorem runOps_cont {ops:List Oper}:∀ {l:List Oper} {fr:Fr} {h:H} {r:Ex × Fr × H},runOps C ww ops l fr h = some r→∃ n,runOps C (cs n) ops l fr h = some r
 | [],_,_,_,hr=>⟨0,hr⟩
 | o::l,fr,h,r,hr=>by
  simp only [runOps,oqE,oqB] at hr ⊢
  obtain ⟨b,hb,hr⟩:=hr
  cases b with
  | true =>
   simp only [if_true,oqB] at hr
   obtain ⟨⟨x,fr',h'⟩,hop,hr⟩:=hr
   obtain ⟨n1,hn1⟩:=runOp_cont hw hop
   cases x with
   | normal =>
    simp only at hr
    obtain ⟨n2,hn2⟩:=runOps_cont hr
    refine ⟨max n1 n2,true,hb, ?_⟩
    simp only [if_true,oqB]
    exact ⟨_,runOp_mono (hm _ _ (Nat.le_max_left _ _)) hn1,runOps_mono (hm _ _ (Nat.le_max_right _ _)) hn2⟩
   | _ =>
    refine ⟨n1,true,hb, ?_⟩
    simp only [if_true,oqB]
    exact ⟨_,hn1,hr⟩
  | false =>
   simp only [oqF,if_false,oqB] at hr
   obtain ⟨fr',hp,hr⟩:=hr
   obtain ⟨n2,hn2⟩:=runOps_cont hr
   refine ⟨n2,false,hb, ?_⟩
   simp only [oqF,if_false,oqB]
   exact ⟨fr',hp,hn2⟩
open Classical in
noncomputable def runN (C:Conf) (calls:Calls') (ops:List Oper) (A:List Nat) (dead:Option (Nat × AS × Fr × H)) (i:Nat) (l:List Nat) (fr:Fr) (h:H) (s:Seen):Out:=do
  let o ← ops[i]?
  if ← wantedA fr ops o then
   match clsOf C.P o with
   | .eff =>
    if dead.isSome then none else
    match ← runO C calls fr h o with
    | .ok v h'=>if ∀ r ∈ s.rds,isAnc A r.1 i = true ∨ r.2.1 h' = some r.2.2 then runD C calls ops A dead l (← Fr.put fr o.dst v) h' { s with effs:=(i,h,h)::s.effs } else none
    | .pan v h'=>runD C calls ops A (some (i,v,fr,h')) l fr h s
   | .read=>do
    let v ← ask C fr o h
    if ∀ e ∈ s.effs,isAnc A e.1 i = true ∨ ask C fr o e.2.1 = some v ∨ ask C fr o e.2.2 = some v then
     runD C calls ops A dead l (← Fr.put fr o.dst v) h { s with rds:=(i,ask C fr o,v)::s.rds }
    else none
   | _=>match ← runO C calls fr h o with
    | .ok v h'=>runD C calls ops A dead l (← Fr.put fr o.dst v) h' (s.ghost h h')
    | .pan _ _=>none
  else runD C calls ops A dead l (← Fr.put fr o.dst .undef) h s
theorem runD_cont {ops:List Oper} {A:List Nat}:∀ {l:List Nat} {dead:Option (Nat × AS × Fr × H)} {fr:Fr} {h:H} {s:Seen} {r:Ex × Fr × H},runD C ww ops A dead l fr h s = some r→∃ n,runD C (cs n) ops A dead l fr h s = some r
 | [],dead,fr,h,s,r,hr=>by
  cases dead with
  | none=>exact ⟨0,by simpa [runD] using hr⟩
  | some e=>obtain ⟨_,v,fr',h'⟩:=e;exact ⟨0,by simpa [runD] using hr⟩
 | i::l,dead,fr,h,s,r,hr=>by
  have hgo:∀ (hc:(match dead with | some (e,_)=>isAnc A e i | none=>false) = false),∃ n,runD C (cs n) ops A dead (i::l) fr h s = some r:=by
   intro hc
   have hunf:∀ c:Calls',runD C c ops A dead (i::l) fr h s = runN C c ops A dead i l fr h s:=by
    intro c
    rcases dead with _ | ⟨e,v,fr',h'⟩
    ·rw [runD];simp only [oqF,if_false];rfl
    ·have hc':¬ isAnc A e i = true:=by simp only at hc;simp [hc]
     rw [runD,if_neg hc'];rfl
   rw [hunf] at hr
   simp only [hunf]
   unfold runN at hr ⊢
   simp only [oqE,oqB] at hr ⊢
   obtain ⟨o,ho,b,hb,hr⟩:=hr
   cases b with
   | false =>
    simp only [oqF,if_false,oqB] at hr
    obtain ⟨fr',hp,hr⟩:=hr
    obtain ⟨n,hn⟩:=runD_cont hr
    exact ⟨n,o,ho,false,hb,by simp only [oqF,if_false,oqB];exact ⟨fr',hp,hn⟩⟩
   | true =>
    simp only [if_true] at hr
    split at hr
    ·rename_i hcls
     split at hr
     ·cases hr
     ·rename_i hds
      simp only [oqB] at hr
      obtain ⟨ro,hop,hr⟩:=hr
      obtain ⟨n1,hn1⟩:=runO_cont hw hop
      cases ro with
      | ok v h' =>
       simp only at hr
       split at hr
       ·rename_i hall
        simp only [oqB] at hr
        obtain ⟨fr',hp,hr⟩:=hr
        obtain ⟨n2,hn2⟩:=runD_cont hr
        refine ⟨max n1 n2,o,ho,true,hb, ?_⟩
        simp only [if_true,hcls,if_neg hds,oqB]
        refine ⟨_,runO_mono (hm _ _ (Nat.le_max_left _ _)) hn1, ?_⟩
        simp only [if_pos hall,oqB]
        exact ⟨fr',hp,runD_mono (hm _ _ (Nat.le_max_right _ _)) hn2⟩
       ·cases hr
      | pan v h' =>
       obtain ⟨n2,hn2⟩:=runD_cont hr
       refine ⟨max n1 n2,o,ho,true,hb, ?_⟩
       simp only [if_true,hcls,if_neg hds,oqB]
       exact ⟨_,runO_mono (hm _ _ (Nat.le_max_left _ _)) hn1,runD_mono (hm _ _ (Nat.le_max_right _ _)) hn2⟩
    ·rename_i hcls
     simp only [oqB] at hr
     obtain ⟨v,hv,hr⟩:=hr
     split at hr
     ·rename_i hall
      simp only [oqB] at hr
      obtain ⟨fr',hp,hr⟩:=hr
      obtain ⟨n2,hn2⟩:=runD_cont hr
      refine ⟨n2,o,ho,true,hb, ?_⟩
      simp only [if_true,hcls,oqB]
      exact ⟨v,hv,by simp only [if_pos hall,oqB];exact ⟨fr',hp,hn2⟩⟩
     ·cases hr
    ·rename_i hne hnr
     simp only [oqB] at hr
     obtain ⟨ro,hop,hr⟩:=hr
     obtain ⟨n1,hn1⟩:=runO_cont hw hop
     cases ro with
     | ok v h' =>
      simp only [oqB] at hr
      obtain ⟨fr',hp,hr⟩:=hr
      obtain ⟨n2,hn2⟩:=runD_cont hr
      refine ⟨max n1 n2,o,ho,true,hb, ?_⟩
      simp only [if_true,oqB]
      ·exact ⟨_,runO_mono (hm _ _ (Nat.le_max_left _ _)) hn1,by simp only [oqB];exact ⟨fr',hp,runD_mono (hm _ _ (Nat.le_max_right _ _)) hn2⟩⟩
     | pan v h'=>cases hr
  rcases dead with _ | ⟨e,v,fr',h'⟩
  ·exact hgo rfl
  ·by_cases hd:isAnc A e i = true
   ·rw [runD,if_pos hd] at hr
    obtain ⟨n,hn⟩:=runD_cont hr
    exact ⟨n,by rw [runD,if_pos hd];exact hn⟩
   ·exact hgo (by simpa using hd)
theorem step_cont (hq:∀ m n,m ≤ n→LeR (es m) (es n)) (hx:∀ x fr h r,xx x fr h = some r→∃ n,es n x fr h = some r) {x:Code} {fr:Fr} {h:H} {r:Ex × Fr × H} (hr:step C ww xx x fr h = some r):∃ n,step C (cs n) (es n) x fr h = some r:=by
 unfold step at hr ⊢
 cases x <;> simp only at hr ⊢
 case skip=>exact ⟨0,hr⟩
 case label l=>exact ⟨0,hr⟩
 case region id ops draw =>
  cases draw with
  | false=>simp only [oqF,if_false] at hr ⊢;exact runOps_cont hm hw hr
  | true =>
   simp only [if_true] at hr ⊢
   split at hr
   ·rename_i hk;simp only [if_pos hk];exact runD_cont hm hw hr
   ·cases hr
 case seq a b =>
  simp only [oqE,oqB] at hr ⊢
  obtain ⟨⟨x1,fr1,h1⟩,ha,hr⟩:=hr
  obtain ⟨n1,hn1⟩:=hx _ _ _ _ ha
  cases x1 with
  | normal =>
   obtain ⟨n2,hn2⟩:=hx _ _ _ _ hr
   exact ⟨max n1 n2,_,hq _ _ (Nat.le_max_left _ _) _ _ _ _ hn1,hq _ _ (Nat.le_max_right _ _) _ _ _ _ hn2⟩
  | _=>exact ⟨n1,_,hn1,hr⟩
 case cond c a b =>
  simp only [oqE,oqB] at hr ⊢
  obtain ⟨v,hv,hr⟩:=hr
  split at hr
  ·obtain ⟨n,hn⟩:=hx _ _ _ _ hr
   exact ⟨n,_,hv,hn⟩
  ·cases hr
 case block id b =>
  simp only [oqE,oqB] at hr ⊢
  obtain ⟨⟨x1,fr1,h1⟩,ha,hr⟩:=hr
  obtain ⟨n1,hn1⟩:=hx _ _ _ _ ha
  exact ⟨n1,_,hn1,hr⟩
 case loop b =>
  simp only [oqE,oqB] at hr ⊢
  obtain ⟨⟨x1,fr1,h1⟩,ha,hr⟩:=hr
  obtain ⟨n1,hn1⟩:=hx _ _ _ _ ha
  cases x1 with
  | normal =>
   obtain ⟨n2,hn2⟩:=hx _ _ _ _ hr
   exact ⟨max n1 n2,_,hq _ _ (Nat.le_max_left _ _) _ _ _ _ hn1,hq _ _ (Nat.le_max_right _ _) _ _ _ _ hn2⟩
  | _=>exact ⟨n1,_,hn1,hr⟩
 case exit id=>exact ⟨0,hr⟩
 case ret=>exact ⟨0,hr⟩
 all_goals cases hr
theorem callF_cont (hP:PrimOk C) (hxx:∀ x fr h r,xx x fr h = some r→∃ n,es n x fr h = some r) {f:Nat} {args:List AV} {h:H} {r:CR} (hr:callF C ww xx f args h = some r):∃ n,callF C (cs n) (es n) f args h = some r:=by
 unfold callF at hr ⊢
 split at hr
 ·rename_i g hg
  exact hP.cont f g hg cs ww hm hw args h r hr
 ·rename_i x hp hx
  exact ⟨0,hr⟩
 ·rename_i hp hx
  simp only [oqE,oqB] at hr ⊢
  obtain ⟨fn,hfn,b,hb,hr⟩:=hr
  split at hr
  ·cases hr
  ·rename_i hlt
   by_cases hz:C.frz f = true
   ·rw [if_pos hz] at hr
    simp only [oqB] at hr
    obtain ⟨as,hv,⟨x,fr',h'⟩,ha,hr⟩:=hr
    obtain ⟨n,hn⟩:=hxx _ _ _ _ ha
    refine ⟨n,fn,hfn,b,hb, ?_⟩
    rw [if_neg hlt,if_pos hz]
    simp only [oqB]
    exact ⟨as,hv,_,hn,hr⟩
   ·rw [if_neg hz] at hr
    simp only [oqB] at hr
    obtain ⟨⟨x,fr',h'⟩,ha,hr⟩:=hr
    obtain ⟨n,hn⟩:=hxx _ _ _ _ ha
    refine ⟨n,fn,hfn,b,hb, ?_⟩
    rw [if_neg hlt,if_neg hz]
    simp only [oqB]
    exact ⟨_,hn,hr⟩
end
end
theorem X_eq (hP:PrimOk C) (c:Code) (fr:Fr) (h:H):X C c fr h = step C (W C) (X C) c fr h:=by
 apply Option.ext
 intro r
 constructor
 ·intro hr
  obtain ⟨n,hn⟩:=(X_iff hP).1 hr
  cases n with
  | zero=>simp [exec,both] at hn
  | succ n=>exact step_mono (C:=C) (call_le_W hP n) (exec_le_X hP n) hn
 ·intro hr
  obtain ⟨n,hn⟩:=step_cont (fun m n h=>call_le hP h) (fun f args h r hr=>(W_iff hP).1 hr) (fun m n h=>exec_le hP h) (fun x fr h r hr=>(X_iff hP).1 hr) hr
  exact (X_iff hP).2 ⟨n + 1,hn⟩
theorem W_eq (hP:PrimOk C) (f:Nat) (args:List AV) (h:H):W C f args h = callF C (W C) (X C) f args h:=by
 apply Option.ext
 intro r
 constructor
 ·intro hr
  obtain ⟨n,hn⟩:=(W_iff hP).1 hr
  cases n with
  | zero=>simp [call,both] at hn
  | succ n=>exact callF_mono (C:=C) hP (call_le_W hP n) (exec_le_X hP n) hn
 ·intro hr
  obtain ⟨n,hn⟩:=callF_cont (fun m n h=>call_le hP h) (fun f args h r hr=>(W_iff hP).1 hr) hP (fun x fr h r hr=>(X_iff hP).1 hr) hr
  exact (W_iff hP).2 ⟨n + 1,hn⟩
theorem W_ok (hP:OkT C.P) (hC:∀ t z,C.cmp t = some z→CmpT C.P t z) (hO:OkC C) (hp:PrimOk C) (hmix:C.P.follows .mixedOrders = true):CallsOk C.P (W C):=by
 intro f args h r hr φ w cargs R ha
 obtain ⟨n,hn⟩:=(W_iff hp).1 hr
 exact (both_ok hP hC hO (fun calls hc=>draw_ok hP hC hmix hc) n).2 f args h r hn φ w cargs R ha
end
end Go.Ab
namespace Go.Ab
noncomputable def execF (C:Conf) (c:Calls'):Nat→Rec'
 | 0=>fun _ _ _=>none
 | n + 1=>step C c (execF C c n)
open Classical in
noncomputable def XX (C:Conf) (c:Calls'):Rec':=fun x fr h=>if hx:∃ r n,execF C c n x fr h = some r then some (Classical.choose hx) else none
section
variable {C:Conf} {c d:Calls'}
end
end Go.Ab
