/- A heap whose blocks bear other numbers: what was run apart may stand at any heap. No conditions. -/
import Derived.Test.YtkpmdlcmbemgdaaGreatAb4
import Derived.Test.YtkpmdlcmbemgdaaGreatAbI
import Derived.Test.YtkpmdlcmbemgdaaGreatFa3
set_option linter.unusedVariables false
set_option linter.unusedSimpArgs false
set_option linter.unnecessarySimpa false
namespace Go.Ab
mutual
def mS (ρ:Nat→Nat):AS→AS
 | .bool b=>.bool b
 | .int k n=>.int k n
 | .flt b=>.flt b
 | .nan=>.nan
 | .nanb=>.nanb
 | .nanf=>.nanf
 | .str s=>.str s
 | .nilptr=>.nilptr
 | .ptr b v o=>.ptr (ρ b) v o
 | .rp l o=>.rp (mL ρ l) o
 | .nilslc=>.nilslc
 | .slc b v o n s c=>.slc (ρ b) v o n s c
 | .vs n s l=>.vs n s (mL ρ l)
 | .fn f a b=>.fn f (mL ρ a) (mL ρ b)
 | .nilfn=>.nilfn
 | .ifc t v=>.ifc t (mS ρ v)
 | .nilifc=>.nilifc
def mL (ρ:Nat→Nat):List AS→List AS
 | []=>[]
 | a::l=>mS ρ a::mL ρ l
end
theorem mL_map {ρ:Nat→Nat}:∀ (l:List AS),mL ρ l = l.map (mS ρ)
 | []=>by rw [mL];rfl
 | a::l=>by rw [mL,mL_map l];rfl
def mV (ρ:Nat→Nat):AV→AV
 | .undef=>.undef
 | .one a=>.one (mS ρ a)
 | .agg l=>.agg (mL ρ l)
 | .tup ps=>.tup (ps.map fun p=>(p.1,mL ρ p.2))
 | .opq=>.opq
def mF (ρ:Nat→Nat) (fr:Fr):Fr:=fr.map (mV ρ)
def mB (ρ:Nat→Nat) (k:Blk):Blk:=⟨k.ver,k.exts,k.fixed,mL ρ k.cells⟩
structure Rn where
 r:Nat→Nat
 K:Nat→Prop
 D:Nat→Prop
 f:Nat→Option Blk
 inj:∀ a b,K a→K b→r a = r b→a = b
 off:∀ b,D b→∀ a,K a→r a ≠ b
structure Hrn (R:Rn) (h h':H):Prop where
 f:∀ b k,h.f b = some k→h'.f (R.r b) = some (mB R.r k)
 dom:∀ b k,h.f b = some k→R.K b
 top:∀ b,h.next ≤ b→h.f b = none∧R.K b∧R.r b = h'.next + (b - h.next)
 fr:∀ b,R.D b→b < h'.next∧h'.f b = R.f b
section
variable {R:Rn}
theorem mB_ext {ρ:Nat→Nat} {k:Blk} {v:Nat}:(mB ρ k).ext v = k.ext v:=rfl
theorem mL_len {ρ:Nat→Nat} {l:List AS}:(mL ρ l).length = l.length:=by rw [mL_map,List.length_map]
theorem mL_app {ρ:Nat→Nat} {l m:List AS}:mL ρ (l++m) = mL ρ l++mL ρ m:=by simp only [mL_map,List.map_append]
theorem mL_take {ρ:Nat→Nat} {l:List AS} {n:Nat}:mL ρ (l.take n) = (mL ρ l).take n:=by simp only [mL_map,List.map_take]
theorem mL_drop {ρ:Nat→Nat} {l:List AS} {n:Nat}:mL ρ (l.drop n) = (mL ρ l).drop n:=by simp only [mL_map,List.map_drop]
theorem mL_sub {ρ:Nat→Nat} {l q:List AS} {o n:Nat} (h:sub l o n = some q):sub (mL ρ l) o n = some (mL ρ q):=by
 unfold sub at h ⊢
 rw [mL_len]
 split at h
 ·rename_i hc
  simp only [oqI] at h;subst h
  rw [if_pos hc,mL_take,mL_drop]
 ·cases h
theorem mL_lay {ρ:Nat→Nat} {l new:List AS} {o:Nat}:mL ρ (lay l o new) = lay (mL ρ l) o (mL ρ new):=by
 unfold lay
 simp only [mL_app,mL_take,mL_drop,mL_len]
theorem Hrn.set {h h':H} (L:Hrn R h h') {b:Nat} {k0:Blk} (hk:h.f b = some k0) {k:Blk} {k':Blk} (e:k' = mB R.r k):Hrn R (h.set b k) (h'.set (R.r b) k'):=by
 subst e
 have hb:b < h.next:=by
  rcases Nat.lt_or_ge b h.next with h1 | h1
  ·exact h1
  ·rw [(L.top b h1).1] at hk;cases hk
 refine ⟨fun c q hq=>?_,fun c q hq=>?_,fun c hc=>?_,fun c hc=>?_⟩
 ·simp only [H.set] at hq ⊢
  by_cases hc:c = b
  ·subst hc
   rw [if_pos rfl] at hq ⊢
   simp only [oqI] at hq;subst hq;rfl
  ·rw [if_neg hc] at hq
   rw [if_neg fun e=>hc (R.inj _ _ (L.dom _ _ hq) (L.dom _ _ hk) e)]
   exact L.f c q hq
 ·simp only [H.set] at hq
  by_cases hc:c = b
  ·subst hc;exact L.dom _ _ hk
  ·rw [if_neg hc] at hq;exact L.dom _ _ hq
 ·have hc:h.next ≤ c:=hc
  obtain ⟨h1,h2,h3⟩:=L.top c hc
  refine ⟨?_,h2,h3⟩
  simp only [H.set]
  rw [if_neg (by omega)];exact h1
 ·obtain ⟨h1,h2⟩:=L.fr c hc
  refine ⟨h1, ?_⟩
  simp only [H.set]
  rw [if_neg fun e=>R.off c hc b (L.dom _ _ hk) e.symm]
  exact h2
theorem Hrn.nx {h h':H} (L:Hrn R h h'):R.r h.next = h'.next:=by
 have:=(L.top h.next (Nat.le_refl _)).2.2
 omega
theorem Hrn.new {h h':H} (L:Hrn R h h') {k k':Blk} (e:k' = mB R.r k):Hrn R (h.new k) (h'.new k'):=by
 subst e
 refine ⟨fun c q hq=>?_,fun c q hq=>?_,fun c hc=>?_,fun c hc=>?_⟩
 ·simp only [H.new] at hq ⊢
  by_cases hc:c = h.next
  ·subst hc
   rw [if_pos rfl] at hq
   simp only [oqI] at hq;subst hq
   rw [if_pos L.nx]
  ·rw [if_neg hc] at hq
   rw [if_neg]
   ·exact L.f c q hq
   ·rw [← L.nx]
    exact fun e=>hc (R.inj _ _ (L.dom _ _ hq) (L.top h.next (Nat.le_refl _)).2.1 e)
 ·simp only [H.new] at hq
  by_cases hc:c = h.next
  ·subst hc;exact (L.top h.next (Nat.le_refl _)).2.1
  ·rw [if_neg hc] at hq;exact L.dom _ _ hq
 ·have hc:h.next + 1 ≤ c:=hc
  obtain ⟨h1,h2,h3⟩:=L.top c (by omega)
  refine ⟨?_,h2, ?_⟩
  ·simp only [H.new]
   rw [if_neg (by omega)];exact h1
  ·simp only [H.new];omega
 ·obtain ⟨h1,h2⟩:=L.fr c hc
  simp only [H.new]
  rw [if_neg (by omega)]
  exact ⟨by omega,h2⟩
theorem mB_blkOf {ρ:Nat→Nat} {l:List AS} {b:Bool}:blkOf (mL ρ l) b = mB ρ (blkOf l b):=by
 unfold blkOf mB
 rw [mL_len]
theorem constS_m {ρ:Nat→Nat} {v:Value} {a:AS} (h:constS v = some a):mS ρ a = a:=by
 unfold constS at h
 split at h <;> simp only [oqI,reduceCtorEq] at h <;> subst h <;> simp only [mS]
theorem constL_m {ρ:Nat→Nat}:∀ {l:List Value} {q:List AS},constL l = some q→mL ρ q = q
 | [],q,h=>by simp only [constL,oqI] at h;subst h;simp only [mL]
 | v::l,q,h=>by
  simp only [constL,oqE,oqB,oqI] at h
  obtain ⟨a,ha,r,hr,rfl⟩:=h
  rw [mL,constS_m ha,constL_m hr]
theorem constV_m {ρ:Nat→Nat} {v:Value} {a:AV} (h:constV v = some a):mV ρ a = a:=by
 unfold constV at h
 split at h
 ·simp only [oqE,oqB,oqI] at h
  obtain ⟨l,hl,rfl⟩:=h
  simp only [mV,constL_m hl]
 ·simp only [oqE,oqB,oqI] at h
  obtain ⟨l,hl,rfl⟩:=h
  simp only [mV,constS_m hl]
theorem zeroT_m {ρ:Nat→Nat} {P:Program} {t:Nat} {z:List AS} (h:zeroT P t = some z):mL ρ z = z:=by
 simp only [zeroT,oqE,oqB] at h
 obtain ⟨i,hi,q,hq,h⟩:=h
 exact constL_m h
theorem repL_m {ρ:Nat→Nat} {z:List AS}:∀ (n:Nat),mL ρ (repL z n) = repL (mL ρ z) n
 | 0=>by rw [repL,repL,mL]
 | n + 1=>by rw [repL,repL,mL_app,repL_m n]
theorem bytes_m {ρ:Nat→Nat}:∀ {l:List UInt8},mL ρ (l.map byteS) = l.map byteS
 | []=>by rw [List.map_nil,mL]
 | a::l=>by rw [List.map_cons,mL,bytes_m];rfl
theorem bytesOf_m {ρ:Nat→Nat}:∀ {l:List AS} {q:List UInt8},bytesOf l = some q→bytesOf (mL ρ l) = some q
 | [],q,h=>by rw [mL];exact h
 | .int .u8 n::l,q,h=>by
  rw [mL,mS]
  rw [bytesOf] at h ⊢
  split at h
  ·rename_i hc
   rw [if_pos hc]
   simp only [oqE,oqB,oqI] at h ⊢
   obtain ⟨r,hr,rfl⟩:=h
   exact ⟨r,bytesOf_m hr,rfl⟩
  ·cases h
theorem get_m {ρ:Nat→Nat} {fr:Fr} {i:Nat}:Fr.get (mF ρ fr) i = mV ρ (Fr.get fr i):=by
 unfold Fr.get mF
 rw [List.getElem?_map]
 cases fr[i]? <;> rfl
theorem put_m {ρ:Nat→Nat} {fr fr':Fr} {d:Option Nat} {v:AV} (h:Fr.put fr d v = some fr'):Fr.put (mF ρ fr) d (mV ρ v) = some (mF ρ fr'):=by
 unfold Fr.put at h ⊢
 cases d with
 | none=>simp only [oqI] at h ⊢;subst h;rfl
 | some d =>
  simp only at h ⊢
  have e:(mF ρ fr).length = fr.length:=List.length_map ..
  rw [e]
  split at h
  ·rename_i hc
   rw [if_pos hc]
   simp only [oqI] at h ⊢;subst h
   unfold mF
   rw [List.map_set]
  ·cases h
theorem ev_m {ρ:Nat→Nat} {fr:Fr} {x:Operand} {v:AV} (h:ev fr x = some v):ev (mF ρ fr) x = some (mV ρ v):=by
 cases x with
 | tmp t =>
  simp only [ev,oqI] at h ⊢
  rw [get_m,h]
 | const c =>
  simp only [ev] at h ⊢
  rw [constV_m h];exact h
 | global g=>cases h
 | func f =>
  simp only [ev,oqI] at h ⊢
  subst h
  simp only [mV,mS,mL]
theorem evS_m {ρ:Nat→Nat} {fr:Fr} {x:Operand} {v:AS} (h:evS fr x = some v):evS (mF ρ fr) x = some (mS ρ v):=by
 simp only [evS,oqE,oqB] at h
 obtain ⟨a,ha,h⟩:=h
 have:=ev_m (ρ:=ρ) ha
 cases a <;> simp only [oqI,reduceCtorEq] at h
 subst h
 simp only [evS,this,oqE,oqS,mV]
theorem evL_m {ρ:Nat→Nat} {fr:Fr}:∀ {l:List Operand} {vs:List AV},evL fr l = some vs→evL (mF ρ fr) l = some (vs.map (mV ρ))
 | [],vs,h=>by simp only [evL,oqI] at h;subst h;rfl
 | x::l,vs,h=>by
  simp only [evL,oqE,oqB,oqI] at h
  obtain ⟨a,ha,r,hr,rfl⟩:=h
  simp only [evL,ev_m ha,evL_m hr,oqE,oqS,List.map_cons]
theorem evSL_m {ρ:Nat→Nat} {fr:Fr}:∀ {l:List Operand} {vs:List AS},evSL fr l = some vs→evSL (mF ρ fr) l = some (mL ρ vs)
 | [],vs,h=>by simp only [evSL,oqI] at h;subst h;simp only [evSL,mL]
 | x::l,vs,h=>by
  simp only [evSL,oqE,oqB,oqI] at h
  obtain ⟨a,ha,r,hr,rfl⟩:=h
  simp only [evSL,evS_m ha,evSL_m hr,oqE,oqS,mL]
theorem evO_m {ρ:Nat→Nat} {fr:Fr} {x:Option Operand} {v:Option AV} (h:evO fr x = some v):evO (mF ρ fr) x = some (v.map (mV ρ)):=by
 cases x with
 | none=>simp only [evO,oqI] at h;subst h;rfl
 | some x =>
  simp only [evO,oqE,oqB,oqI] at h
  obtain ⟨a,ha,rfl⟩:=h
  simp only [evO,ev_m ha,oqE,oqS,Option.map_some]
theorem ones_m {ρ:Nat→Nat}:∀ (l:List AS),(ones l).map (mV ρ) = ones (mL ρ l)
 | []=>by rw [mL];rfl
 | a::l=>by
  rw [mL]
  show mV ρ (.one a)::(ones l).map (mV ρ) = _
  rw [ones_m l];rfl
theorem readC_m {h h':H} (L:Hrn R h h') {p:AS} {n:Nat} {l:List AS} (hr:readC h p n = some l):readC h' (mS R.r p) n = some (mL R.r l):=by
 cases p <;> simp only [readC,oqE,oqB,reduceCtorEq] at hr
 ·obtain ⟨k,hk,e,he,hr⟩:=hr
  split at hr
  ·rename_i hc
   simp only [mS,readC,L.f _ _ hk,mB_ext,he,oqE,oqS,if_pos hc]
   exact mL_sub hr
  ·cases hr
 ·simp only [mS,readC];exact mL_sub hr
theorem writeC_m {h h':H} (L:Hrn R h h') {p:AS} {l:List AS} {h1:H} (hr:writeC h p l = some h1):∃ h1',writeC h' (mS R.r p) (mL R.r l) = some h1'∧Hrn R h1 h1':=by
 cases p <;> simp only [writeC,oqE,oqB,reduceCtorEq] at hr
 obtain ⟨k,hk,e,he,hr⟩:=hr
 split at hr
 ·rename_i hc
  simp only [oqI] at hr;subst hr
  refine ⟨_, ?_,L.set hk rfl⟩
  simp only [mS,writeC,L.f _ _ hk,mB_ext,he,oqE,oqS]
  rw [if_pos (by simp only [mB,mL_len];exact hc)]
  simp only [mB,mL_lay]
 ·cases hr
theorem lenS_m {ρ:Nat→Nat} (x:AS):lenS (mS ρ x) = lenS x:=by cases x <;> simp only [mS,lenS]
theorem intOf_m {ρ:Nat→Nat} (x:AS):intOf (mS ρ x) = intOf x:=by cases x <;> simp only [mS,intOf]
theorem natOf_m {ρ:Nat→Nat} (x:AS):natOf (mS ρ x) = natOf x:=by unfold natOf;rw [intOf_m]
theorem elemsOf_m {h h':H} (L:Hrn R h h') {size n:Nat} {x:AS} {l:List AS} (hr:elemsOf h size n x = some l):elemsOf h' size n (mS R.r x) = some (mL R.r l):=by
 cases x <;> simp only [elemsOf,reduceCtorEq] at hr <;> simp only [mS,elemsOf] <;> split at hr <;> first | (cases hr;done) | skip
 all_goals
  rename_i hc
  rw [if_pos hc]
 ·simp only [oqI] at hr;subst hr;rw [bytes_m]
 ·simp only [oqI] at hr;subst hr;rw [mL]
 ·have:=readC_m L hr
  simpa only [mS] using this
 ·exact mL_sub hr
theorem capA_m {h h':H} (L:Hrn R h h') {x:AS} {n:Nat} (hr:capA h x = some n):capA h' (mS R.r x) = some n:=by
 cases x <;> simp only [capA,reduceCtorEq] at hr <;> simp only [mS,capA]
 ·exact hr
 rename_i c
 cases c with
 | some cc=>exact hr
 | none =>
  simp only [oqE,oqB] at hr ⊢
  obtain ⟨k,hk,e,he,hr⟩:=hr
  refine ⟨_,L.f _ _ hk,e,he, ?_⟩
  simp only [mB,mL_len]
  exact hr
theorem bound_m {ρ:Nat→Nat} {d:Nat} {x:Option AV} {n:Nat} (h:bound d x = some n):bound d (x.map (mV ρ)) = some n:=by
 cases x with
 | none=>exact h
 | some v =>
  cases v <;> simp only [bound,reduceCtorEq] at h
  simp only [Option.map_some,mV,bound,natOf_m,h]
theorem sliceA_m {h h':H} (L:Hrn R h h') {size:Nat} {x:AS} {lo hi mx:Option AV} {q:AS} (hr:sliceA h size x lo hi mx = some q):sliceA h' size (mS R.r x) (lo.map (mV R.r)) (hi.map (mV R.r)) (mx.map (mV R.r)) = some (mS R.r q):=by
 have iss:(mx.map (mV R.r)).isSome = mx.isSome:=by cases mx <;> rfl
 cases x <;> simp only [sliceA,reduceCtorEq] at hr <;> simp only [mS,sliceA,iss]
 ·split at hr
  ·cases hr
  rename_i hc
  rw [if_neg hc]
  simp only [oqE,oqB] at hr
  obtain ⟨l,hl,u,hu,hr⟩:=hr
  simp only [bound_m hl,bound_m hu,oqE,oqS]
  split at hr
  ·rename_i h2
   rw [if_pos h2]
   simp only [oqI] at hr;subst hr;simp only [mS]
  ·cases hr
 ·simp only [oqE,oqB] at hr
  obtain ⟨l,hl,u,hu,m,hm,hr⟩:=hr
  simp only [bound_m hl,bound_m hu,bound_m hm,oqE,oqS]
  split at hr
  ·rename_i h2
   rw [if_pos h2]
   simp only [oqI] at hr;subst hr;simp only [mS]
  ·cases hr
 ·rename_i b v o n s c
  split at hr
  ·cases hr
  rename_i hc
  rw [if_neg hc]
  simp only [oqE,oqB] at hr
  obtain ⟨l,hl,u,hu,hr⟩:=hr
  simp only [bound_m hl,bound_m hu,oqE,oqS]
  split at hr
  ·cases hr
  rename_i hc2
  rw [if_neg hc2]
  cases mx with
  | some m =>
   simp only [oqB] at hr
   obtain ⟨m',hm,hr⟩:=hr
   have:=bound_m (ρ:=R.r) hm
   simp only [Option.map_some] at this
   simp only [Option.map_some,this,oqS]
   split at hr
   ·rename_i h2
    rw [if_pos h2]
    simp only [oqI] at hr;subst hr;simp only [mS]
   ·cases hr
  | none =>
   simp only [Option.map_none]
   simp only at hr
   split at hr
   ·rename_i hc3
    rw [if_pos hc3]
    simp only [oqI] at hr;subst hr;simp only [mS]
   ·rename_i hc3
    rw [if_neg hc3]
    cases c with
    | some cc=>cases hr
    | none =>
     simp only [oqB] at hr ⊢
     obtain ⟨k,hk,e,he,hr⟩:=hr
     refine ⟨_,L.f _ _ hk,e,he, ?_⟩
     split at hr
     ·rename_i h2
      rw [if_pos h2]
      simp only [oqI] at hr;subst hr;simp only [mS]
     ·cases hr
 ·split at hr
  ·cases hr
  rename_i hc
  rw [if_neg hc]
  cases mx with
  | some m =>
   simp only [oqE,oqB] at hr
   obtain ⟨l,hl,u,hu,m',hm,hr⟩:=hr
   have:=bound_m (ρ:=R.r) hm
   simp only [Option.map_some] at this
   simp only [Option.map_some,bound_m hl,bound_m hu,this,oqE,oqS]
   split at hr
   ·rename_i h2
    rw [if_pos h2]
    simp only [oqI] at hr;subst hr;simp only [mS,mL]
   ·cases hr
  | none =>
  simp only [Option.map_none]
  simp only [oqE,oqB] at hr
  obtain ⟨l,hl,u,hu,hr⟩:=hr
  simp only [bound_m hl,bound_m hu,oqE,oqS]
  split at hr
  ·rename_i h2
   rw [if_pos h2]
   simp only [oqB,oqI] at hr ⊢
   obtain ⟨q',hq,rfl⟩:=hr
   exact ⟨_,mL_sub hq,by simp only [mS]⟩
  ·cases hr
end
end Go.Ab
namespace Go.Ab
section
variable {R:Rn}
theorem appendL_m {h h':H} (L:Hrn R h h') {size bytes n:Nat} {new:List AS} {s r:AS} {h1:H} (hr:appendL size bytes n new h s = some (r,h1)):∃ h1',appendL size bytes n (mL R.r new) h' (mS R.r s) = some (mS R.r r,h1')∧Hrn R h1 h1':=by
 unfold appendL at hr ⊢
 rw [mL_len]
 split at hr
 ·cases hr
 rename_i h0
 rw [if_neg h0]
 have fin:∀ (x:AS) (k:H),some (x,k) = some (r,h1)→∀ (x':AS) (k':H),x' = mS R.r x→Hrn R k k'→∃ h1',some (x',k') = some (mS R.r r,h1')∧Hrn R h1 h1':=by
  intro x k e x' k' e' hk
  simp only [oqI,oqM] at e
  obtain ⟨rfl,rfl⟩:=e
  exact ⟨k',by rw [e'],hk⟩
 cases s <;> simp only at hr <;> first | (cases hr;done) | skip
 ·simp only [mS]
  split at hr
  ·rename_i hn;rw [if_pos hn];exact fin _ _ hr _ _ (by simp only [mS]) L
  ·rename_i hn
   rw [if_neg hn]
   split at hr
   ·rename_i hc;rw [if_pos hc];exact fin _ _ hr _ _ (by simp only [mS,L.nx]) (L.new mB_blkOf)
   ·cases hr
 ·rename_i b v o k s' c
  simp only [mS]
  split at hr
  ·cases hr
  rename_i hs
  rw [if_neg hs]
  split at hr
  ·rename_i hn;rw [if_pos hn];exact fin _ _ hr _ _ (by simp only [mS]) L
  rename_i hn
  rw [if_neg hn]
  split at hr
  ·cases hr
  rename_i hl
  rw [if_neg hl]
  simp only [oqE,oqB] at hr
  obtain ⟨B,hB,E,hE,old,hold,hr⟩:=hr
  have hB':=L.f _ _ hB
  have hold':=readC_m L hold
  simp only [mS] at hold'
  have wr:∀ (q:AS) (c':Option Nat),(Option.map (fun h'=>(AS.slc b v o (k + n) size c',h')) (writeC h q new)) = some (r,h1)→∃ h1',(Option.map (fun h'=>(AS.slc (R.r b) v o (k + n) size c',h')) (writeC h' (mS R.r q) (mL R.r new))) = some (mS R.r r,h1')∧Hrn R h1 h1':=by
   intro q c' e
   simp only [Option.map_eq_some_iff,oqM] at e
   obtain ⟨h2,hw,rfl,rfl⟩:=e
   obtain ⟨h2',hw',L'⟩:=writeC_m L hw
   exact ⟨h2',by rw [hw'];simp only [Option.map_some,mS],L'⟩
  simp only [hB',mB_ext,hE,hold',oqE,oqS]
  have cl:(mB R.r B).cells.length = B.cells.length:=mL_len
  have vr:(mB R.r B).ver = B.ver:=rfl
  have fx:(mB R.r B).fixed = B.fixed:=rfl
  have fr:Hrn R (h.new (blkOf (old++new) false)) (h'.new (blkOf (mL R.r old++mL R.r new) false)):=L.new (by rw [← mL_app,mB_blkOf])
  have frs:AS.slc h'.next 0 0 (k + n) size none = mS R.r (.slc h.next 0 0 (k + n) size none):=by simp only [mS,L.nx]
  cases c with
  | some cc =>
   simp only at hr ⊢
   split at hr
   ·rename_i hc;rw [if_pos hc];simpa only [mS] using wr _ _ hr
   ·rename_i hc;rw [if_neg hc];exact fin _ _ hr _ _ frs fr
  | none =>
   simp only at hr ⊢
   rw [cl,vr,fx]
   split at hr
   ·cases hr
   rename_i h2
   rw [if_neg h2]
   split at hr
   ·rename_i hc;rw [if_pos hc];simpa only [mS] using wr _ _ hr
   rename_i h3
   rw [if_neg h3]
   split at hr
   ·rename_i hc;rw [if_pos hc];exact fin _ _ hr _ _ frs fr
   rename_i h4
   rw [if_neg h4]
   split at hr
   ·rename_i hc
    rw [if_pos hc]
    split at hr
    ·rename_i hc2;rw [if_pos hc2]
     exact fin _ _ hr _ _ (by simp only [mS]) (L.set hB (by simp only [mB,mL_app]))
    ·rename_i hc2;rw [if_neg hc2]
     exact fin _ _ hr _ _ (by simp only [mS]) (L.set hB (by simp only [mB,mL_app,mL_take]))
   ·rename_i hc;rw [if_neg hc]
    have L2:=(L.set hB (k:=⟨v,[],false,[]⟩) (k':=⟨v,[],false,[]⟩) (by simp only [mB,mL]))
    have:=L2.new (k:=blkOf (old++new) false) (k':=blkOf (mL R.r old++mL R.r new) false) (by rw [← mL_app,mB_blkOf])
    exact fin _ _ hr _ _ frs this
 ·simp only [mS]
  split at hr
  ·rename_i h00
   rw [if_pos h00]
   split at hr
   ·rename_i hn;rw [if_pos hn];exact fin _ _ hr _ _ (by simp only [mS,mL]) L
   ·rename_i hn
    rw [if_neg hn]
    split at hr
    ·rename_i hc;rw [if_pos hc];exact fin _ _ hr _ _ (by simp only [mS,L.nx]) (L.new mB_blkOf)
    ·cases hr
  ·cases hr
variable {P:Program} {h h':H}
theorem appendA_m (L:Hrn R h h') {t u:Nat} {s x r:AS} {h1:H} (hr:appendA P t u h s x = some (r,h1)):∃ h1',appendA P t u h' (mS R.r s) (mS R.r x) = some (mS R.r r,h1')∧Hrn R h1 h1':=by
 simp only [appendA,oqE,oqB] at hr
 obtain ⟨el,h2,size,h3,bytes,h4,d,h5,hr⟩:=hr
 simp only [appendA,h2,h3,h4,h5,oqE,oqS]
 cases d <;> simp only [oqB,reduceCtorEq] at hr ⊢
 case int k =>
  obtain ⟨n,h6,z,h7,hr⟩:=hr
  split at hr
  ·rename_i hc
   obtain ⟨h1',e,L'⟩:=appendL_m L hr
   rw [repL_m,zeroT_m h7] at e
   exact ⟨h1',⟨n,by rw [natOf_m];exact h6,z,h7,by rw [if_pos hc];exact e⟩,L'⟩
  ·cases hr
 all_goals
  obtain ⟨n,h6,new,h7,hr⟩:=hr
  obtain ⟨h1',e,L'⟩:=appendL_m L hr
  exact ⟨h1',⟨n,by rw [lenS_m];exact h6,_,elemsOf_m L h7,e⟩,L'⟩
theorem copyA_m (L:Hrn R h h') {t:Nat} {d s r:AS} {h1:H} (hr:copyA P t h d s = some (r,h1)):∃ h1',copyA P t h' (mS R.r d) (mS R.r s) = some (mS R.r r,h1')∧Hrn R h1 h1':=by
 simp only [copyA,oqE,oqB] at hr
 obtain ⟨el,h2,size,h3,dn,h4,sn,h5,l,h6,hr⟩:=hr
 have h6':=elemsOf_m L h6
 simp only [copyA,h2,h3,lenS_m,h4,h5,h6',oqE,oqS]
 cases d <;> simp only [reduceCtorEq] at hr <;> simp only [mS]
 ·simp only [oqI,oqM] at hr
  obtain ⟨rfl,rfl⟩:=hr
  exact ⟨h',by simp only [mS],L⟩
 ·split at hr
  ·cases hr
  rename_i hc
  rw [if_neg hc]
  split at hr
  ·rename_i hn
   simp only [oqI,oqM] at hr
   obtain ⟨rfl,rfl⟩:=hr
   exact ⟨h',by simp only [if_pos hn,mS],L⟩
  ·rename_i hn
   simp only [oqB,oqI,oqM] at hr
   obtain ⟨q,hw,rfl,rfl⟩:=hr
   obtain ⟨q',hw',L'⟩:=writeC_m L hw
   simp only [mS] at hw'
   exact ⟨q',by simp only [if_neg hn,hw',oqS,mS],L'⟩
theorem clearA_m (L:Hrn R h h') {t:Nat} {s:AS} {h1:H} (hr:clearA P t h s = some h1):∃ h1',clearA P t h' (mS R.r s) = some h1'∧Hrn R h1 h1':=by
 simp only [clearA,oqE,oqB] at hr
 obtain ⟨el,h2,hr⟩:=hr
 simp only [clearA,h2,oqE,oqS]
 cases s <;> simp only [reduceCtorEq] at hr <;> simp only [mS]
 ·simp only [oqI] at hr;subst hr
  exact ⟨h',rfl,L⟩
 ·split at hr
  ·rename_i hn
   simp only [oqI] at hr;subst hr
   exact ⟨h',by simp only [if_pos hn],L⟩
  ·rename_i hn
   simp only [oqB] at hr
   obtain ⟨z,hz,hr⟩:=hr
   split at hr
   ·rename_i hc
    obtain ⟨q',hw',L'⟩:=writeC_m L hr
    rw [repL_m,zeroT_m hz] at hw'
    simp only [mS] at hw'
    exact ⟨q',by simp only [if_neg hn,hz,oqS,if_pos hc,hw'],L'⟩
   ·cases hr
variable {ρ:Nat→Nat}
theorem ford_m (a b:AS):ford (mS ρ a) (mS ρ b) = ford a b:=by
 cases a <;> cases b <;> simp only [mS,ford]
theorem farith_m {op:BinOp} {a b r:AS} (h:farith op a b = some r):farith op (mS ρ a) (mS ρ b) = some (mS ρ r):=by
 cases a <;> cases b <;> simp only [farith,reduceCtorEq] at h <;> simp only [mS,farith] <;> cases op <;> simp only [reduceCtorEq,oqI] at h ⊢ <;> subst h <;> first | simp only [mS] | (unfold fres;split <;> simp only [mS])
theorem binI_m {op:BinOp} {k:IntKind} {x y:Int} {r:AS} (h:binI op k x y = some r):mS ρ r = r:=by
 cases op <;> simp only [binI,reduceCtorEq,oqI] at h
 all_goals first
  | (subst h;simp only [mS])
  | (split at h <;> first | (cases h;done) | (simp only [oqI] at h;subst h;simp only [mS]))
theorem shiftI_m {op:BinOp} {k:IntKind} {x y:Int} {r:AS} (h:shiftI op k x y = some r):mS ρ r = r:=by
 unfold shiftI at h
 split at h
 ·cases h
 ·cases op <;> simp only [reduceCtorEq,oqI] at h <;> subst h <;> simp only [mS]
theorem strOp_m {op:BinOp} {a b:List UInt8} {r:AS} (h:strOp op a b = some r):mS ρ r = r:=by
 cases op <;> simp only [strOp,reduceCtorEq,oqI] at h
 all_goals first
  | (subst h;simp only [mS])
  | (split at h <;> first | (cases h;done) | (simp only [oqI] at h;subst h;simp only [mS]))
theorem kinds_m:∀ {z l:List AS},kindsA z l = true→mL ρ l = l
 | [],[],_=>by rw [mL]
 | [],b::y,h=>by simp [kindsA] at h
 | a::x,[],h=>by cases a <;> simp [kindsA] at h
 | a::x,b::y,h=>by
  cases a <;> cases b <;> simp only [kindsA,Bool.and_eq_true,reduceCtorEq,oqF] at h
  ·rw [mL,kinds_m h];simp only [mS]
  ·rw [mL,kinds_m h.2];simp only [mS]
  ·rw [mL,kinds_m h];simp only [mS]
theorem equalA_m {t:Nat} {x y:AV} {b:Bool} (h:equalA P t x y = some b):equalA P t (mV ρ x) (mV ρ y) = some b:=by
 simp only [equalA,oqE,oqB] at h ⊢
 obtain ⟨d,hd,h⟩:=h
 refine ⟨d,hd, ?_⟩
 split at h <;> first | (simp only [mV,mS];exact h) | (cases h;done)
def binG (P:Program) (op:BinOp) (t:Nat) (a b:AS):Option AS :=
 match ford a b with
 | some c=>match op with
  | .add | .sub | .mul=>farith op a b
  | _=>do some (.bool (← fcmp op c))
 | none=>match op with
  | .eql=>do some (.bool (← equalA P t (.one a) (.one b)))
  | .neq=>do some (.bool (!(← equalA P t (.one a) (.one b))))
  | _=>none
def binSp:AS→AS→Bool
 | .int _ _,.int _ _=>true
 | .str _,.str _=>true
 | .nanb,.int .u64 _=>true
 | .nanf,.int .u64 _=>true
 | _,_=>false
theorem binSp_m (a b:AS):binSp (mS ρ a) (mS ρ b) = binSp a b:=by
 cases a <;> cases b <;> simp only [mS,binSp]
theorem bin_G {cmp:Nat→Option (List AS)} {op:BinOp} {t:Nat} {a b:AS} (h:binSp a b = false):bin P cmp op t (.one a) (.one b) = binG P op t a b:=by
 cases a <;> cases b <;> first | rfl | (cases h;done) | (rename_i k n;cases k <;> first | rfl | (cases h;done))
theorem binG_m {op:BinOp} {t:Nat} {r:AS} {a b:AS} (h:binG P op t a b = some r):binG P op t (mS ρ a) (mS ρ b) = some (mS ρ r):=by
 unfold binG at h ⊢
 rw [ford_m]
 cases hf:ford a b with
 | some c =>
  simp only [hf] at h ⊢
  cases op <;> simp only at h ⊢ <;> first
   | exact farith_m h
   | (simp only [oqE,oqB,oqI] at h ⊢;obtain ⟨q,hq,rfl⟩:=h;exact ⟨q,hq,by simp only [mS]⟩)
 | none =>
  simp only [hf] at h ⊢
  cases op <;> simp only [reduceCtorEq] at h ⊢
  all_goals
   simp only [oqE,oqB,oqI] at h ⊢
   obtain ⟨q,hq,rfl⟩:=h
   have:=equalA_m (ρ:=ρ) hq
   simp only [mV] at this
   exact ⟨q,this,by simp only [mS]⟩
theorem bin_one {cmp:Nat→Option (List AS)} {op:BinOp} {t:Nat} {a b r:AS} (hs:binSp a b = true) (h:bin P cmp op t (.one a) (.one b) = some r):mS ρ a = a∧mS ρ b = b∧mS ρ r = r:=by
 unfold binSp at hs
 split at hs
 ·refine ⟨by simp only [mS],by simp only [mS], ?_⟩
  rename_i k a k' b
  simp only [bin] at h
  cases op <;> simp only at h
  all_goals first
   | exact shiftI_m h
   | (split at h <;> first | exact binI_m h | cases h)
 ·refine ⟨by simp only [mS],by simp only [mS], ?_⟩
  simp only [bin] at h
  exact strOp_m h
 ·refine ⟨by simp only [mS],by simp only [mS], ?_⟩
  simp only [bin] at h
  split at h
  ·simp only [oqI] at h;subst h;simp only [mS]
  ·split at h
   ·simp only [oqI] at h;subst h;simp only [mS]
   ·cases h
 ·refine ⟨by simp only [mS],by simp only [mS], ?_⟩
  simp only [bin] at h
  split at h
  ·cases op <;> simp only [reduceCtorEq,oqI] at h <;> subst h <;> simp only [mS]
  ·cases h
 ·cases hs
theorem bin_m {cmp:Nat→Option (List AS)} {op:BinOp} {t:Nat} {x y:AV} {r:AS} (h:bin P cmp op t x y = some r):bin P cmp op t (mV ρ x) (mV ρ y) = some (mS ρ r):=by
 cases x <;> cases y <;> try (simp only [bin,reduceCtorEq] at h;done)
 ·rename_i a b
  simp only [mV]
  cases hs:binSp a b with
  | false =>
   rw [bin_G hs] at h
   rw [bin_G (by rw [binSp_m];exact hs)]
   exact binG_m h
  | true =>
   obtain ⟨e1,e2,e3⟩:=bin_one (ρ:=ρ) hs h
   rw [e1,e2,e3];exact h
 ·rename_i a b
  simp only [bin] at h
  split at h
  ·rename_i z hz
   split at h
   ·rename_i hk
    have hk2:=hk
    simp only [Bool.and_eq_true] at hk2
    simp only [mV,bin,kinds_m hk2.1,kinds_m hk2.2,hz,if_pos hk]
    cases op <;> simp only [reduceCtorEq] at h ⊢
    all_goals
     simp only [oqE,oqB,oqI] at h ⊢
     obtain ⟨q,hq,rfl⟩:=h
     exact ⟨q,hq,by simp only [mS]⟩
   ·cases h
  ·cases h
theorem un_m {op:UnOp} {x:AV} {r:AS} (h:un op x = some r):un op (mV ρ x) = some (mS ρ r):=by
 unfold un at h
 split at h <;> simp only [oqI,reduceCtorEq] at h <;> subst h <;> simp only [mV,mS,un]
theorem minmax_m {m:Bool} {x y r:AS} (h:minmax m x y = some r):minmax m (mS ρ x) (mS ρ y) = some (mS ρ r):=by
 unfold minmax at h
 split at h
 ·split at h
  ·rename_i hk
   simp only [oqI] at h;subst h
   simp only [mS,minmax,if_pos hk]
  ·cases h
 ·rename_i x y
  cases m with
  | true=>simp only [if_true,oqI] at h;subst h;simp only [mS,minmax,if_true]
  | false=>simp at h
 ·cases h
theorem minmaxL_m {m:Bool}:∀ {l:List AS} {a r:AS},minmaxL m a l = some r→minmaxL m (mS ρ a) (mL ρ l) = some (mS ρ r)
 | [],a,r,h=>by
  simp only [minmaxL,oqI] at h;subst h
  simp only [mL,minmaxL]
 | b::l,a,r,h=>by
  simp only [minmaxL,oqE,oqB] at h
  obtain ⟨q,hq,h⟩:=h
  simp only [mL,minmaxL,minmax_m hq,oqE,oqS]
  exact minmaxL_m h
theorem cells_m {v:AV} {l:List AS} (h:v.cells = some l):(mV ρ v).cells = some (mL ρ l):=by
 cases v <;> simp only [AV.cells,reduceCtorEq,oqI] at h <;> subst h <;> simp only [mV,AV.cells,mL]
theorem ofCells_m {g:Bool} {l:List AS} {v:AV} (h:ofCells g l = some v):ofCells g (mL ρ l) = some (mV ρ v):=by
 cases g with
 | true =>
  simp only [ofCells,if_true,oqI] at h ⊢;subst h;simp only [mV]
 | false =>
  simp only [ofCells,oqF,if_false] at h ⊢
  split at h
  ·simp only [oqI] at h;subst h
   simp only [mL,mV]
  ·cases h
theorem parts_m {place:Nat→Option (Nat × Nat)} {fr:Fr}:∀ {l:List (Nat × Operand)} {z q:List AS},parts place fr l z = some q→parts place (mF ρ fr) l (mL ρ z) = some (mL ρ q)
 | [],z,q,h=>by
  simp only [parts,oqI] at h;subst h
  simp only [parts]
 | (i,x)::l,z,q,h=>by
  simp only [parts,oqE,oqB] at h
  obtain ⟨⟨o,size⟩,hp,v,hv,c,hc,h⟩:=h
  simp only at h
  split at h
  ·rename_i hk
   simp only [parts,hp,ev_m hv,cells_m hc,oqE,oqS]
   rw [if_pos (by rw [mL_len,mL_len];exact hk),← mL_lay]
   exact parts_m h
  ·cases h
end
end Go.Ab
namespace Go.Ab
section
variable {R:Rn} {P:Program} {h h':H}
def ORm (R:Rn):OR→OR→Prop
 | .val v h,.val v' h'=>v' = mV R.r v∧Hrn R h h'
 | .skip h,.skip h'=>Hrn R h h'
 | .call f a h,.call f' a' h'=>f = f'∧a' = a.map (mV R.r)∧Hrn R h h'
 | .pan v h,.pan v' h'=>v' = mS R.r v∧Hrn R h h'
 | _,_=>False
theorem indexA_m {t:Nat} {x q:AS} {i:Nat} (hr:indexA P t x i = some q):indexA P t (mS R.r x) i = some (mS R.r q):=by
 simp only [indexA,oqE,oqB] at hr
 obtain ⟨d,hd,hr⟩:=hr
 simp only [indexA,hd,oqE,oqS]
 cases d <;> simp only [reduceCtorEq] at hr <;> simp only [oqB] at hr <;> obtain ⟨size,hs,hr⟩:=hr <;> simp only [hs,oqS]
 all_goals
  cases x <;> simp only [reduceCtorEq] at hr <;> simp only [mS]
  all_goals
   split at hr
   ·rename_i hc
    rw [if_pos hc]
    simp only [oqI] at hr;subst hr;simp only [mS]
   ·cases hr
theorem sliceSize_m {t:Nat} {x:AS} {n:Nat} (hr:sliceSize P t x = some n):sliceSize P t (mS R.r x) = some n:=by
 simp only [sliceSize,oqE,oqB] at hr
 obtain ⟨d,hd,hr⟩:=hr
 simp only [sliceSize,hd,oqE,oqS]
 cases d <;> cases x <;> simp only [reduceCtorEq] at hr <;> simp only [mS] <;> exact hr
theorem convA_m (L:Hrn R h h') {s d:Nat} {x:AS} {r:OR} (hr:convA P s d x h = some r):∃ r',convA P s d (mS R.r x) h' = some r'∧ORm R r r':=by
 simp only [convA,oqE,oqB] at hr
 obtain ⟨ds,hds,dd,hdd,hr⟩:=hr
 simp only [convA,hds,hdd,oqE,oqS]
 split at hr
 ·simp only [oqI] at hr;subst hr
  simp only [mS]
  exact ⟨_,rfl,by simp only [mV,mS],L⟩
 ·simp only [oqI] at hr;subst hr
  simp only [mS]
  exact ⟨_,rfl,by simp only [mV,mS],L⟩
 ·simp only [oqI] at hr;subst hr
  simp only [mS]
  exact ⟨_,rfl,by simp only [mV,mS],L⟩
 ·simp only [oqI] at hr;subst hr
  simp only [mS]
  rename_i ds b
  refine ⟨one (.str b) h', ?_,by simp only [mV,mS],L⟩
  cases ds <;> rfl
 ·rename_i u hh1 hh2 hh3
  split at hr
  ·rename_i hb
   split at hr
   ·cases hr
   ·rename_i hns
    simp only [oqB,oqI] at hr
    obtain ⟨n,hn,l,hl,t,ht,rfl⟩:=hr
    refine ⟨one (.str t) h', ?_,by simp only [mV,mS],L⟩
    have hl':=elemsOf_m L hl
    have hn':=hn
    rw [← lenS_m (ρ:=R.r)] at hn'
    have ht':=bytesOf_m (ρ:=R.r) ht
    have e1:(match mS R.r x with | .str _=>none | _=>(do let l ← elemsOf h' 1 (← lenS (mS R.r x)) (mS R.r x);some (one (.str (← bytesOf l)) h')):Option OR) = some (one (.str t) h'):=by
     cases x <;> first | exact absurd rfl (hns _) | (simp only [mS] at hn' hl' ⊢;simp only [hn',hl',ht',oqE,oqS])
    cases x <;> first | exact absurd rfl (hns _) | (simp only [mS] at e1 ⊢;simp only [if_pos hb];exact e1)
  ·cases hr
 ·rename_i u b
  split at hr
  ·rename_i hb
   simp only [oqI] at hr;subst hr
   refine ⟨one (.slc h'.next 0 0 b.length 1 none) (h'.new (blkOf (b.map byteS) false)), ?_,by simp only [mV,mS,L.nx],L.new (by rw [← mB_blkOf,bytes_m])⟩
   simp only [mS]
   show (if isByteT P u∧sizeT P u = some 1∧b.length ≤ limit then some (one (.slc h'.next 0 0 b.length 1 none) (h'.new (blkOf (b.map byteS) false))) else none:Option OR) = _
   rw [if_pos hb]
  ·cases hr
 ·rename_i u0 u b v o n s' c
  split at hr
  ·rename_i hb
   simp only [oqB,oqI] at hr
   obtain ⟨k,hk,e,he,rfl⟩:=hr
   simp only [mS]
   refine ⟨one (.slc (R.r b) v o n s' c) (h'.set (R.r b) { (mB R.r k) with fixed:=false }), ?_,by simp only [mV,mS],L.set hk rfl⟩
   rw [if_pos hb]
   simp only [L.f _ _ hk,mB_ext,he,oqS]
  ·cases hr
 ·cases hr
theorem builtinA_m (L:Hrn R h h') {b:Builtin} {tys:List Nat} {us:List AS} {r:OR} (hr:builtinA P b tys us h = some r):∃ r',builtinA P b tys (mL R.r us) h' = some r'∧ORm R r r':=by
 unfold builtinA at hr
 split at hr
 ·rename_i x
  simp only [oqE,oqB] at hr
  obtain ⟨n,hn,t,ht,d,hd,hr⟩:=hr
  have hn':=hn
  rw [← lenS_m (ρ:=R.r)] at hn'
  simp only [mL,builtinA,hn',ht,hd,oqE,oqS]
  split at hr
  ·simp only [oqI] at hr;subst hr
   simp only [mS]
   exact ⟨_,rfl,by simp only [mV,mS],L⟩
  ·cases hr
  ·rename_i h1 h2
   simp only [oqI] at hr;subst hr
   refine ⟨one (.int .i64 n) h', ?_,by simp only [mV,mS],L⟩
   cases x <;> simp only [mS] <;> first | rfl | (exact absurd rfl (h2 _))
  ·cases hr
 ·simp only [oqE,oqB] at hr
  obtain ⟨t,ht,d,hd,hr⟩:=hr
  cases d <;> simp only [reduceCtorEq] at hr
  simp only [oqB,oqI] at hr
  obtain ⟨n,hn,rfl⟩:=hr
  simp only [mL,builtinA,ht,hd,capA_m L hn,oqE,oqS]
  exact ⟨_,rfl,by simp only [mV,mS],L⟩
 ·simp only [oqE,oqB,oqI] at hr
  obtain ⟨t,ht,u,hu,⟨q,h1⟩,hq,rfl⟩:=hr
  obtain ⟨h1',e,L'⟩:=appendA_m L hq
  simp only [mL,builtinA,ht,hu,e,oqE,oqS]
  exact ⟨_,rfl,by simp only [mV],L'⟩
 ·simp only [oqE,oqB,oqI] at hr
  obtain ⟨t,ht,⟨q,h1⟩,hq,rfl⟩:=hr
  obtain ⟨h1',e,L'⟩:=copyA_m L hq
  simp only [mL,builtinA,ht,e,oqE,oqS]
  exact ⟨_,rfl,by simp only [mV],L'⟩
 ·simp only [oqE,oqB,oqI] at hr
  obtain ⟨t,ht,h1,hq,rfl⟩:=hr
  obtain ⟨h1',e,L'⟩:=clearA_m L hq
  simp only [mL,builtinA,ht,e,oqE,oqS]
  exact ⟨_,rfl,by simp only [mV,List.map_nil],L'⟩
 ·simp only [oqE,oqB,oqI] at hr
  obtain ⟨q,hq,rfl⟩:=hr
  simp only [mL,builtinA,minmaxL_m hq,oqE,oqS]
  exact ⟨_,rfl,by simp only [mV],L⟩
 ·simp only [oqE,oqB,oqI] at hr
  obtain ⟨q,hq,rfl⟩:=hr
  simp only [mL,builtinA,minmaxL_m hq,oqE,oqS]
  exact ⟨_,rfl,by simp only [mV],L⟩
 ·cases hr
theorem callA_m (L:Hrn R h h') {fr:Fr} {c:Call} {r:OR} (hr:callA P fr h c = some r):∃ r',callA P (mF R.r fr) h' c = some r'∧ORm R r r':=by
 obtain ⟨callee,args,at'⟩:=c
 cases callee with
 | builtin b =>
  simp only [callA,oqE,oqB] at hr ⊢
  obtain ⟨us,hus,hr⟩:=hr
  obtain ⟨r',e,L'⟩:=builtinA_m L hr
  exact ⟨r',⟨_,evSL_m hus,e⟩,L'⟩
 | value f =>
  simp only [callA,oqE,oqB] at hr ⊢
  obtain ⟨g,hg,hr⟩:=hr
  cases g <;> simp only [reduceCtorEq,oqB,oqI] at hr
  obtain ⟨ls0,hls,rfl⟩:=hr
  have:=evS_m (ρ:=R.r) hg
  simp only [mS] at this
  rename_i g' first caps
  refine ⟨.call g' (ones (mL R.r first)++(ls0.map (mV R.r)++ones (mL R.r caps))) h',⟨_,this,by simp only [evL_m hls,oqS]⟩,rfl, ?_,L⟩
  simp only [List.map_append,ones_m]
 | invoke q m=>cases hr
theorem opA_m {cmp:Nat→Option (List AS)} {fr:Fr} {o:Oper} (L:Hrn R h h') {r:OR} (hr:opA P cmp fr h o = some r):∃ r',opA P cmp (mF R.r fr) h' o = some r'∧ORm R r r':=by
 obtain ⟨dst,op,type,pos,after,guard⟩:=o
 cases op <;> simp only [opA,oqE,reduceCtorEq] at hr ⊢
 case move x =>
  simp only [oqB,oqI] at hr ⊢
  obtain ⟨v,hv,rfl⟩:=hr
  exact ⟨_,⟨_,ev_m hv,rfl⟩,rfl,L⟩
 case assign x =>
  simp only [oqB,oqI] at hr ⊢
  obtain ⟨v,hv,rfl⟩:=hr
  exact ⟨_,⟨_,ev_m hv,rfl⟩,rfl,L⟩
 case pick c a b =>
  simp only [oqB] at hr
  obtain ⟨t,ht,hr⟩:=hr
  have ht':=evS_m (ρ:=R.r) ht
  cases t <;> simp only [reduceCtorEq] at hr
  simp only [oqB,oqI] at hr
  obtain ⟨v,hv,rfl⟩:=hr
  simp only [mS] at ht'
  simp only [ht',ev_m hv,oqS]
  exact ⟨_,rfl,rfl,L⟩
 case alloc t =>
  simp only [oqB,oqI] at hr
  obtain ⟨z,hz,rfl⟩:=hr
  simp only [hz,oqS]
  exact ⟨_,rfl,by simp only [mV,mS,L.nx],L.new (by rw [← mB_blkOf,zeroT_m hz])⟩
 case box t x =>
  simp only [oqB,oqI] at hr
  obtain ⟨v,hv,l,hl,rfl⟩:=hr
  simp only [ev_m hv,cells_m hl,oqS]
  exact ⟨_,rfl,by simp only [mV,mS,L.nx],L.new mB_blkOf⟩
 case build t ps =>
  simp only [oqB] at hr
  obtain ⟨d,hd,hr⟩:=hr
  simp only [hd,oqS]
  cases d <;> simp only [reduceCtorEq] at hr ⊢
  case struct fs =>
   split at hr
   ·rename_i hc
    rw [if_pos hc]
    simp only [oqB,oqI] at hr
    obtain ⟨z,hz,l,hl,rfl⟩:=hr
    have:=parts_m (ρ:=R.r) hl
    rw [zeroT_m hz] at this
    simp only [hz,this,oqS]
    exact ⟨_,rfl,by simp only [mV],L⟩
   ·cases hr
  case array n u =>
   simp only [oqB,oqI] at hr
   obtain ⟨size,hs,z,hz,l,hl,rfl⟩:=hr
   have:=parts_m (ρ:=R.r) hl
   rw [zeroT_m hz] at this
   simp only [hs,hz,this,oqS]
   exact ⟨_,rfl,by simp only [mV],L⟩
 case buildSlice t n ps =>
  simp only [oqB] at hr
  obtain ⟨el,hel,size,hs,z,hz,hr⟩:=hr
  simp only [hel,hs,hz,oqS]
  split at hr
  ·rename_i hc
   rw [if_pos hc]
   simp only [oqB,oqI] at hr
   obtain ⟨l,hl,rfl⟩:=hr
   have:=parts_m (ρ:=R.r) hl
   rw [repL_m,zeroT_m hz] at this
   simp only [this,oqS]
   exact ⟨_,rfl,by simp only [mV,mS,L.nx],L.new mB_blkOf⟩
  ·cases hr
 case load t a =>
  simp only [oqB,oqI] at hr
  obtain ⟨p,hp,n,hn,l,hl,g,hg,v,hv,rfl⟩:=hr
  simp only [evS_m hp,hn,readC_m L hl,hg,ofCells_m hv,oqS]
  exact ⟨_,rfl,rfl,L⟩
 case store t a x =>
  simp only [oqB] at hr
  obtain ⟨v,hv,l,hl,hr⟩:=hr
  simp only [ev_m hv,cells_m hl,oqS,mL_len]
  split at hr
  ·rename_i hc
   rw [if_pos hc]
   simp only [oqB,oqI] at hr
   obtain ⟨p,hp,h1,hw,rfl⟩:=hr
   obtain ⟨h1',hw',L'⟩:=writeC_m L hw
   simp only [evS_m hp,hw',oqS]
   exact ⟨_,rfl,L'⟩
  ·cases hr
 case nilCheck x =>
  simp only [oqB] at hr
  obtain ⟨a,ha,hr⟩:=hr
  simp only [evS_m ha,oqS]
  cases a <;> simp only [reduceCtorEq,oqI] at hr <;> subst hr <;> simp only [mS] <;> exact ⟨_,rfl,by simp only [mV,mS],L⟩
 case binOp op t x y pos' =>
  simp only [oqB,oqI] at hr
  obtain ⟨a,ha,b,hb,r0,hr0,rfl⟩:=hr
  simp only [ev_m ha,ev_m hb,bin_m hr0,oqS]
  exact ⟨_,rfl,by simp only [mV],L⟩
 case unOp op t x =>
  simp only [oqB,oqI] at hr
  obtain ⟨a,ha,r0,hr0,rfl⟩:=hr
  simp only [ev_m ha,un_m hr0,oqS]
  exact ⟨_,rfl,by simp only [mV],L⟩
 case convert s d x =>
  simp only [oqB] at hr
  obtain ⟨a,ha,hr⟩:=hr
  simp only [evS_m ha,oqS]
  exact convA_m L hr
 case makeInterface t x =>
  simp only [oqB] at hr
  obtain ⟨a,ha,d,hd,hr⟩:=hr
  simp only [evS_m ha,hd,oqS]
  cases d <;> simp only [reduceCtorEq,oqI] at hr ⊢ <;> subst hr <;> exact ⟨_,rfl,by simp only [mV,mS],L⟩
 case makeFunc f first caps =>
  cases f <;> simp only [reduceCtorEq] at hr ⊢
  simp only [oqB,oqI] at hr
  obtain ⟨a,ha,b,hb,rfl⟩:=hr
  simp only [evSL_m ha,evSL_m hb,oqS]
  exact ⟨_,rfl,by simp only [mV,mS],L⟩
 case makeSlice t l c =>
  simp only [oqB] at hr
  obtain ⟨el,hel,size,hs,bytes,hb,z,hz,a,ha,n,hn,b,hb2,m,hm,hr⟩:=hr
  have hn':=hn
  rw [← natOf_m (ρ:=R.r)] at hn'
  have hm':=hm
  rw [← natOf_m (ρ:=R.r)] at hm'
  simp only [hel,hs,hb,hz,evS_m ha,hn',evS_m hb2,hm',oqS]
  split at hr
  ·rename_i hc
   rw [if_pos hc]
   simp only [oqI] at hr;subst hr
   exact ⟨_,rfl,by simp only [mV,mS,L.nx],L.new (by rw [← mB_blkOf,repL_m,zeroT_m hz])⟩
  ·cases hr
 case slice t x lo hi mx =>
  simp only [oqB] at hr
  obtain ⟨a,ha,size,hs,hr⟩:=hr
  simp only [evS_m ha,sliceSize_m hs,oqS]
  split at hr
  ·cases hr
  rename_i hm
  rw [if_neg hm]
  simp only [oqB,oqI] at hr
  obtain ⟨l,hl,u,hu,m,hm2,q,hq,rfl⟩:=hr
  simp only [evO_m hl,evO_m hu,evO_m hm2,sliceA_m L hq,oqS]
  exact ⟨_,rfl,by simp only [mV],L⟩
 case fieldAddr t x f =>
  simp only [oqB] at hr
  obtain ⟨⟨o,u⟩,hf,n,hn,hr⟩:=hr
  simp only [hf,hn,oqS]
  split at hr
  ·cases hr
  rename_i hc
  rw [if_neg hc]
  simp only [oqB] at hr
  obtain ⟨a,ha,hr⟩:=hr
  simp only [evS_m ha,oqS]
  cases a <;> simp only [reduceCtorEq,oqI] at hr <;> subst hr <;> simp only [mS] <;> exact ⟨_,rfl,by simp only [mV,mS],L⟩
 case field t x f =>
  simp only [oqB] at hr
  obtain ⟨⟨o,u⟩,hf,a,ha,hr⟩:=hr
  have ha':=ev_m (ρ:=R.r) ha
  cases a <;> simp only [reduceCtorEq] at hr
  simp only [oqB,oqI] at hr
  obtain ⟨n,hn,q,hq,g,hg,v,hv,rfl⟩:=hr
  simp only [mV] at ha'
  simp only [hf,ha',hn,mL_sub hq,hg,ofCells_m hv,oqS]
  exact ⟨_,rfl,rfl,L⟩
 case indexAddr t x i =>
  simp only [oqB,oqI] at hr
  obtain ⟨a,ha,b,hb,n,hn,q,hq,rfl⟩:=hr
  have hn':=hn
  rw [← natOf_m (ρ:=R.r)] at hn'
  simp only [evS_m ha,evS_m hb,hn',indexA_m hq,oqS]
  exact ⟨_,rfl,by simp only [mV],L⟩
 case index t x i =>
  simp only [oqB] at hr
  obtain ⟨d,hd,hr⟩:=hr
  simp only [hd,oqS]
  cases d <;> simp only [reduceCtorEq] at hr ⊢
  simp only [oqB] at hr
  obtain ⟨a,ha,hr⟩:=hr
  have ha':=evS_m (ρ:=R.r) ha
  cases a <;> simp only [reduceCtorEq] at hr
  simp only [oqB,oqI] at hr
  obtain ⟨c,hc,n,hn,b,hb,rfl⟩:=hr
  have hn':=hn
  rw [← natOf_m (ρ:=R.r)] at hn'
  simp only [mS] at ha'
  simp only [ha',evS_m hc,hn',hb,oqS]
  exact ⟨_,rfl,by simp only [mV,mS,byteS],L⟩
 case extract x i =>
  simp only [oqB] at hr
  obtain ⟨a,ha,hr⟩:=hr
  have ha':=ev_m (ρ:=R.r) ha
  cases a <;> simp only [reduceCtorEq] at hr
  simp only [oqB,oqI] at hr
  obtain ⟨⟨g,l⟩,hg,v,hv,rfl⟩:=hr
  simp only [mV] at ha'
  simp only [ha',List.getElem?_map,hg,Option.map_some,ofCells_m hv,oqS]
  exact ⟨_,rfl,rfl,L⟩
 case call c=>exact callA_m L hr
 case panic x =>
  simp only [oqB] at hr
  obtain ⟨a,ha,hr⟩:=hr
  have ha':=evS_m (ρ:=R.r) ha
  cases a <;> simp only [reduceCtorEq,oqI] at hr
  subst hr
  simp only [mS] at ha'
  simp only [ha',oqS]
  exact ⟨_,rfl,by simp only [mS],L⟩
end
end Go.Ab
namespace Go.Ab
def CRm (R:Rn):CR→CR→Prop
 | .ret v h,.ret v' h'=>v' = mV R.r v∧Hrn R h h'
 | .pan v h,.pan v' h'=>v' = mS R.r v∧Hrn R h h'
 | _,_=>False
def CallsRn (R:Rn) (c d:Calls'):Prop:=∀ f args h h' r,Hrn R h h'→c f args h = some r→∃ r',d f (args.map (mV R.r)) h' = some r'∧CRm R r r'
def ROm (R:Rn):RO→RO→Prop
 | .ok v h,.ok v' h'=>v' = mV R.r v∧Hrn R h h'
 | .pan v h,.pan v' h'=>v' = mS R.r v∧Hrn R h h'
 | _,_=>False
def mX (ρ:Nat→Nat):Ex→Ex
 | .normal=>.normal
 | .exit i=>.exit i
 | .ret=>.ret
 | .pan v=>.pan (mS ρ v)
def OutM (R:Rn) (r r':Ex × Fr × H):Prop:=r'.1 = mX R.r r.1∧r'.2.1 = mF R.r r.2.1∧Hrn R r.2.2 r'.2.2
section
variable {R:Rn} {C:Conf} {c d:Calls'}
theorem wanted_m {ρ:Nat→Nat} {fr:Fr} {ops:List Oper} {o:Oper} {b:Bool} (h:wantedA fr ops o = some b):wantedA (mF ρ fr) ops o = some b:=by
 unfold wantedA at h ⊢
 split at h
 ·exact h
 ·simp only [oqE,oqB] at h ⊢
  obtain ⟨q,hq,d,hd,h⟩:=h
  refine ⟨q,hq,d,hd, ?_⟩
  rw [get_m]
  cases hg:Fr.get fr d with
  | undef=>rw [hg] at h;simp only [mV];exact h
  | one a=>rw [hg] at h;cases a <;> simp only [reduceCtorEq] at h;simp only [mV,mS];exact h
  | agg l=>rw [hg] at h;cases h
  | tup l=>rw [hg] at h;cases h
  | opq=>rw [hg] at h;cases h
theorem undef_m {ρ:Nat→Nat}:mV ρ .undef = .undef:=rfl
theorem runO_m (hc:CallsRn R c d) {fr:Fr} {h h':H} (L:Hrn R h h') {o:Oper} {r:RO} (hr:runO C c fr h o = some r):∃ r',runO C d (mF R.r fr) h' o = some r'∧ROm R r r':=by
 simp only [runO,oqE,oqB] at hr
 obtain ⟨x,hx,hr⟩:=hr
 obtain ⟨x',hx',Lx⟩:=opA_m L hx
 simp only [runO,hx',oqE,oqS]
 cases x <;> cases x' <;> simp only [ORm] at Lx
 case val.val v h1 v' h1' =>
  simp only [oqI] at hr;subst hr
  exact ⟨_,rfl,Lx⟩
 case skip.skip h1 h1' =>
  simp only [oqI] at hr;subst hr
  exact ⟨_,rfl,rfl,Lx⟩
 case pan.pan v h1 v' h1' =>
  simp only [oqI] at hr;subst hr
  exact ⟨_,rfl,Lx⟩
 case call.call f a h1 f' a' h1' =>
  obtain ⟨rfl,rfl,L1⟩:=Lx
  simp only [oqB] at hr
  obtain ⟨cr,hcr,hr⟩:=hr
  obtain ⟨cr',hcr',Lc⟩:=hc _ _ _ _ _ L1 hcr
  simp only [hcr',oqS]
  cases cr <;> cases cr' <;> simp only [CRm] at Lc <;> simp only [oqI] at hr <;> subst hr
  ·exact ⟨_,rfl,Lc⟩
  ·exact ⟨_,rfl,Lc⟩
theorem runOp_m (hc:CallsRn R c d) {fr:Fr} {h h':H} (L:Hrn R h h') {o:Oper} {r:Ex × Fr × H} (hr:runOp C c fr h o = some r):∃ r',runOp C d (mF R.r fr) h' o = some r'∧OutM R r r':=by
 simp only [runOp,oqE,oqB] at hr
 obtain ⟨x,hx,hr⟩:=hr
 obtain ⟨x',hx',Lx⟩:=runO_m hc L hx
 simp only [runOp,hx',oqE,oqS]
 cases x <;> cases x' <;> simp only [ROm] at Lx
 ·obtain ⟨rfl,L1⟩:=Lx
  simp only [oqB,oqI] at hr
  obtain ⟨fr',hp,rfl⟩:=hr
  refine ⟨_,(by simp only [put_m hp,oqS];rfl), ?_⟩
  exact ⟨rfl,rfl,L1⟩
 ·obtain ⟨rfl,L1⟩:=Lx
  simp only [oqI] at hr;subst hr
  exact ⟨_,rfl,rfl,rfl,L1⟩
theorem runOps_m (hc:CallsRn R c d) {ops:List Oper}:∀ {l:List Oper} {fr:Fr} {h h':H} {r:Ex × Fr × H},Hrn R h h'→runOps C c ops l fr h = some r→∃ r',runOps C d ops l (mF R.r fr) h' = some r'∧OutM R r r'
 | [],fr,h,h',r,L,hr=>by
  simp only [runOps,oqI] at hr;subst hr
  exact ⟨_,rfl,rfl,rfl,L⟩
 | o::l,fr,h,h',r,L,hr=>by
  simp only [runOps,oqE,oqB] at hr
  obtain ⟨b,hb,hr⟩:=hr
  simp only [runOps,wanted_m hb,oqE,oqS]
  cases b with
  | true =>
   simp only [if_true,oqB] at hr ⊢
   obtain ⟨⟨x,fr1,h1⟩,hop,hr⟩:=hr
   obtain ⟨⟨x',fr1',h1'⟩,hop',e1,e2,L1⟩:=runOp_m hc L hop
   simp only at e1 e2 L1
   subst e1;subst e2
   cases x with
   | normal =>
    obtain ⟨r',e,L'⟩:=runOps_m hc L1 hr
    exact ⟨r',⟨_,hop',e⟩,L'⟩
   | _ =>
    simp only [oqI] at hr;subst hr
    exact ⟨_,⟨_,hop',rfl⟩,rfl,rfl,L1⟩
  | false =>
   simp only [oqF,if_false,oqB] at hr ⊢
   obtain ⟨fr',hp,hr⟩:=hr
   obtain ⟨r',e,L'⟩:=runOps_m hc L hr
   have:=put_m (ρ:=R.r) hp
   rw [undef_m] at this
   exact ⟨r',⟨_,this,e⟩,L'⟩
theorem ask_m {fr:Fr} {o:Oper} {h h':H} (L:Hrn R h h') {v:AV} (hv:ask C fr o h = some v):ask C (mF R.r fr) o h' = some (mV R.r v):=by
 unfold ask at hv ⊢
 split at hv
 ·rename_i v1 h1 ho
  simp only [oqI] at hv;subst hv
  obtain ⟨r',e,L'⟩:=opA_m L ho
  cases r' <;> simp only [ORm] at L'
  rw [e]
  simp only [L'.1]
 ·cases hv
inductive EffsM (R:Rn):List (Nat × H × H)→List (Nat × H × H)→Prop
 | nil:EffsM R [] []
 | cons (i:Nat) (a b a' b':H) (l l':List (Nat × H × H)):Hrn R a a'→Hrn R b b'→EffsM R l l'→EffsM R ((i,a,b)::l) ((i,a',b')::l')
inductive RdsM (R:Rn):List (Nat × (H→Option AV) × AV)→List (Nat × (H→Option AV) × AV)→Prop
 | nil:RdsM R [] []
 | cons (i:Nat) (q q':H→Option AV) (v:AV) (l l':List (Nat × (H→Option AV) × AV)):(∀ h h',Hrn R h h'→∀ v,q h = some v→q' h' = some (mV R.r v))→RdsM R l l'→RdsM R ((i,q,v)::l) ((i,q',mV R.r v)::l')
structure SeenM (R:Rn) (s s':Seen):Prop where
 effs:EffsM R s.effs s'.effs
 rds:RdsM R s.rds s'.rds
theorem effs_allM {A:List Nat} {i:Nat} {fr:Fr} {o:Oper} {v:AV}:∀ {l l':List (Nat × H × H)},EffsM R l l'→(∀ e ∈ l,isAnc A e.1 i = true ∨ ask C fr o e.2.1 = some v ∨ ask C fr o e.2.2 = some v)→∀ e ∈ l',isAnc A e.1 i = true ∨ ask C (mF R.r fr) o e.2.1 = some (mV R.r v) ∨ ask C (mF R.r fr) o e.2.2 = some (mV R.r v)
 | _,_,.nil,_,e,he=>by cases he
 | _,_,.cons j a b a' b' l l' h1 h1b h2,h,e,he=>by
  rcases List.mem_cons.1 he with rfl | he
  ·rcases h (j,a,b) (by simp) with h3 | h3 | h3
   ·exact .inl h3
   ·exact .inr (.inl (ask_m h1 h3))
   ·exact .inr (.inr (ask_m h1b h3))
  ·exact effs_allM h2 (fun e he=>h e (List.mem_cons_of_mem _ he)) e he
theorem rds_allM {A:List Nat} {i:Nat} {h h':H} (L:Hrn R h h'):∀ {l l':List (Nat × (H→Option AV) × AV)},RdsM R l l'→(∀ r ∈ l,isAnc A r.1 i = true ∨ r.2.1 h = some r.2.2)→∀ r ∈ l',isAnc A r.1 i = true ∨ r.2.1 h' = some r.2.2
 | _,_,.nil,_,e,he=>by cases he
 | _,_,.cons j q q' v l l' h1 h2,hh,e,he=>by
  rcases List.mem_cons.1 he with rfl | he
  ·rcases hh (j,q,v) (by simp) with h3 | h3
   ·exact .inl h3
   ·exact .inr (h1 _ _ L _ h3)
  ·exact rds_allM L h2 (fun e he=>hh e (List.mem_cons_of_mem _ he)) e he
theorem Hrn.ghost {e e' h h' h1 h1':H} (L:Hrn R e e') (L0:Hrn R h h') (L1:Hrn R h1 h1'):Hrn R (e.ghost h h1) (e'.ghost h' h1'):=by
 have t0:=fun b hb=>(L0.top b hb).2.2
 have t1:=fun b hb=>(L1.top b hb).2.2
 have te:=fun b hb=>(L.top b hb).2.2
 have hiff:h.next < h1.next ↔ h'.next < h1'.next:=by
  have a:=t0 (max h.next h1.next) (by omega)
  have b:=t1 (max h.next h1.next) (by omega)
  omega
 unfold H.ghost
 by_cases hlt:h.next < h1.next
 ·rw [if_pos hlt,if_pos (hiff.1 hlt)]
  refine ⟨fun b k hk=>?_,fun b k hk=>?_,fun b hb=>?_,fun b hb=>?_⟩
  ·simp only at hk ⊢
   split at hk
   ·rename_i hb;subst hb;rw [if_pos L0.nx];exact L1.f _ k hk
   ·rename_i hb
    rw [if_neg]
    ·exact L.f b k hk
    ·rw [← L0.nx];exact fun e=>hb (R.inj _ _ (L.dom _ _ hk) (L0.top h.next (Nat.le_refl _)).2.1 e)
  ·simp only at hk
   split at hk
   ·rename_i hb;subst hb;exact (L0.top _ (Nat.le_refl _)).2.1
   ·exact L.dom b k hk
  ·simp only at hb ⊢
   obtain ⟨q1,q2,q3⟩:=L.top b (by omega)
   have q4:=t1 b (by omega)
   refine ⟨by rw [if_neg (by omega)];exact q1,q2, ?_⟩
   omega
  ·simp only
   obtain ⟨q1,q2⟩:=L.fr b hb
   have q3:=(L0.fr b hb).1
   rw [if_neg (by omega)]
   exact ⟨by omega,q2⟩
 ·rw [if_neg hlt,if_neg (fun h=>hlt (hiff.2 h))];exact L
theorem EffsM.ghost {h h' h1 h1':H} (L0:Hrn R h h') (L1:Hrn R h1 h1'):∀ {l l':List (Nat × H × H)},EffsM R l l'→EffsM R (l.map fun e=>(e.1,e.2.1,e.2.2.ghost h h1)) (l'.map fun e=>(e.1,e.2.1,e.2.2.ghost h' h1'))
 | _,_,.nil=>.nil
 | _,_,.cons j a b a' b' l l' g1 g2 g3=>.cons _ _ _ _ _ _ _ g1 (g2.ghost L0 L1) (EffsM.ghost L0 L1 g3)
theorem SeenM.ghost {h h' h1 h1':H} (L0:Hrn R h h') (L1:Hrn R h1 h1') {s s':Seen} (S:SeenM R s s'):SeenM R (s.ghost h h1) (s'.ghost h' h1'):=⟨S.effs.ghost L0 L1,S.rds⟩
def DeadM (R:Rn):Option (Nat × AS × Fr × H)→Option (Nat × AS × Fr × H)→Prop
 | none,none=>True
 | some (i,v,fr,h),some (i',v',fr',h')=>i = i'∧v' = mS R.r v∧fr' = mF R.r fr∧Hrn R h h'
 | _,_=>False
theorem runN_m (hc:CallsRn R c d) {ops:List Oper} {A:List Nat} {l:List Nat} (ih:∀ {dead dead':Option (Nat × AS × Fr × H)} {fr:Fr} {h h':H} {s s':Seen} {r:Ex × Fr × H},
  Hrn R h h'→SeenM R s s'→DeadM R dead dead'→runD C c ops A dead l fr h s = some r→∃ r',runD C d ops A dead' l (mF R.r fr) h' s' = some r'∧OutM R r r') {i:Nat} {dead dead':Option (Nat × AS × Fr × H)} {fr:Fr} {h h':H} {s s':Seen} {r:Ex × Fr × H}
  (L:Hrn R h h') (S:SeenM R s s') (D:DeadM R dead dead') (hr:runN C c ops A dead i l fr h s = some r):∃ r',runN C d ops A dead' i l (mF R.r fr) h' s' = some r'∧OutM R r r':=by
 have hs:dead.isSome = dead'.isSome:=by
  rcases dead with _ | ⟨j,v,fr1,h1⟩ <;> rcases dead' with _ | ⟨j',v',fr1',h1'⟩ <;> simp only [DeadM] at D <;> rfl
 unfold runN at hr ⊢
 simp only [oqE,oqB] at hr
 obtain ⟨o,ho,b,hb,hr⟩:=hr
 simp only [ho,wanted_m hb,oqE,oqS]
 cases b with
 | false =>
  simp only [oqF,if_false,oqB] at hr ⊢
  obtain ⟨fr',hp,hr⟩:=hr
  obtain ⟨r',e,L'⟩:=ih L S D hr
  have:=put_m (ρ:=R.r) hp
  rw [undef_m] at this
  exact ⟨r',⟨_,this,e⟩,L'⟩
 | true =>
  simp only [if_true] at hr ⊢
  cases hcl:clsOf C.P o with
  | eff =>
   simp only [hcl] at hr ⊢
   rw [← hs]
   split at hr
   ·cases hr
   ·rename_i hds
    rw [if_neg hds]
    simp only [oqB] at hr
    obtain ⟨x,hx,hr⟩:=hr
    obtain ⟨x',hx',Lx⟩:=runO_m hc L hx
    simp only [hx',oqS]
    cases x with
    | ok v h1 =>
     cases x' with
     | pan v' h1'=>simp only [ROm] at Lx
     | ok v' h1' =>
     obtain ⟨rfl,L1⟩:=Lx
     simp only at hr ⊢
     split at hr
     ·rename_i hall
      rw [if_pos (rds_allM L1 S.rds hall)]
      simp only [oqB] at hr ⊢
      obtain ⟨fr',hp,hr⟩:=hr
      obtain ⟨r',e,L'⟩:=ih (s:={ s with effs:=(i,h,h)::s.effs }) (s':={ s' with effs:=(i,h',h')::s'.effs }) L1 ⟨.cons _ _ _ _ _ _ _ L L S.effs,S.rds⟩ D hr
      exact ⟨r',⟨_,put_m hp,e⟩,L'⟩
     ·cases hr
    | pan v h1 =>
     cases x' with
     | ok v' h1'=>simp only [ROm] at Lx
     | pan v' h1' =>
     obtain ⟨rfl,L1⟩:=Lx
     simp only at hr ⊢
     exact ih (dead:=some (i,v,fr,h1)) (dead':=some (i,mS R.r v,mF R.r fr,h1')) L S ⟨rfl,rfl,rfl,L1⟩ hr
  | read =>
   simp only [hcl,oqB] at hr ⊢
   obtain ⟨v,hv,hr⟩:=hr
   have hv':=ask_m L hv
   split at hr
   ·rename_i hall
    simp only [oqB] at hr
    obtain ⟨fr',hp,hr⟩:=hr
    obtain ⟨r',e,L'⟩:=ih (s:={ s with rds:=(i,ask C fr o,v)::s.rds }) (s':={ s' with rds:=(i,ask C (mF R.r fr) o,mV R.r v)::s'.rds }) L ⟨S.effs,.cons _ _ _ _ _ _ (fun h h' L v hv=>ask_m L hv) S.rds⟩ D hr
    exact ⟨r',⟨_,hv',by rw [if_pos (effs_allM S.effs hall)];simp only [oqB];exact ⟨_,put_m hp,e⟩⟩,L'⟩
   ·cases hr
  | pure =>
   simp only [hcl,oqB] at hr ⊢
   obtain ⟨x,hx,hr⟩:=hr
   obtain ⟨x',hx',Lx⟩:=runO_m hc L hx
   cases x with
   | pan v h1=>cases hr
   | ok v h1 =>
    cases x' with
    | pan v' h1'=>simp only [ROm] at Lx
    | ok v' h1' =>
    obtain ⟨rfl,L1⟩:=Lx
    simp only [oqB] at hr
    obtain ⟨fr',hp,hr⟩:=hr
    obtain ⟨r',e,L'⟩:=ih L1 (S.ghost L L1) D hr
    exact ⟨r',⟨_,hx',by simp only [oqB];exact ⟨_,put_m hp,e⟩⟩,L'⟩
  | make =>
   simp only [hcl,oqB] at hr ⊢
   obtain ⟨x,hx,hr⟩:=hr
   obtain ⟨x',hx',Lx⟩:=runO_m hc L hx
   cases x with
   | pan v h1=>cases hr
   | ok v h1 =>
    cases x' with
    | pan v' h1'=>simp only [ROm] at Lx
    | ok v' h1' =>
    obtain ⟨rfl,L1⟩:=Lx
    simp only [oqB] at hr
    obtain ⟨fr',hp,hr⟩:=hr
    obtain ⟨r',e,L'⟩:=ih L1 (S.ghost L L1) D hr
    exact ⟨r',⟨_,hx',by simp only [oqB];exact ⟨_,put_m hp,e⟩⟩,L'⟩
theorem ancDM_eq {A:List Nat} {i:Nat}:∀ {dead dead':Option (Nat × AS × Fr × H)},DeadM R dead dead'→ancD A i dead = ancD A i dead'
 | none,none,_=>rfl
 | some (j,v,fr,h),some (j',v',fr',h'),D=>by obtain ⟨rfl,_⟩:=D;rfl
 | none,some _,D=>D.elim
 | some _,none,D=>D.elim
theorem runD_m (hc:CallsRn R c d) {ops:List Oper} {A:List Nat}:∀ {l:List Nat} {dead dead':Option (Nat × AS × Fr × H)} {fr:Fr} {h h':H} {s s':Seen} {r:Ex × Fr × H},
  Hrn R h h'→SeenM R s s'→DeadM R dead dead'→runD C c ops A dead l fr h s = some r→∃ r',runD C d ops A dead' l (mF R.r fr) h' s' = some r'∧OutM R r r'
 | [],dead,dead',fr,h,h',s,s',r,L,S,D,hr=>by
  rcases dead with _ | ⟨i,v,fr1,h1⟩ <;> rcases dead' with _ | ⟨i',v',fr1',h1'⟩ <;> simp only [DeadM] at D
  ·simp only [runD,oqI] at hr;subst hr
   exact ⟨(.normal,mF R.r fr,h'),by rw [runD],rfl,rfl,L⟩
  ·obtain ⟨rfl,rfl,rfl,L1⟩:=D
   simp only [runD,oqI] at hr;subst hr
   exact ⟨(.pan (mS R.r v),mF R.r fr1,h1'),by rw [runD],rfl,rfl,L1⟩
 | i::l,dead,dead',fr,h,h',s,s',r,L,S,D,hr=>by
  have hd:=ancDM_eq (A:=A) (i:=i) D
  cases hb:ancD A i dead with
  | true =>
   have hb':ancD A i dead' = true:=hd ▸ hb
   rw [runD_skip (dead:=dead) (by unfold ancD at hb;exact hb)] at hr
   rw [runD_skip (dead:=dead') (by unfold ancD at hb';exact hb')]
   exact runD_m hc L S D hr
  | false =>
   have hb':ancD A i dead' = false:=hd ▸ hb
   rw [runD_N (dead:=dead) (by unfold ancD at hb;exact hb)] at hr
   rw [runD_N (dead:=dead') (by unfold ancD at hb';exact hb')]
   exact runN_m hc (fun {_ _ _ _ _ _ _ _} L S D hr=>runD_m hc L S D hr) L S D hr
abbrev RecRn (R:Rn) (p q:Rec'):Prop:=∀ x fr h h' r,Hrn R h h'→p x fr h = some r→∃ r',q x (mF R.r fr) h' = some r'∧OutM R r r'
theorem step_m (hc:CallsRn R c d) {p q:Rec'} (hp:RecRn R p q) {x:Code} {fr:Fr} {h h':H} {r:Ex × Fr × H} (L:Hrn R h h') (hr:step C c p x fr h = some r):∃ r',step C d q x (mF R.r fr) h' = some r'∧OutM R r r':=by
 unfold step at hr ⊢
 split at hr
 ·simp only [oqI] at hr;subst hr;exact ⟨_,rfl,rfl,rfl,L⟩
 ·simp only [oqI] at hr;subst hr;exact ⟨_,rfl,rfl,rfl,L⟩
 ·rename_i ops draw
  cases draw with
  | false=>simp only [oqF,if_false] at hr ⊢;exact runOps_m hc L hr
  | true =>
   simp only [if_true] at hr ⊢
   split at hr
   ·rename_i hk
    rw [if_pos hk]
    exact runD_m hc L ⟨.nil,.nil⟩ (by simp only [DeadM]) hr
   ·cases hr
 ·simp only [oqE,oqB] at hr ⊢
  obtain ⟨⟨x1,fr1,h1⟩,ha,hr⟩:=hr
  obtain ⟨⟨x1',fr1',h1'⟩,ha',e1,e2,L1⟩:=hp _ _ _ _ _ L ha
  simp only at e1 e2 L1
  subst e1;subst e2
  cases x1 with
  | normal =>
   obtain ⟨r',e,L'⟩:=hp _ _ _ _ _ L1 hr
   exact ⟨r',⟨_,ha',e⟩,L'⟩
  | _ =>
   simp only [oqI] at hr;subst hr
   exact ⟨_,⟨_,ha',rfl⟩,rfl,rfl,L1⟩
 ·simp only [oqE,oqB] at hr ⊢
  obtain ⟨v,hv,hr⟩:=hr
  have hv':=evS_m (ρ:=R.r) hv
  cases v <;> simp only [reduceCtorEq] at hr
  simp only [mS] at hv'
  obtain ⟨r',e,L'⟩:=hp _ _ _ _ _ L hr
  exact ⟨r',⟨_,hv',e⟩,L'⟩
 ·rename_i id b
  simp only [oqE,oqB] at hr ⊢
  obtain ⟨⟨x1,fr1,h1⟩,ha,hr⟩:=hr
  obtain ⟨⟨x1',fr1',h1'⟩,ha',e1,e2,L1⟩:=hp _ _ _ _ _ L ha
  simp only at e1 e2 L1
  subst e1;subst e2
  cases x1 with
  | exit i =>
   simp only at hr
   split at hr
   ·rename_i hi
    simp only [oqI] at hr;subst hr
    exact ⟨(.normal,mF R.r fr1,h1'),⟨_,ha',by simp only [mX,if_pos hi]⟩,rfl,rfl,L1⟩
   ·rename_i hi
    simp only [oqI] at hr;subst hr
    exact ⟨(.exit i,mF R.r fr1,h1'),⟨_,ha',by simp only [mX,if_neg hi]⟩,rfl,rfl,L1⟩
  | _ =>
   simp only [oqI] at hr;subst hr
   exact ⟨_,⟨_,ha',rfl⟩,rfl,rfl,L1⟩
 ·simp only [oqE,oqB] at hr ⊢
  obtain ⟨⟨x1,fr1,h1⟩,ha,hr⟩:=hr
  obtain ⟨⟨x1',fr1',h1'⟩,ha',e1,e2,L1⟩:=hp _ _ _ _ _ L ha
  simp only at e1 e2 L1
  subst e1;subst e2
  cases x1 with
  | normal =>
   obtain ⟨r',e,L'⟩:=hp _ _ _ _ _ L1 hr
   exact ⟨r',⟨_,ha',e⟩,L'⟩
  | _ =>
   simp only [oqI] at hr;subst hr
   exact ⟨_,⟨_,ha',rfl⟩,rfl,rfl,L1⟩
 ·simp only [oqI] at hr;subst hr;exact ⟨_,rfl,rfl,rfl,L⟩
 ·simp only [oqI] at hr;subst hr;exact ⟨_,rfl,rfl,rfl,L⟩
 ·cases hr
theorem resVar_m {fr:Fr} {h h':H} (L:Hrn R h h') {q:ResultVar} {v:AV} (hr:resVar C fr h q = some v):resVar C (mF R.r fr) h' q = some (mV R.r v):=by
 cases q with
 | tmp t =>
  simp only [resVar,oqI] at hr ⊢
  rw [get_m,hr]
 | cell a t =>
  simp only [resVar,oqE] at hr ⊢
  rw [get_m]
  split at hr
  ·rename_i p hp
   simp only [oqB] at hr
   obtain ⟨n,hn,l,hl,g,hg,hr⟩:=hr
   simp only [hp,mV,hn,readC_m L hl,hg,ofCells_m hr,oqS]
  ·cases hr
theorem partOf_m {ρ:Nat→Nat} {v:AV} {p:Bool × List AS} (h:partOf v = some p):partOf (mV ρ v) = some (p.1,mL ρ p.2):=by
 cases v <;> simp only [partOf,reduceCtorEq,oqI] at h <;> subst h <;> simp only [mV,partOf,mL]
theorem resParts_m {fr:Fr} {h h':H} (L:Hrn R h h'):∀ {l:List ResultVar} {ps:List (Bool × List AS)},resParts C fr h l = some ps→resParts C (mF R.r fr) h' l = some (ps.map fun p=>(p.1,mL R.r p.2))
 | [],ps,hr=>by simp only [resParts,oqI] at hr ⊢;subst hr;rfl
 | q::l,ps,hr=>by
  simp only [resParts,oqE,oqB,oqI] at hr
  obtain ⟨v,hv,p,hp,r,hl,rfl⟩:=hr
  simp only [resParts,resVar_m L hv,partOf_m hp,resParts_m L hl,oqE,oqS,List.map_cons]
theorem resultA_m {fr:Fr} {h h':H} (L:Hrn R h h') {l:List ResultVar} {v:AV} (hr:resultA C fr h l = some v):resultA C (mF R.r fr) h' l = some (mV R.r v):=by
 unfold resultA at hr ⊢
 split at hr
 ·simp only [oqE,oqB] at hr
  obtain ⟨q,hq,p,hp,hr⟩:=hr
  simp only [resVar_m L hq,partOf_m hp,ofCells_m hr,oqE,oqS]
 ·simp only [oqE,oqB,oqI] at hr
  obtain ⟨q,hq,rfl⟩:=hr
  simp only [resParts_m L hq,oqE,oqS,mV]
theorem extA_m {x:Ext} {args:List AV} {h h':H} (L:Hrn R h h') {r:CR} (hr:extA x args h = some r):∃ r',extA x (args.map (mV R.r)) h' = some r'∧CRm R r r':=by
 unfold extA at hr
 split at hr
 ·rename_i b;simp only [oqI] at hr;subst hr;exact ⟨.ret (.one (.int .u64 b)) h',by simp only [List.map_cons,List.map_nil,mV,mS,extA],by simp only [mV,mS],L⟩
 ·simp only [oqI] at hr;subst hr;exact ⟨.ret (.one .nanb) h',by simp only [List.map_cons,List.map_nil,mV,mS,extA],by simp only [mV,mS],L⟩
 ·rename_i n;simp only [oqI] at hr;subst hr;exact ⟨.ret (.one (.flt n.toNat)) h',by simp only [List.map_cons,List.map_nil,mV,mS,extA],by simp only [mV,mS],L⟩
 ·simp only [oqI] at hr;subst hr;exact ⟨.ret (.one .nan) h',by simp only [List.map_cons,List.map_nil,mV,mS,extA],by simp only [mV,mS],L⟩
 ·simp only [oqE,oqB,oqI] at hr
  obtain ⟨n,hn,l,hl,x,hx,m,hm,l2,hl2,y,hy,rfl⟩:=hr
  refine ⟨.ret (.one (.int .i64 (cmpL x y))) h', ?_,by simp only [mV,mS],L⟩
  simp only [List.map_cons,List.map_nil,mV,extA,lenS_m,hn,hm,elemsOf_m L hl,elemsOf_m L hl2,bytesOf_m hx,bytesOf_m hy,oqE,oqS]
 ·rename_i a b;simp only [oqI] at hr;subst hr;exact ⟨.ret (.one (.int .i64 (cmpL a b))) h',by simp only [List.map_cons,List.map_nil,mV,mS,extA],by simp only [mV,mS],L⟩
 ·cases hr
structure PrimRn (C:Conf):Prop where
 prim:∀ f g,C.prim f = some g→∀ (R:Rn) c d,CallsRn R c d→∀ args h h' r,Hrn R h h'→g c args h = some r→∃ r',g d (args.map (mV R.r)) h' = some r'∧CRm R r r'
 frz:∀ f,C.frz f = false
theorem frame_m {ρ:Nat→Nat} {args:List AV} {n:Nat}:mF ρ (args++List.replicate n .undef) = args.map (mV ρ)++List.replicate n .undef:=by
 unfold mF
 rw [List.map_append,List.map_replicate];rfl
theorem callF_m (hz:∀ f,C.frz f = false) (hc:CallsRn R c d) {p q:Rec'} (hp:RecRn R p q) {f:Nat} (hP:∀ g,C.prim f = some g→∀ args h h' r,Hrn R h h'→g c args h = some r→∃ r',g d (args.map (mV R.r)) h' = some r'∧CRm R r r') {args:List AV} {h h':H} {r:CR} (L:Hrn R h h')
  (hr:callF C c p f args h = some r):∃ r',callF C d q f (args.map (mV R.r)) h' = some r'∧CRm R r r':=by
 unfold callF at hr ⊢
 split at hr
 ·rename_i g hg
  exact hP g hg args h h' r L hr
 ·rename_i x h0 hx
  exact extA_m L hr
 ·simp only [oqE,oqB] at hr ⊢
  obtain ⟨fn,hfn,b,hb,hr⟩:=hr
  split at hr
  ·cases hr
  rename_i hl
  have hzf:¬ C.frz f = true:=by rw [hz f];simp
  rw [if_neg hzf] at hr
  simp only [oqB] at hr
  obtain ⟨⟨x1,fr1,h1⟩,ha,hr⟩:=hr
  obtain ⟨⟨x1',fr1',h1'⟩,ha',e1,e2,L1⟩:=hp _ _ _ _ _ L ha
  simp only at e1 e2 L1
  subst e1;subst e2
  rw [frame_m] at ha'
  have hl':¬ fn.ntmps < (args.map (mV R.r)).length:=by rw [List.length_map];exact hl
  have ha2:q b (args.map (mV R.r)++List.replicate (fn.ntmps - (args.map (mV R.r)).length) .undef) h' = some (mX R.r x1,mF R.r fr1,h1'):=by rw [List.length_map];exact ha'
  have fin:((resultA C fr1 h1 fn.results.toList).bind fun v=>some (CR.ret v h1)) = some r →
    ∃ r',((resultA C (mF R.r fr1) h1' fn.results.toList).bind fun v=>some (CR.ret v h1')) = some r'∧CRm R r r':=by
   intro e
   simp only [oqB,oqI] at e ⊢
   obtain ⟨v,hv,rfl⟩:=e
   exact ⟨_,⟨_,resultA_m L1 hv,rfl⟩,rfl,L1⟩
  cases x1 with
  | normal =>
   obtain ⟨r',e,L'⟩:=fin hr
   exact ⟨r',⟨fn,hfn,b,hb,by rw [if_neg hl',if_neg hzf];simp only [oqB];exact ⟨_,ha2,e⟩⟩,L'⟩
  | ret =>
   obtain ⟨r',e,L'⟩:=fin hr
   exact ⟨r',⟨fn,hfn,b,hb,by rw [if_neg hl',if_neg hzf];simp only [oqB];exact ⟨_,ha2,e⟩⟩,L'⟩
  | exit i=>cases hr
  | pan v =>
   simp only [oqI] at hr;subst hr
   exact ⟨.pan (mS R.r v) h1',⟨fn,hfn,b,hb,by rw [if_neg hl',if_neg hzf];simp only [oqB];exact ⟨_,ha2,rfl⟩⟩,rfl,L1⟩
theorem both_m (hP:PrimRn C):∀ n,RecRn R (exec C n) (exec C n)∧CallsRn R (call C n) (call C n)
 | 0=>⟨fun _ _ _ _ _ _ h=>by simp [exec,both] at h,fun _ _ _ _ _ _ h=>by simp [call,both] at h⟩
 | n + 1=>by
  obtain ⟨h1,h2⟩:=both_m hP n
  exact ⟨fun x fr h h' r L hr=>step_m (C:=C) h2 h1 L hr,fun f args h h' r L hr=>callF_m hP.frz h2 h1 (fun g hg=>hP.prim f g hg _ _ _ h2) L hr⟩
theorem W_m (hp:PrimOk C) (hP:PrimRn C):CallsRn R (W C) (W C):=by
 intro f args h h' r L hr
 obtain ⟨n,hn⟩:=(W_iff hp).1 hr
 obtain ⟨r',e,L'⟩:=(both_m hP n).2 f args h h' r L hn
 exact ⟨r',(W_iff hp).2 ⟨n,e⟩,L'⟩
end
end Go.Ab
namespace Go.Ab
section
variable {R:Rn} {C:Conf} {c d:Calls'}
theorem rgn_m (hc:CallsRn R c d) {ops:Array Oper} {fr fr':Fr} {h h' h1:H} (L:Hrn R h h') (hr:rgn C c ops fr h = some (fr',h1)):∃ h1',rgn C d ops (mF R.r fr) h' = some (mF R.r fr',h1')∧Hrn R h1 h1':=by
 unfold rgn at hr ⊢
 split at hr
 ·rename_i fr1 h2 he
  simp only [oqI,oqM] at hr
  obtain ⟨rfl,rfl⟩:=hr
  obtain ⟨⟨x',fr',h2'⟩,e,e1,e2,L'⟩:=runOps_m hc L he
  simp only [mX] at e1 e2 L'
  subst e1;subst e2
  exact ⟨h2',by rw [e],L'⟩
 ·cases hr
theorem op1_m (hc:CallsRn R c d) {o:Oper} {fr fr':Fr} {h h' h1:H} (L:Hrn R h h') (hr:op1 C c o fr h = some (fr',h1)):∃ h1',op1 C d o (mF R.r fr) h' = some (mF R.r fr',h1')∧Hrn R h1 h1':=by
 unfold op1 at hr ⊢
 split at hr
 ·rename_i fr1 h2 he
  simp only [oqI,oqM] at hr
  obtain ⟨rfl,rfl⟩:=hr
  obtain ⟨⟨x',fr',h2'⟩,e,e1,e2,L'⟩:=runOp_m hc L he
  simp only [mX] at e1 e2 L'
  subst e1;subst e2
  exact ⟨h2',by rw [e],L'⟩
 ·cases hr
theorem rgnD_m (hc:CallsRn R c d) {ops:Array Oper} {fr fr':Fr} {h h' h1:H} (L:Hrn R h h') (hr:rgnD C c ops fr h = some (fr',h1)):∃ h1',rgnD C d ops (mF R.r fr) h' = some (mF R.r fr',h1')∧Hrn R h1 h1':=by
 obtain ⟨⟨x',fr2,h2'⟩,e,e1,e2,L'⟩:=runD_m hc L (s:=⟨[],[]⟩) (s':=⟨[],[]⟩) (dead:=none) (dead':=none) ⟨.nil,.nil⟩ trivial (rgnD_run hr)
 simp only [mX] at e1 e2 L'
 subst e1;subst e2
 exact ⟨h2',rgnD_of e,L'⟩
theorem opsL_m (hc:CallsRn R c d):∀ {l:List Oper} {fr fr':Fr} {h h' h1:H},Hrn R h h'→opsL C c l fr h = some (fr',h1)→∃ h1',opsL C d l (mF R.r fr) h' = some (mF R.r fr',h1')∧Hrn R h1 h1'
 | [],fr,fr',h,h',h1,L,hr=>by
  simp only [opsL,oqI,oqM] at hr
  obtain ⟨rfl,rfl⟩:=hr
  exact ⟨h',rfl,L⟩
 | o::l,fr,fr',h,h',h1,L,hr=>by
  simp only [opsL,oqB] at hr
  obtain ⟨⟨fr2,h2⟩,e1,e2⟩:=hr
  obtain ⟨h2',f1,L1⟩:=op1_m hc L e1
  obtain ⟨h3',f2,L2⟩:=opsL_m hc L1 e2
  exact ⟨h3',by simp only [opsL,f1,oqS];exact f2,L2⟩
theorem readEnd_m (hc:CallsRn R c d) {F:RdFn} {p q:AS} {fr:Fr} {x y r:CR} (L:CRm R x y) (hr:readEnd C F c p q fr x = some r):∃ r',readEnd C F d (mS R.r p) (mS R.r q) (mF R.r fr) y = some r'∧CRm R r r':=by
 cases x with
 | ret v h =>
  cases y with
  | pan v' h'=>simp only [CRm] at L
  | ret v' h' =>
   obtain ⟨rfl,L⟩:=L
   simp only [readEnd,oqE,oqB,oqI] at hr ⊢
   obtain ⟨fr1,hp,⟨fr2,h2⟩,h3,v2,hv,rfl⟩:=hr
   obtain ⟨h2',e,L2⟩:=rgn_m hc L h3
   exact ⟨_,⟨_,put_m hp,_,e,_,resultA_m L2 hv,rfl⟩,rfl,L2⟩
 | pan v h =>
  cases y with
  | ret v' h'=>simp only [CRm] at L
  | pan v' h' =>
   obtain ⟨rfl,L⟩:=L
   simp only [readEnd] at hr ⊢
   split at hr
   ·rename_i t b v1 o
    split at hr
    ·rename_i b' v1' o' hrd
     split at hr
     ·rename_i hcond
      simp only [oqE,oqB,oqI] at hr
      obtain ⟨h2,hw,v2,hv,rfl⟩:=hr
      obtain ⟨h2',hw',L2⟩:=writeC_m L hw
      simp only [mL,mS] at hw'
      have hrd':=readC_m L hrd
      simp only [mL,mS] at hrd'
      refine ⟨.ret (mV R.r v2) h2', ?_,rfl,L2⟩
      simp only [mS,hrd']
      rw [if_pos ⟨hcond.1,by rw [hcond.2.1],hcond.2.2.1,hcond.2.2.2⟩]
      simp only [hw',resultA_m L2 hv,oqE,oqS]
     ·cases hr
    ·cases hr
   ·cases hr
theorem ev_fn {ρ:Nat→Nat} {fr:Fr} {x:Operand} {g:Nat} {p q:AS} (h:evS fr x = some (.fn g [] [p,q])):evS (mF ρ fr) x = some (.fn g [] [mS ρ p,mS ρ q]):=by
 have:=evS_m (ρ:=ρ) h
 simpa only [mS,mL] using this
theorem readA_m (hc:CallsRn R c d) {F:RdFn} {args:List AV} {h h':H} {r:CR} (L:Hrn R h h') (hr:readA C F c args h = some r):∃ r',readA C F d (args.map (mV R.r)) h' = some r'∧CRm R r r':=by
 unfold readA at hr ⊢
 split at hr
 ·rename_i hlen
  have hlen':(args.map (mV R.r)).length = 2:=by rw [List.length_map];exact hlen
  simp only [hlen',if_true]
  simp only [oqE,oqB] at hr ⊢
  obtain ⟨⟨fr0,h0⟩,e0,⟨fr1,h1⟩,e1,q7,e7,hr⟩:=hr
  obtain ⟨h0',f0,L0⟩:=rgn_m hc L e0
  rw [frame_m] at f0
  obtain ⟨h1',f1,L1⟩:=rgn_m hc L0 e1
  have f7:=evS_m (ρ:=R.r) e7
  split at hr
  ·simp only [mS] at f7
   simp only [oqB] at hr
   obtain ⟨⟨fr3,h3⟩,e3,⟨fr4,h4⟩,e4,q14,e14,hr⟩:=hr
   obtain ⟨h3',f3,L3⟩:=rgn_m hc L1 e3
   obtain ⟨h4',f4,L4⟩:=op1_m hc L3 e4
   split at hr
   ·rename_i g p q
    have f14:=ev_fn (ρ:=R.r) e14
    split at hr
    ·rename_i hg
     simp only [oqB] at hr
     obtain ⟨⟨fr5,h5⟩,e5,⟨fr6,h6⟩,e6,hr⟩:=hr
     obtain ⟨h5',f5,L5⟩:=op1_m hc L4 e5
     obtain ⟨h6',f6,L6⟩:=op1_m hc L5 e6
     split at hr
     ·rename_i f' args' hx hop
      simp only [oqB] at hr
      obtain ⟨cr,ec,hr⟩:=hr
      obtain ⟨x',hop',Lo⟩:=opA_m L6 hop
      cases x' <;> simp only [ORm] at Lo
      rename_i f2 a2 hx2
      obtain ⟨rfl,rfl,_⟩:=Lo
      obtain ⟨cr',ec',Lc⟩:=hc _ _ _ _ _ L6 ec
      obtain ⟨r',e,L'⟩:=readEnd_m hc Lc hr
      refine ⟨r',⟨_,f0,_,f1,_,f7, ?_⟩,L'⟩
      simp only [oqB]
      refine ⟨_,f3,_,f4,_,f14, ?_⟩
      simp only [hg,if_true,oqB]
      refine ⟨_,f5,_,f6, ?_⟩
      simp only [hop',oqB]
      exact ⟨cr',ec',e⟩
     ·cases hr
    ·cases hr
   ·cases hr
  ·cases hr
 ·cases hr
theorem isB_m {b:Bool} {fr:Fr} {x:Operand} (h:isB b (evS fr x) = true):isB b (evS (mF R.r fr) x) = true:=by
 have:=evS_m (ρ:=R.r) (isB_ok h)
 rw [this]
 simp only [mS,isB,beq_self_eq_true]
theorem isB_f {fr:Fr} {x:Operand} (h:isB false (evS fr x) = true):isB true (evS (mF R.r fr) x) = false:=by
 have:=evS_m (ρ:=R.r) (isB_ok h)
 rw [this];rfl
theorem isOpq_m {fr:Fr} {x:Operand} (h:isOpq (ev fr x) = true):isOpq (ev (mF R.r fr) x) = true:=by
 have:=ev_m (ρ:=R.r) (isOpq_ok h)
 rw [this];rfl
theorem noOpq_m:∀ {fr:Fr},noOpq fr = true→noOpq (mF R.r fr) = true
 | [],_=>rfl
 | .undef::l,h=>noOpq_m (fr:=l) h
 | .one a::l,h=>noOpq_m (fr:=l) h
 | .agg a::l,h=>noOpq_m (fr:=l) h
 | .tup a::l,h=>noOpq_m (fr:=l) h
 | .opq::l,h=>by cases h
theorem roundA_m (hc:CallsRn R c d) {F:LayFn} {lf:Fr} {q:AV} {h h' h1:H} (L:Hrn R h h') (hr:roundA C F c lf q h = some h1):∃ h1',roundA C F d (mF R.r lf) (mV R.r q) h' = some h1'∧Hrn R h1 h1':=by
 simp only [roundA,oqB,oqI] at hr
 obtain ⟨⟨f2,h2⟩,e1,⟨f3,h3⟩,e2,rfl⟩:=hr
 obtain ⟨h2',g1,L1⟩:=rgn_m hc L e1
 obtain ⟨h3',g2,L2⟩:=rgnD_m hc L1 e2
 have e:(mF R.r lf).set 9 (mV R.r q) = mF R.r (lf.set 9 q):=by unfold mF;rw [List.map_set]
 refine ⟨h3', ?_,L2⟩
 simp only [roundA,e,g1,oqS]
 simp only at g2
 rw [g2];rfl
theorem chunkA_m (hc:CallsRn R c d) {F:LayFn} {lf:Fr}:∀ {k:Nat} {fr fr':Fr} {h h' h1:H},Hrn R h h'→chunkA C F c lf k fr h = some (fr',h1)→∃ h1',chunkA C F d (mF R.r lf) k (mF R.r fr) h' = some (mF R.r fr',h1')∧Hrn R h1 h1'
 | 0,_,_,_,_,_,_,hr=>by simp [chunkA] at hr
 | k + 1,fr,fr',h,h',h1,L,hr=>by
  rw [chunkA] at hr ⊢
  simp only [oqB] at hr
  obtain ⟨⟨f1,k1⟩,e1,hr⟩:=hr
  obtain ⟨k1',g1,L1⟩:=rgn_m hc L e1
  simp only [g1,oqS]
  split at hr
  ·rename_i hb
   simp only [isB_m hb,if_true]
   simp only [oqB] at hr
   obtain ⟨⟨f3,k3⟩,e3,⟨f4,k4⟩,e4,hr⟩:=hr
   obtain ⟨k3',g3,L3⟩:=rgnD_m hc L1 e3
   obtain ⟨k4',g4,L4⟩:=opsL_m hc L3 e4
   simp only [g3,g4,oqS]
   split at hr
   ·rename_i ho
    simp only [isOpq_m ho,if_true]
    simp only [oqB] at hr
    obtain ⟨q,hq,k5,e5,f6,h6,⟨f7,k7⟩,e7,hr⟩:=hr
    obtain ⟨k5',g5,L5⟩:=roundA_m hc L4 e5
    obtain ⟨k7',g7,L7⟩:=op1_m hc L5 e7
    have h6':=put_m (ρ:=R.r) h6
    simp only [mV,mS] at h6'
    simp only [ev_m hq,g5,h6',g7,oqS]
    split at hr
    ·rename_i h30
     simp only [isB_m h30,if_true]
     simp only [oqB] at hr
     obtain ⟨⟨f8,k8⟩,e8,hr⟩:=hr
     obtain ⟨k8',g8,L8⟩:=rgn_m hc L7 e8
     simp only [g8,oqS]
     exact chunkA_m hc L8 hr
    ·cases hr
   ·cases hr
  ·rename_i hb
   split at hr
   ·rename_i hb2
    simp only [oqI,oqM] at hr
    obtain ⟨rfl,rfl⟩:=hr
    simp only at hb2
    exact ⟨k1',by simp only [isB_f hb2,oqF,if_false,isB_m hb2,if_true],L1⟩
   ·cases hr
theorem fnOf_m {g:Nat} {fr:Fr} {x:Operand} {p:AS × AS} (h:fnOf g (evS fr x) = some p):fnOf g (evS (mF R.r fr) x) = some (mS R.r p.1,mS R.r p.2):=by
 rw [ev_fn (ρ:=R.r) (fnOf_ok h)]
 simp only [fnOf,if_true]
theorem layA_m (hc:CallsRn R c d) {F:LayFn} {args:List AV} {h h':H} {r:CR} (L:Hrn R h h') (hr:layA C F c args h = some r):∃ r',layA C F d (args.map (mV R.r)) h' = some r'∧CRm R r r':=by
 unfold layA at hr ⊢
 split at hr
 ·rename_i hlen
  rw [if_pos (by rw [List.length_map];exact hlen)]
  simp only [oqB] at hr
  obtain ⟨⟨f0,k0⟩,e0,⟨f1,k1⟩,e1,⟨f2,k2⟩,e2,q,hq,hr⟩:=hr
  obtain ⟨k0',g0,L0⟩:=rgn_m hc L e0
  rw [frame_m] at g0
  obtain ⟨k1',g1,L1⟩:=rgn_m hc L0 e1
  obtain ⟨k2',g2,L2⟩:=rgn_m hc L1 e2
  simp only at hq
  simp only [g0,g1,g2,fnOf_m hq,oqS]
  split at hr
  ·rename_i hno
   simp only [noOpq_m hno,if_true]
   simp only [oqB] at hr
   obtain ⟨⟨f3,k3⟩,e3,⟨f4,k4⟩,e4,⟨f5,k5⟩,e5,v,hv,hr⟩:=hr
   simp only [oqI] at hr;subst hr
   obtain ⟨k3',g3,L3⟩:=rgn_m hc L2 e3
   rw [frame_m] at g3
   simp only [List.map_cons,List.map_nil,mV] at g3
   obtain ⟨k4',g4,L4⟩:=chunkA_m hc L3 e4
   obtain ⟨k5',g5,L5⟩:=rgn_m hc L4 e5
   simp only [g3,g4,g5,oqS]
   exact ⟨.ret (mV R.r v) k5',by simp only at hv;rw [resultA_m L5 hv];rfl,rfl,L5⟩
  ·cases hr
 ·cases hr
def Rn.shift (n:Nat) (f:Nat→Option Blk):Rn:=⟨fun b=>n + b,fun _=>True,fun b=>b < n,f,fun a b _ _ h=>Nat.add_left_cancel h,fun b hb a _=>fun e=>absurd hb (by have e:n + a = b:=e;omega)⟩
end
end Go.Ab
namespace Go.Ab
theorem insA_m {R:Rn} {F:InsFn} {args:List AV} {h h':H} {r:CR} (L:Hrn R h h') (hr:insA F args h = some r):∃ r',insA F (args.map (mV R.r)) h' = some r'∧CRm R r r':=by
 unfold insA at hr
 split at hr
 ·rename_i s i bv vv ov sv cv
  simp only [oqB] at hr
  obtain ⟨new,hnew,hr⟩:=hr
  have hn:=elemsOf_m L hnew
  simp only [mS] at hn
  simp only [List.map_cons,List.map_nil,mV,mS,insA,hn,oqS]
  split at hr
  ·split at hr
   ·rename_i hi
    obtain ⟨q,h1,hA,rfl⟩:=endA_inv hr
    obtain ⟨h1',hA',L1⟩:=appendL_m L hA
    simp only [mS] at hA' ⊢
    exact ⟨.ret (.one (mS R.r q)) h1',by simp only [if_pos hi,hA',endA,Option.map_some],by simp only [mV],L1⟩
   ·cases hr
  ·split at hr
   ·rename_i hi
    obtain ⟨q,h1,hA,rfl⟩:=endA_inv hr
    obtain ⟨h1',hA',L1⟩:=appendL_m L hA
    simp only [mS] at hA' ⊢
    exact ⟨.ret (.one (mS R.r q)) h1',by simp only [if_pos hi,hA',endA,Option.map_some],by simp only [mV],L1⟩
   ·rename_i b v o n s' c hne
    simp only [oqB] at hr
    obtain ⟨k,hk,hr⟩:=hr
    split at hr
    ·rename_i hc
     simp only [oqB] at hr
     obtain ⟨rest,hrest,hr⟩:=hr
     obtain ⟨q,h1,hA,rfl⟩:=endA_inv hr
     obtain ⟨h1',hA',L1⟩:=appendL_m L hA
     obtain ⟨B,E,hB,_⟩:=readC_ptr hrest
     have hrd:=readC_m L hrest
     rw [mL_app] at hA'
     simp only [mS] at hA' hrd ⊢
     have hc':0 ≤ i∧i < n∧R.r bv ≠ R.r b∧(mB R.r k).fixed = true∧s' = F.size∧0 < F.size∧n ≤ 17592186044416 :=
      ⟨hc.1,hc.2.1,fun e=>hc.2.2.1 (R.inj _ _ (L.dom _ _ hk) (L.dom _ _ hB) e),hc.2.2.2⟩
     exact ⟨.ret (.one (mS R.r q)) h1',by simp only [if_neg hne,L.f _ _ hk,oqS,if_pos hc',hrd,hA',endA,Option.map_some],by simp only [mV],L1⟩
    ·cases hr
  ·cases hr
 ·cases hr
end Go.Ab
namespace Go.Ab
section
variable {C:Conf}
end
end Go.Ab
namespace Go.Fa
open Ab (band beqN AS AV OR Fr H CR Conf Calls' W PrimOk PrimRn Blk View findB mS mL mV mB Rn Hrn)
mutual
def scS (n:Nat):AS→Bool
 | .ptr b _ _=>Nat.blt b n
 | .rp l _=>scL n l
 | .slc b _ _ _ _ _=>Nat.blt b n
 | .vs _ _ l=>scL n l
 | .fn _ a b=>bif scL n a then scL n b else false
 | .ifc _ v=>scS n v
 | _=>true
def scL (n:Nat):List AS→Bool
 | []=>true
 | a::l=>bif scS n a then scL n l else false
end
mutual
theorem scS_ok {n:Nat} {ρ ρ':Nat→Nat} (h:∀ b,b < n→ρ b = ρ' b):∀ {a:AS},scS n a = true→mS ρ a = mS ρ' a
 | .ptr b v o,e=>by rw [scS] at e;rw [mS,mS,h b (blt_lt e)]
 | .rp l o,e=>by rw [scS] at e;rw [mS,mS,scL_ok h e]
 | .slc b v o k s c,e=>by rw [scS] at e;rw [mS,mS,h b (blt_lt e)]
 | .vs k s l,e=>by rw [scS] at e;rw [mS,mS,scL_ok h e]
 | .fn f a b,e=>by
  rw [scS] at e
  obtain ⟨e1,e2⟩:=band e
  rw [mS,mS,scL_ok h e1,scL_ok h e2]
 | .ifc t v,e=>by rw [scS] at e;rw [mS,mS,scS_ok h e]
 | .bool _,_=>by rw [mS,mS]
 | .int _ _,_=>by rw [mS,mS]
 | .flt _,_=>by rw [mS,mS]
 | .nan,_=>by rw [mS,mS]
 | .nanb,_=>by rw [mS,mS]
 | .nanf,_=>by rw [mS,mS]
 | .str _,_=>by rw [mS,mS]
 | .nilptr,_=>by rw [mS,mS]
 | .nilslc,_=>by rw [mS,mS]
 | .nilfn,_=>by rw [mS,mS]
 | .nilifc,_=>by rw [mS,mS]
theorem scL_ok {n:Nat} {ρ ρ':Nat→Nat} (h:∀ b,b < n→ρ b = ρ' b):∀ {l:List AS},scL n l = true→mL ρ l = mL ρ' l
 | [],_=>by rw [mL,mL]
 | a::l,e=>by
  rw [scL] at e
  obtain ⟨e1,e2⟩:=band e
  rw [mL,mL,scS_ok h e1,scL_ok h e2]
end
def Sc (n:Nat) (k:Blk):Prop:=∀ ρ ρ':Nat→Nat,(∀ b,b < n→ρ b = ρ' b)→mB ρ k = mB ρ' k
theorem sc_of {n:Nat} {k:Blk} (h:scL n k.cells = true):Sc n k:=fun ρ ρ' e=>by
 unfold mB;rw [scL_ok e h]
theorem Sc.mono {n m:Nat} {k:Blk} (h:Sc n k) (hm:n ≤ m):Sc m k:=fun ρ ρ' e=>h ρ ρ' fun b hb=>e b (by omega)
def scW (n:Nat):List (Nat × Blk)→Bool
 | []=>true
 | a::l=>bif Nat.blt a.1 n then bif scL n a.2.cells then scW n l else false else false
theorem scW_ok {n:Nat}:∀ {l:List (Nat × Blk)},scW n l = true→∀ b k,findB l b = some k→b < n∧Sc n k
 | [],_,b,k,hk=>by cases hk
 | a::l,h,b,k,hk=>by
  rw [scW] at h
  obtain ⟨h1,h⟩:=band h
  obtain ⟨h2,h3⟩:=band h
  rw [findB] at hk
  split at hk
  ·rename_i e
   subst e
   simp only [oqI] at hk;subst hk
   exact ⟨blt_lt h1,sc_of h2⟩
  ·exact scW_ok h3 b k hk
def scA (n:Nat):List AV→Bool
 | []=>true
 | .one a::l=>bif scS n a then scA n l else false
 | .agg c::l=>bif scL n c then scA n l else false
 | _::_=>false
theorem scA_ok {n:Nat} {ρ ρ':Nat→Nat} (h:∀ b,b < n→ρ b = ρ' b):∀ {l:List AV},scA n l = true→l.map (mV ρ) = l.map (mV ρ')
 | [],_=>rfl
 | .one a::l,e=>by
  rw [scA] at e
  obtain ⟨e1,e2⟩:=band e
  rw [List.map_cons,List.map_cons,scA_ok h e2,mV,mV,scS_ok h e1]
 | .agg c::l,e=>by
  rw [scA] at e
  obtain ⟨e1,e2⟩:=band e
  rw [List.map_cons,List.map_cons,scA_ok h e2,mV,mV,scL_ok h e1]
 | .undef::_,e=>by cases e
 | .tup _::_,e=>by cases e
 | .opq::_,e=>by cases e
noncomputable def callW (S:Seat) (fuel d f:Nat) (args:List AV) (V:View) (un:List Nat) (next:Nat) (wt:List (Nat × Blk)) (bs:List Nat):Option (AV × List (Nat × Blk)) :=
 bif Nat.ble V.next next then bif scA V.next args then
  match viewF ⟨V.next,pickB V.l (bs++(idsB wt++un))⟩ with
  | some t=>match callR (conf S) (tab S) fuel d f args t with
   | some (.ret x t')=>bif Nat.beq t'.next next then bif subF t' (wt++pickB V.l un) then (match outB t' bs with | some r=>some (x,r) | none=>none) else none else none
   | _=>none
  | none=>none
 else none else none
theorem callW_ok {S:Seat} (hS:SeatOk S) {fuel d f:Nat} {args:List AV} {V:View} {un:List Nat} {next:Nat} {wt:List (Nat × Blk)} {bs:List Nat} {x:AV} {r:List (Nat × Blk)} (hr:callW S fuel d f args V un next wt bs = some (x,r)) :
  V.next ≤ next∧scA V.next args = true∧idsB r = bs∧∃ hw,W (conf S) f args (View.h ⟨V.next,pickB V.l (bs++(idsB wt++un))⟩) = some (.ret x hw)∧hw.next = next∧∀ b k,findB (r++(wt++pickB V.l un)) b = some k→hw.f b = some k:=by
 unfold callW at hr
 obtain ⟨h1,hr⟩:=bif_some hr
 obtain ⟨h2,hr⟩:=bif_some hr
 split at hr
 ·rename_i t ht
  have hv:=viewF_ok ht
  split at hr
  ·rename_i x' t' hc
   obtain ⟨h3,hr⟩:=bif_some hr
   obtain ⟨h4,hr⟩:=bif_some hr
   split at hr
   ·rename_i r' hr'
    simp only [oqI,oqM] at hr
    obtain ⟨rfl,rfl⟩:=hr
    obtain ⟨hw,hW,hR⟩:=callR_ok conf_prim (tab_ok hS) d f args t _ _ hv hc
    refine ⟨ble_le h1,h2,outB_ids hr',hw,hW,by rw [hR.next,beqN h3],fun b k hk=>?_⟩
    rw [findB_app] at hk
    split at hk
    ·rename_i q hq
     simp only [oqI] at hk;subst hk
     exact outB_ok hR hr' _ _ hq
    ·exact subF_ok hR h4 _ _ hk
   ·cases hr
  ·cases hr
 ·cases hr
structure At (V:View) (ρ:Nat→Nat) (h:H):Prop where
 lt:∀ b,b < V.next→ρ b < h.next
 inj:∀ a b,a < V.next→b < V.next→ρ a = ρ b→a = b
 f:∀ b k,findB V.l b = some k→b < V.next∧Sc V.next k∧h.f (ρ b) = some (mB ρ k)
theorem At.none (ρ:Nat→Nat) (h:H):At ⟨0,[]⟩ ρ h:=⟨fun b hb=>absurd hb (Nat.not_lt_zero b),fun a b ha=>absurd ha (Nat.not_lt_zero a),fun b k hk=>by cases hk⟩
theorem At.keep {V:View} {ρ:Nat→Nat} {h h':H} (A:At V ρ h) (hn:h.next ≤ h'.next) (hf:∀ b,b < V.next→h'.f (ρ b) = h.f (ρ b)):At V ρ h' :=
 ⟨fun b hb=>Nat.lt_of_lt_of_le (A.lt b hb) hn,A.inj,fun b k hk=>by
  obtain ⟨h1,h2,h3⟩:=A.f b k hk
  exact ⟨h1,h2,by rw [hf b h1];exact h3⟩⟩
theorem At.new {V:View} {ρ:Nat→Nat} {h:H} (A:At V ρ h) (B:Blk):At V ρ (h.new B) :=
 A.keep (by simp [Ab.H.new]) fun b hb=>by have:=A.lt b hb;simp only [Ab.H.new];rw [if_neg (by omega)]
theorem At.congr {V:View} {ρ ρ':Nat→Nat} {h:H} (A:At V ρ h) (e:∀ b,b < V.next→ρ' b = ρ b):At V ρ' h :=
 ⟨fun b hb=>by rw [e b hb];exact A.lt b hb,fun a b ha hb hab=>A.inj a b ha hb (by rw [← e a ha,← e b hb];exact hab),fun b k hk=>by
  obtain ⟨h1,h2,h3⟩:=A.f b k hk
  exact ⟨h1,h2,by rw [e b h1,h3,h2 ρ ρ' fun c hc=>(e c hc).symm]⟩⟩
theorem At.less {V V0:View} {ρ:Nat→Nat} {h:H} (A:At V ρ h) (hn:V0.next ≤ V.next) (hs:scW V0.next V0.l = true) (hl:∀ b k,findB V0.l b = some k→findB V.l b = some k):At V0 ρ h :=
 ⟨fun b hb=>A.lt b (by omega),fun a b ha hb=>A.inj a b (by omega) (by omega),fun b k hk=>by
  obtain ⟨h1,h2⟩:=scW_ok hs b k hk
  exact ⟨h1,h2,(A.f b k (hl b k hk)).2.2⟩⟩
theorem At.add {V:View} {ρ:Nat→Nat} {h:H} (A:At V ρ h) {c:Nat} {B:Blk} (hc:c < h.next) (hne:∀ a,a < V.next→ρ a ≠ c) (hB:h.f c = some B) (hs:scL 0 B.cells = true) :
  ∃ ρ',At ⟨V.next + 1,(V.next,B)::V.l⟩ ρ' h∧(∀ b,b < V.next→ρ' b = ρ b)∧ρ' V.next = c:=by
 obtain ⟨ρ',hρ⟩:∃ ρ':Nat→Nat,ρ' = fun b=>if b < V.next then ρ b else c:=⟨_,rfl⟩
 have r1:∀ b,b < V.next→ρ' b = ρ b:=fun b hb=>by rw [hρ];exact if_pos hb
 have r2:ρ' V.next = c:=by rw [hρ];exact if_neg (Nat.lt_irrefl _)
 have key:∀ b,b < V.next + 1→b < V.next ∨ b = V.next:=fun b hb=>by omega
 have S0:=sc_of hs
 refine ⟨ρ',⟨fun b hb=>?_,fun a b ha hb hab=>?_,fun b k hk=>?_⟩,r1,r2⟩
 ·rcases key b hb with h1 | rfl
  ·rw [r1 b h1];exact A.lt b h1
  ·rw [r2];exact hc
 ·rcases key a ha with h1 | rfl <;> rcases key b hb with h2 | rfl
  ·exact A.inj a b h1 h2 (by rw [← r1 a h1,← r1 b h2];exact hab)
  ·rw [r1 a h1,r2] at hab;exact absurd hab (hne a h1)
  ·rw [r1 b h2,r2] at hab;exact absurd hab.symm (hne b h2)
  ·rfl
 ·simp only [findB] at hk
  split at hk
  ·rename_i e
   subst e
   simp only [oqI] at hk;subst hk
   refine ⟨Nat.lt_succ_self _,S0.mono (Nat.zero_le _), ?_⟩
   rw [r2,hB]
   have e1:mB ρ' B = mB id B:=S0 _ _ fun b hb=>absurd hb (Nat.not_lt_zero b)
   rw [e1]
   have:∀ (l:List AS),scL 0 l = true→mL id l = l:=sc0
   cases B with
   | mk a1 a2 a3 a4=>unfold mB;rw [this _ hs]
  ·obtain ⟨h1,h2,h3⟩:=A.f b k hk
   exact ⟨Nat.lt_succ_of_lt h1,h2.mono (Nat.le_succ _),by rw [r1 b h1,h3,h2 ρ ρ' fun d hd=>(r1 d hd).symm]⟩
where
 sc0:∀ (l:List AS),scL 0 l = true→mL id l = l:=fun l hl=>(mid l)
 mid:∀ (l:List AS),mL id l = l:=fun l=>by
  have h:∀ a:AS,mS id a = a:=fun a=>mSid a
  rw [Ab.mL_map];induction l with
  | nil=>rfl
  | cons a l ih=>rw [List.map_cons,h,ih]
 mSid:∀ (a:AS),mS id a = a:=by
  intro a
  exact (AS.rec (motive_1:=fun a=>mS id a = a) (motive_2:=fun l=>mL id l = l) (by intro b;rw [mS]) (by intro k n;rw [mS]) (by intro b;rw [mS]) (by rw [mS]) (by rw [mS]) (by rw [mS]) (by intro s;rw [mS]) (by rw [mS])
   (by intro b v o;rw [mS];rfl) (by intro l o ih;rw [mS,ih]) (by rw [mS]) (by intro b v o n s c;rw [mS];rfl) (by intro n s l ih;rw [mS,ih]) (by intro f a b ih1 ih2;rw [mS,ih1,ih2]) (by rw [mS]) (by intro t v ih;rw [mS,ih]) (by rw [mS])
   (by rw [mL]) (by intro a l ih1 ih2;rw [mL,ih1,ih2]) a)
theorem call_at {S:Seat} (hS:SeatOk S) (hP:PrimRn (conf S)) {fuel d f:Nat} {args:List AV} {V:View} {un:List Nat} {next:Nat} {wt:List (Nat × Blk)} {bs:List Nat} {x:AV} {r:List (Nat × Blk)} (hr:callW S fuel d f args V un next wt bs = some (x,r))
  (hs:∀ b k,findB (r++wt) b = some k→b < next∧Sc next k) {ρ:Nat→Nat} {h:H} (A:At V ρ h) :
  ∃ h' ρ',W (conf S) f (args.map (mV ρ)) h = some (.ret (mV ρ' x) h')∧At ⟨next,r++(wt++V.l)⟩ ρ' h'∧(∀ b,b < V.next→ρ' b = ρ b)∧h.next ≤ h'.next∧(∀ b,V.next ≤ b→h.next ≤ ρ' b) ∧
   ∀ b,b < h.next→(∀ a,a < V.next→ρ a ≠ b)→h'.f b = h.f b:=by
 obtain ⟨hle,ha,hids,hw,hW,hn,hk⟩:=callW_ok hS hr
 obtain ⟨ρ',hρ⟩:∃ ρ':Nat→Nat,ρ' = fun b=>if b < V.next then ρ b else h.next + (b - V.next):=⟨_,rfl⟩
 have r1:∀ b,b < V.next→ρ' b = ρ b:=fun b hb=>by rw [hρ];exact if_pos hb
 have r2:∀ b,V.next ≤ b→ρ' b = h.next + (b - V.next):=fun b hb=>by rw [hρ];exact if_neg (by omega)
 obtain ⟨P,hPk⟩:∃ P,pickB V.l (bs++(idsB wt++un)) = P:=⟨_,rfl⟩
 rw [hPk] at hW
 have hpk:∀ b k,findB P b = some k→findB V.l b = some k:=fun b k hb=>pickB_ok (by rw [hPk];exact hb)
 have hno:∀ b,findB V.l b ≠ Option.none→findB P b = Option.none→b ∉ bs∧b ∉ idsB wt∧b ∉ un:=by
  intro b hb hp
  obtain ⟨k,hk⟩:=Option.ne_none_iff_exists'.1 hb
  refine ⟨fun hm=>?_,fun hm=>?_,fun hm=>?_⟩ <;>
   (have:=pickB_has (l:=V.l) (r:=bs++(idsB wt++un)) (b:=b) (k:=k) (by simp [hm]) hk;rw [hPk,hp] at this;cases this)
 let R:Rn:=⟨ρ',fun b=>(∃ k,findB P b = some k) ∨ V.next ≤ b,fun b=>b < h.next∧∀ a k,findB P a = some k→ρ a ≠ b,h.f,fun a b hka hkb hab=>by
   have lta:∀ a,(∃ k,findB P a = some k)→a < V.next:=fun a ⟨k,hk⟩=>(A.f a k (hpk a k hk)).1
   rcases hka with ha1 | ha1 <;> rcases hkb with hb1 | hb1
   ·rw [r1 a (lta a ha1),r1 b (lta b hb1)] at hab
    exact A.inj a b (lta a ha1) (lta b hb1) hab
   ·rw [r1 a (lta a ha1),r2 b hb1] at hab
    have:=A.lt a (lta a ha1);omega
   ·rw [r1 b (lta b hb1),r2 a ha1] at hab
    have:=A.lt b (lta b hb1);omega
   ·rw [r2 a ha1,r2 b hb1] at hab;omega,
  fun b hb a hka=>by
   rcases hka with ⟨k,hk⟩ | ha1
   ·rw [r1 a (A.f a k (hpk a k hk)).1];exact hb.2 a k hk
   ·rw [r2 a ha1];have:=hb.1;omega⟩
 have sc:∀ {k:Blk},Sc V.next k→mB ρ' k = mB ρ k:=fun s=>s ρ' ρ r1
 have L0:Hrn R (View.h ⟨V.next,P⟩) h:=by
  refine ⟨fun b k hb=>?_,fun b k hb=>.inl ⟨k,hb⟩,fun b hb=>⟨?_,.inr hb,r2 b hb⟩,fun b hb=>⟨hb.1,rfl⟩⟩
  ·obtain ⟨h1,h2,h3⟩:=A.f b k (hpk b k hb)
   show h.f (ρ' b) = some (mB ρ' k)
   rw [r1 b h1,h3,sc h2]
  ·show findB P b = Option.none
   cases hf:findB P b with
   | none=>rfl
   | some k=>have:=(A.f b k (hpk b k hf)).1;have hb:V.next ≤ b:=hb;omega
 obtain ⟨r',e,L⟩:=Ab.W_m conf_prim hP (R:=R) _ _ _ _ _ L0 hW
 cases r' with
 | pan v' h'=>exact L.elim
 | ret v' h' =>
 obtain ⟨rfl,L⟩:=L
 have nx:h'.next = h.next + (next - V.next):=by
  have:=(L.top hw.next (Nat.le_refl _)).2.2
  have e2:ρ' hw.next = h'.next + (hw.next - hw.next):=this
  rw [hn,r2 next hle,Nat.sub_self] at e2
  omega
 refine ⟨h',ρ', ?_,⟨fun b hb=>?_,fun a b ha' hb hab=>?_,fun b k hb=>?_⟩,r1,by omega,fun b hb=>by rw [r2 b hb];omega,fun b hb hne=>?_⟩
 ·rw [scA_ok (fun b hb=>(r1 b hb).symm) ha];exact e
 ·have hb:b < next:=hb
  rcases Nat.lt_or_ge b V.next with h1 | h1
  ·rw [r1 b h1];have:=A.lt b h1;omega
  ·rw [r2 b h1];omega
 ·rcases Nat.lt_or_ge a V.next with h1 | h1 <;> rcases Nat.lt_or_ge b V.next with h2 | h2
  ·exact A.inj a b h1 h2 (by rw [← r1 a h1,← r1 b h2];exact hab)
  ·rw [r1 a h1,r2 b h2] at hab;have:=A.lt a h1;omega
  ·rw [r1 b h2,r2 a h1] at hab;have:=A.lt b h2;omega
  ·rw [r2 a h1,r2 b h2] at hab;omega
 ·have hb':findB ((r++wt)++V.l) b = some k:=by rw [List.append_assoc];exact hb
  rw [findB_app] at hb'
  split at hb'
  ·rename_i q hq
   simp only [oqI] at hb';subst hb'
   obtain ⟨h1,h2⟩:=hs b q hq
   refine ⟨h1,h2,L.f b q (hk b q ?_)⟩
   rw [← List.append_assoc,findB_app,hq]
  ·rename_i hq
   obtain ⟨h1,h2,h3⟩:=A.f b k hb'
   refine ⟨Nat.lt_of_lt_of_le h1 hle,h2.mono hle, ?_⟩
   by_cases hm:b ∈ un
   ·refine L.f b k (hk b k ?_)
    rw [← List.append_assoc,findB_app,hq]
    exact pickB_has hm hb'
   ·have hp:findB P b = Option.none:=by
     rw [← hPk]
     refine pickB_not fun hc=>?_
     rw [findB_app] at hq
     split at hq
     ·cases hq
     ·rename_i hq1
      rcases List.mem_append.1 hc with h4 | h4
      ·rw [← hids] at h4;exact idsB_has hq1 h4
      ·rcases List.mem_append.1 h4 with h5 | h5
       ·exact idsB_has hq h5
       ·exact hm h5
    have hD:R.D (ρ b):=⟨A.lt b h1,fun a k' hk' hab=>by
     have:=A.inj a b (A.f a k' (hpk a k' hk')).1 h1 hab
     subst this
     rw [hp] at hk';cases hk'⟩
    rw [r1 b h1,(L.fr _ hD).2]
    show h.f (ρ b) = _
    rw [h3,sc h2]
 ·exact (L.fr b ⟨hb,fun a k hk'=>hne a (A.f a k (hpk a k hk')).1⟩).2
end Go.Fa
