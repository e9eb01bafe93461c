/- Data that are lists; what is written, grown; a law's arguments. No conditions. -/
import Derived.Test.YtkpmdlcmbemgdaaGreatAb3
import Ieee.Arith
import Derived.Test.YtkpmdlcmbemgdaaGreatAb4
set_option linter.unusedVariables false
set_option linter.unusedSimpArgs false
set_option linter.unnecessarySimpa false
namespace Go.Ab
@[simp] theorem empty_next:H.empty.next = 0:=rfl
@[simp] theorem empty_f (b:Nat):H.empty.f b = none:=rfl
@[simp] theorem new_next (h:H) (k:Blk):(h.new k).next = h.next + 1:=rfl
@[simp] theorem set_next (h:H) (b:Nat) (k:Blk):(h.set b k).next = h.next:=rfl
@[simp] theorem new_at (h:H) (k:Blk) (b:Nat):(h.new k).f b = if b = h.next then some k else h.f b:=rfl
@[simp] theorem set_at (h:H) (b c:Nat) (k:Blk):(h.set b k).f c = if c = b then some k else h.f c:=rfl
@[simp] theorem set_set (h:H) (b:Nat) (k k':Blk):(h.set b k).set b k' = h.set b k':=by
 simp only [H.set];congr 1;funext x;split <;> rfl
@[simp] theorem new_set (h:H) (k k':Blk):(h.new k).set h.next k' = h.new k':=by
 simp only [H.set,H.new];congr 1;funext x;split <;> rfl
@[simp] theorem read_ptr (h:H) (b v o n:Nat):readC h (.ptr b v o) n = (h.f b).bind fun k=>(k.ext v).bind fun e=>if o + n ≤ e then sub k.cells o n else none:=rfl
@[simp] theorem read_rp (h:H) (cells:List AS) (o n:Nat):readC h (.rp cells o) n = sub cells o n:=rfl
@[simp] theorem write_ptr (h:H) (b v o:Nat) (l:List AS):writeC h (.ptr b v o) l = (h.f b).bind fun k=>(k.ext v).bind fun e=>if v = k.ver∧o + l.length ≤ e∧e = k.cells.length then some (h.set b ⟨k.ver,[e],k.fixed,lay k.cells o l⟩) else none:=rfl
attribute [simp] Blk.ext blkOf
theorem wrap_i64 {x:Int} (h1:-9223372036854775808 ≤ x) (h2:x < 9223372036854775808):IntKind.i64.wrap x = x:=by
 simp only [IntKind.wrap,IntKind.signed,IntKind.bits]
 simp
 omega
section
variable {α:Type}
def ls (o:Option (List α)):List α:=o.getD []
@[simp] theorem ls_some (l:List α):ls (some l) = l:=rfl
@[simp] theorem ls_none:ls (none:Option (List α)) = []:=rfl
def cat (enc:α→List AS) (l:List α):List AS:=l.flatMap enc
def sl (s:Nat) (enc:α→List AS):Option (List α)→AS
 | none=>.nilslc
 | some l=>.vs l.length s (cat enc l)
@[simp] theorem lenS_sl (s:Nat) (enc:α→List AS) (o:Option (List α)):lenS (sl s enc o) = some (ls o).length:=by cases o <;> rfl
theorem flat_length {s:Nat} {enc:α→List AS} (he:∀ x,(enc x).length = s) (l:List α):(cat enc l).length = l.length * s:=by
 unfold cat
 induction l with
 | nil=>simp
 | cons a l ih=>simp [he,ih,Nat.succ_mul];omega
theorem pureL_flat {st:Bool} {enc:α→List AS} (l:List α) (hp:∀ x ∈ l,pureL st (enc x) = true):pureL st (cat enc l) = true:=by
 unfold cat
 induction l with
 | nil=>rfl
 | cons a l ih =>
  rw [List.flatMap_cons,pureL_append,hp a (by simp),ih fun x hx=>hp x (by simp [hx])];rfl
theorem pureS_sl {s:Nat} {enc:α→List AS} (hp:∀ x,pureL false (enc x) = true) (o:Option (List α)):pureS false (sl s enc o) = true:=by
 cases o with
 | none=>rfl
 | some l=>simp only [sl,pureS,Bool.not_false,Bool.true_or,Bool.true_and];exact pureL_flat l fun x _=>hp x
@[simp] theorem lenA_sl (s:Nat) (enc:α→List AS) (o:Option (List α)) (u:TypeId) (h:H):lenA (sl s enc o) (some (.slice u)) h = some (one (.int .i64 (ls o).length) h):=by cases o <;> rfl
end
abbrev BL:=List UInt8
def bs:Option BL→AS:=sl 1 fun b=>[byteS b]
theorem bs_none:bs none = .nilslc:=rfl
theorem bs_some (l:BL):bs (some l) = .vs l.length 1 (l.map byteS):=by
 simp only [bs,sl,cat]
 congr 1
 induction l with
 | nil=>rfl
 | cons a l ih=>simp only [List.flatMap_cons,List.map_cons,ih];rfl
@[simp] theorem lenS_bs (o:Option BL):lenS (bs o) = some (ls o).length:=lenS_sl _ _ _
@[simp] theorem lenA_bs (o:Option BL) (u:TypeId) (h:H):lenA (bs o) (some (.slice u)) h = some (one (.int .i64 (ls o).length) h):=lenA_sl _ _ _ _ _
@[simp] theorem pureS_bs (o:Option BL):pureS false (bs o) = true:=pureS_sl (fun _=>rfl) o
@[simp] theorem onW_not (b:Bool) (A B:Prop):onW (some (!b)) A B = onW (some b) B A:=by cases b <;> simp
@[simp] theorem fork_not (b:Bool) (A B:Prop):Fork (!b) A B = Fork b B A:=by cases b <;> simp
@[simp] theorem wanted_b (b:Bool):(b == true) = b:=by cases b <;> rfl
@[simp] theorem wanted_nb (b:Bool):(b == false) = !b:=by cases b <;> rfl
def Wr (h:H) (p:Nat) (q:Option Nat) (l:BL):Prop:=p < h.next∧∃ s,ownB s = q∧q ≠ some p∧h.f p = some ⟨0,[1],true,[s]⟩∧Owns h 1 s (l.map byteS)
structure Only (h h':H) (p:Nat) (q q':Option Nat):Prop where
 next:h.next ≤ h'.next
 keep:∀ b,b < h.next→b ≠ p→q ≠ some b→h'.f b = h.f b
 own:q' = q ∨ ∃ b,q' = some b∧h.next ≤ b
theorem Only.refl (h:H) (p:Nat) (q:Option Nat):Only h h p q q:=⟨Nat.le_refl _,fun _ _ _ _=>rfl,.inl rfl⟩
theorem Only.trans {h h1 h2:H} {p:Nat} {q q1 q2:Option Nat} (a:Only h h1 p q q1) (b:Only h1 h2 p q1 q2):Only h h2 p q q2 where
 next:=Nat.le_trans a.next b.next
 keep x hx hp hq:=by
  rw [b.keep x (Nat.lt_of_lt_of_le hx a.next) hp ?_,a.keep x hx hp hq]
  rcases a.own with e | ⟨y,e,hy⟩
  ·rw [e];exact hq
  ·rw [e];intro h;cases h;omega
 own:=by
  rcases b.own with e | ⟨y,e,hy⟩
  ·rw [e]
   rcases a.own with e | ⟨y,e,hy⟩
   ·exact .inl e
   ·exact .inr ⟨y,e,hy⟩
  ·exact .inr ⟨y,e,Nat.le_trans a.next hy⟩
theorem Wr.own_lt {h:H} {p b:Nat} {q:Option Nat} {l:BL} (w:Wr h p q l) (hb:q = some b):b < h.next:=by
 obtain ⟨_,s,hq,_,_,ho⟩:=w
 rw [hb] at hq
 cases s <;> simp only [ownB,Owns,reduceCtorEq] at hq ho
 cases hq
 exact ho.2.2.2.2.1
theorem Wr.new {h:H} {p:Nat} {q:Option Nat} {l:BL} (w:Wr h p q l) (k:Blk):Wr (h.new k) p q l:=by
 obtain ⟨hp,s,hq,hqp,hf,ho⟩:=w
 refine ⟨by simp only [new_next];omega,s,hq,hqp, ?_,ho.new k⟩
 rw [new_at,if_neg (by omega)];exact hf
def keptP (h:H):List (Nat × Blk)→Prop
 | []=>True
 | e::l=>h.f e.1 = some e.2∧keptP h l
def WS (h0:H) (q0:Option Nat) (h:H) (p:Nat) (l:BL) (kept:List (Nat × Blk)):Prop:=∃ q,Wr h p q l∧Only h0 h p q0 q∧keptP h kept∧∀ e ∈ kept,e.1 < h.next∧e.1 ≠ p∧q ≠ some e.1
theorem WS.start {h:H} {p:Nat} {q:Option Nat} {l:BL} (w:Wr h p q l):WS h q h p l []:=⟨q,w,Only.refl _ _ _,trivial,by simp⟩
theorem WS.drop {h0 h:H} {q0:Option Nat} {p:Nat} {l:BL} {kept:List (Nat × Blk)} (w:WS h0 q0 h p l kept):WS h0 q0 h p l []:=by
 obtain ⟨q,w,g,_⟩:=w;exact ⟨q,w,g,trivial,by simp⟩
theorem keptP_same {h h':H}:∀ {l:List (Nat × Blk)},(∀ e ∈ l,h'.f e.1 = h.f e.1)→keptP h l→keptP h' l
 | [],_,_=>trivial
 | e::l,hs,hk=>⟨by rw [hs e (by simp)];exact hk.1,keptP_same (fun x hx=>hs x (by simp [hx])) hk.2⟩
theorem WS.new {h0 h:H} {q0:Option Nat} {p:Nat} {l:BL} {kept:List (Nat × Blk)} (w:WS h0 q0 h p l kept) (k:Blk):WS h0 q0 (h.new k) p l ((h.next,k)::kept):=by
 obtain ⟨q,w,g,hk,hd⟩:=w
 have hp:=w.1
 refine ⟨q,w.new k,⟨Nat.le_trans g.next (by simp),fun b hb h1 h2=>?_,g.own⟩,⟨by simp,keptP_same (fun e he=>?_) hk⟩, ?_⟩
 ·rw [new_at,if_neg (by have:=g.next;omega)];exact g.keep b hb h1 h2
 ·rw [new_at,if_neg (by have:=(hd e he).1;omega)]
 ·intro e he
  rcases List.mem_cons.1 he with rfl | he
  ·refine ⟨by simp,by simp only;omega,fun hq=>?_⟩
   have:=w.own_lt hq;simp only at this;omega
  ·have:=hd e he
   exact ⟨by simp only [new_next];omega,this.2⟩
theorem ex_get' {L:Fr} {F:(Nat→AV)→Fr} (h:L = F (Fr.get L)):∃ j,L = F j:=⟨_,h⟩
theorem does_count {C:Conf} (hp:PrimOk C) {b:Code} {Q:Ex→Fr→H→Prop} (n:Nat) (I:Nat→Fr→H→Prop)
  (step:∀ i fr h,i < n→I i fr h→Does C b fr h fun e fr' h'=>match e with | .normal=>I (i + 1) fr' h' | e=>Q e fr' h')
  (stop:∀ fr h,I n fr h→Does C b fr h fun e fr' h'=>match e with | .normal=>False | e=>Q e fr' h') :
  ∀ fr h,I 0 fr h→Does C (.loop b) fr h Q:=by
 intro fr h hi
 refine does_loop hp (fun k fr h=>∃ i,i ≤ n∧k = n - i∧I i fr h) ?_ n fr h ⟨0,by omega,rfl,hi⟩
 rintro k fr h ⟨i,hin,hk,hi⟩
 by_cases hlt:i < n
 ·refine (step i fr h hlt hi).mono fun e fr' h' hx=>?_
  cases e with
  | normal=>exact ⟨n - (i + 1),by omega,i + 1,by omega,rfl,hx⟩
  | _=>exact hx
 ·have:i = n:=by omega
  subst this
  refine (stop fr h hi).mono fun e fr' h' hx=>?_
  cases e with
  | normal=>exact hx.elim
  | _=>exact hx
end Go.Ab
namespace Go.Ab
section
variable {α:Type}
def opt:List α→Option (List α)
 | []=>none
 | a::l=>some (a::l)
@[simp] theorem ls_opt (l:List α):ls (opt l) = l:=by cases l <;> rfl
@[simp] theorem opt_nil:opt ([]:List α) = none:=rfl
@[simp] theorem cat_nil (enc:α→List AS):cat enc [] = []:=rfl
theorem cat_cons (enc:α→List AS) (l:List α) (x:α):cat enc (x::l) = enc x++cat enc l:=rfl
theorem cat_app (enc:α→List AS) (l m:List α):cat enc (l++m) = cat enc l++cat enc m:=by simp [cat]
def Grown (h:H) (size:Nat) (enc:α→List AS) (s:AS) (l:List α):Prop:=Owns h size s (cat enc l)∧(l = []→s = .nilslc)
theorem Grown.keep {h h':H} {size:Nat} {enc:α→List AS} {s:AS} {l:List α} (g:Grown h size enc s l) (hn:h.next ≤ h'.next) (hf:∀ b,ownB s = some b→h'.f b = h.f b):Grown h' size enc s l:=⟨g.1.keep hn hf,g.2⟩
theorem Grown.new {h:H} {size:Nat} {enc:α→List AS} {s:AS} {l:List α} (g:Grown h size enc s l) (k:Blk):Grown (h.new k) size enc s l:=⟨g.1.new k,g.2⟩
theorem owns_lt {h:H} {size:Nat} {s:AS} {cells:List AS} (o:Owns h size s cells) {b:Nat} (hb:ownB s = some b):b < h.next:=by
 cases s <;> simp only [Owns,ownB,reduceCtorEq] at o hb
 cases hb;exact o.2.2.2.2.1
theorem owns_frz {st:Bool} {h:H} {size:Nat} {s:AS} {cells:List AS} {n:Nat} (o:Owns h size s cells) (hp:pureL st cells = true):frzS st h (n + 2) s = some (match s with | .slc _ _ _ k _ _=>.vs k size cells | x=>x):=by
 cases s <;> simp only [Owns] at o
 ·simp only [frzS,pureS,if_true]
 ·rename_i b v oo k s' c
  obtain ⟨rfl,rfl,rfl,hl,hb,B,h1,h2,h3,h4⟩:=o
  have hr:readC h (.ptr b v 0) (k * s') = some cells:=by
   simp only [readC,h1,h3,oqE,oqS,Nat.zero_add]
   rw [if_pos (by omega)]
   unfold sub
   rw [h4,if_pos (by omega),List.drop_zero,← hl,List.take_length]
  simp only [frzS,hr,oqE,oqS,mapM_pure hp]
end
end Go.Ab
namespace Go.Ab
theorem W_apartQ {C:Conf} (hp:PrimOk C) {f:Nat} {args args':List AV} {h:H} {Q:CR→Prop} (hv:viewA h args = some args') (ha:Apart C f args' fun v h1=>∃ r,outV (C.own f) (!args.all pureV) h1 h v = some r∧Q r):∃ r,W C f args h = some r∧Q r:=by
 obtain ⟨fn,c,h1,h2,h3,h4,h5,h6,x,fr,hh,e,hx⟩:=ha
 cases x with
 | normal=>obtain ⟨v,hv',r,hr,hq⟩:=hx;exact ⟨r,W_apart hp hv ⟨fn,c,h1,h2,h3,h4,h5,h6,.normal,fr,hh,e,v,hv',hr⟩,hq⟩
 | ret=>obtain ⟨v,hv',r,hr,hq⟩:=hx;exact ⟨r,W_apart hp hv ⟨fn,c,h1,h2,h3,h4,h5,h6,.ret,fr,hh,e,v,hv',hr⟩,hq⟩
 | exit i=>exact hx.elim
 | pan v=>exact hx.elim
def Byt (h:H) (s:AS) (l:BL):Prop:=Owns h 1 s (l.map byteS)∧pureS false s = false
theorem owns_slc {h:H} {size:Nat} {s:AS} {cells:List AS} (o:Owns h size s cells) (hs:pureS false s = false):∃ b v n,s = .slc b v 0 n size none:=by
 cases s <;> simp only [Owns] at o
 ·cases hs
 ·obtain ⟨rfl,rfl,rfl,_⟩:=o;exact ⟨_,_,_,rfl⟩
theorem byt_slc {h:H} {s:AS} {l:BL} (o:Byt h s l):∃ b v,s = .slc b v 0 l.length 1 none∧b < h.next:=by
 obtain ⟨b,v,n,rfl⟩:=owns_slc o.1 o.2
 obtain ⟨_,_,_,hl,hb,_⟩:=o.1
 have:n = l.length:=by simpa using hl.symm
 subst this
 exact ⟨b,v,rfl,hb⟩
theorem bytes_pureT {st:Bool} (l:BL):pureL st (l.map byteS) = true:=by
 induction l with
 | nil=>rfl
 | cons a l ih=>simp [pureL,pureS,byteS,ih]
theorem view_pureL {h:H} {n:Nat}:∀ {l:List AS},pureL false l = true→(∀ a ∈ l,(∀ f x c,a ≠ .fn f x c)∧∀ t v,a ≠ .ifc t v)→l.mapM (viewS h (n + 1)) = some l
 | [],_,_=>rfl
 | a::l,hp,hn=>by
  simp only [pureL,Bool.and_eq_true] at hp
  have h1:=hn a (by simp)
  simp only [List.mapM_cons,viewS_pure hp.1 h1.1 h1.2,view_pureL hp.2 (fun b hb=>hn b (by simp [hb])),oqE,oqS,oqP]
theorem view_byt {h:H} {s:AS} {l:BL} (o:Byt h s l):viewS h 64 s = some (bs (some l)):=by
 obtain ⟨b,v,rfl,hb⟩:=byt_slc o
 obtain ⟨_,_,_,hl,_,B,h1,h2,h3,h4⟩:=o.1
 have hr:readC h (.ptr b v 0) (l.length * 1) = some (l.map byteS):=by
  simp only [readC,h1,h3,oqE,oqS,Nat.zero_add,Nat.mul_one]
  rw [if_pos (by simp)]
  unfold sub
  rw [h4,if_pos (by simp),List.drop_zero,List.take_of_length_le (by simp)]
 have hq:(l.map byteS).mapM (viewS h 63) = some (l.map byteS):=view_pureL (n:=62) (bytes_pureT l) (by
  intro a ha
  obtain ⟨b,_,rfl⟩:=List.mem_map.1 ha
  exact ⟨fun _ _ _ h=>(by cases h),fun _ _ h=>(by cases h)⟩)
 rw [bs_some]
 simp only [viewS,hr,oqE,oqS,hq]
def Adds (C:Conf) (f:Nat) (rest:List AV) (y:BL):Prop :=
 ∀ o:Option BL,(ls o).length + y.length ≤ 1099511627776→∀ h args0,viewA h args0 = some (.one (bs o)::rest)→∃ x,W C f args0 h = some (.ret (.one (.slc h.next 0 0 (ls o++y).length 1 none)) (h.new (blkOf ((ls o++y).map byteS) x)))
structure OS (h:H) (s:AS) (l:BL) (kept:List (Nat × Blk)):Prop where
 byt:Byt h s l
 kp:keptP h kept
 ok:∀ e ∈ kept,e.1 < h.next∧ownB s ≠ some e.1
theorem Byt.new {h:H} {s:AS} {l:BL} (o:Byt h s l) (k:Blk):Byt (h.new k) s l:=⟨o.1.new k,o.2⟩
theorem Byt.lt {h:H} {s:AS} {l:BL} (o:Byt h s l) {b:Nat} (hb:ownB s = some b):b < h.next:=owns_lt o.1 hb
theorem OS.new {h:H} {s:AS} {l:BL} {kept:List (Nat × Blk)} (w:OS h s l kept) (k:Blk):OS (h.new k) s l ((h.next,k)::kept) where
 byt:=w.byt.new k
 kp:=⟨by simp,keptP_same (fun e he=>by rw [new_at,if_neg (by have:=(w.ok e he).1;omega)]) w.kp⟩
 ok e he:=by
  rcases List.mem_cons.1 he with rfl | he
  ·exact ⟨by simp,fun hb=>by have:=w.byt.lt hb;simp only at this;omega⟩
  ·have:=w.ok e he;exact ⟨by simp only [new_next];omega,this.2⟩
theorem byt_made (h:H) (l:BL) (x:Bool):Byt (h.new (blkOf (l.map byteS) x)) (.slc h.next 0 0 l.length 1 none) l:=⟨owns_made h 1 l.length _ x (by simp),rfl⟩
theorem OS.made (h:H) (l:BL) (x:Bool) (kept:List (Nat × Blk)) (hk:keptP h kept) (hl:∀ e ∈ kept,e.1 < h.next):OS (h.new (blkOf (l.map byteS) x)) (.slc h.next 0 0 l.length 1 none) l kept where
 byt:=byt_made h l x
 kp:=keptP_same (fun e he=>by rw [new_at,if_neg (by have:=hl e he;omega)]) hk
 ok e he:=⟨by have:=hl e he;simp only [new_next];omega,fun hb=>by simp only [ownB,oqI] at hb;have:=hl e he;omega⟩
theorem call_adds {C:Conf} {f:Nat} {rest rest':List AV} {y:BL} (ha:Adds C f rest' y) {h:H} {s:AS} {l:BL} {kept:List (Nat × Blk)} (w:OS h s l kept) (hr:rest.mapM (viewV h) = some rest') (hl:l.length + y.length ≤ 1099511627776)
  {K:AV→H→Prop} {Kp:AS→H→Prop} (hk:∀ s' h',h'.next = h.next + 1→OS h' s' (l++y) kept→keptP h' kept→K (.one s') h'):onR ((W C f (.one s::rest) h).bind crO) K Kp:=by
 have hv:viewA h (.one s::rest) = some (.one (bs (some l))::rest'):=by
  unfold viewA
  rw [if_neg (by simp [pureV,w.byt.2])]
  simp only [List.mapM_cons,viewV,view_byt w.byt,hr,oqE,oqS,oqP]
 obtain ⟨x,e⟩:=ha (some l) (by simpa using hl) h _ hv
 rw [e]
 simp only [oqS,crO_ret,onR_ok,ls_some]
 have m:=OS.made h (l++y) x kept w.kp fun e he=>(w.ok e he).1
 exact hk _ _ (by simp) m m.kp
@[simp] theorem view_bs (h:H) (o:Option BL) (n:Nat):viewS h (n + 1) (bs o) = some (bs o):=viewS_pure (by simp) (by cases o <;> simp [bs_none,bs_some]) (by cases o <;> simp [bs_none,bs_some])
theorem view_conv (h:H) (s:BL):[AV.one (.slc h.next 0 0 s.length 1 none)].mapM (viewV (h.new ⟨0,[s.length],false,s.map byteS⟩)) = some [.one (bs (some s))]:=by
 have h1:=view_byt (byt_made h s false)
 simp only [blkOf,List.length_map] at h1
 simp only [List.mapM_cons,List.mapM_nil,viewV,h1,oqE,oqS,oqP]
theorem call_adds0 {C:Conf} {f:Nat} {rest rest':List AV} {y:BL} (ha:Adds C f rest' y) {h:H} {o:Option BL} {kept:List (Nat × Blk)} (hk0:keptP h kept) (hl0:∀ e ∈ kept,e.1 < h.next) (hv:viewA h (.one (bs o)::rest) = some (.one (bs o)::rest')) (hl:(ls o).length + y.length ≤ 1099511627776)
  {K:AV→H→Prop} {Kp:AS→H→Prop} (hk:∀ s' h',h'.next = h.next + 1→OS h' s' (ls o++y) kept→keptP h' kept→K (.one s') h'):onR ((W C f (.one (bs o)::rest) h).bind crO) K Kp:=by
 obtain ⟨x,e⟩:=ha o hl h _ hv
 rw [e]
 simp only [oqS,crO_ret,onR_ok]
 have m:=OS.made h (ls o++y) x kept hk0 hl0
 exact hk _ _ (by simp) m m.kp
theorem byt_frz {st:Bool} {h:H} {s:AS} {l:BL} (o:Byt h s l) (n:Nat):frzS st h (n + 2) s = some (bs (some l)):=by
 have hx:=owns_frz (st:=st) (n:=n) o.1 (bytes_pureT l)
 obtain ⟨b,v,rfl,hb⟩:=byt_slc o
 rw [hx,bs_some]
theorem os_made0 (fx:Bool):OS (H.empty.new ⟨0,[0],fx,[]⟩) (.slc 0 0 0 0 1 none) [] []:=OS.made H.empty [] fx [] trivial (by simp)
theorem viewA_bs {h:H} {o:Option BL} {rest:List AV} (hp:rest.all pureV = true):viewA h (.one (bs o)::rest) = some (.one (bs o)::rest):=by
 unfold viewA
 rw [if_pos (by simp only [List.all_cons,pureV,pureS_bs,hp,Bool.and_self])]
theorem call_addsP {C:Conf} {f:Nat} {rest:List AV} {y:BL} (ha:Adds C f rest y) {h:H} {s:AS} {l:BL} {kept:List (Nat × Blk)} (w:OS h s l kept) (hr:rest.mapM (viewV h) = some rest) (hl:l.length + y.length ≤ 1099511627776)
  {K:AV→H→Prop} {Kp:AS→H→Prop} (hk:∀ s' h',h'.next = h.next + 1→OS h' s' (l++y) kept→keptP h' kept→K (.one s') h'):onR ((W C f (.one s::rest) h).bind crO) K Kp:=call_adds ha w hr hl hk
theorem call_adds0P {C:Conf} {f:Nat} {rest:List AV} {y:BL} (ha:Adds C f rest y) {h:H} {o:Option BL} {kept:List (Nat × Blk)} (hk0:keptP h kept) (hl0:∀ e ∈ kept,e.1 < h.next) (hv:rest.all pureV = true) (hl:(ls o).length + y.length ≤ 1099511627776)
  {K:AV→H→Prop} {Kp:AS→H→Prop} (hk:∀ s' h',h'.next = h.next + 1→OS h' s' (ls o++y) kept→keptP h' kept→K (.one s') h'):onR ((W C f (.one (bs o)::rest) h).bind crO) K Kp:=call_adds0 ha hk0 hl0 (viewA_bs hv) hl hk
theorem bytes_out {st:Bool} {h1:H} {s:AS} {l:BL} (o:Byt h1 s l) (h0:H):∃ x,outV true st h1 h0 (.one s) = some (.ret (.one (.slc h0.next 0 0 l.length 1 none)) (h0.new (blkOf (l.map byteS) x))):=by
 obtain ⟨b,v,rfl,hb⟩:=byt_slc o
 obtain ⟨_,_,_,hl,_,B,h2,h3,h4,h5⟩:=o.1
 refine ⟨B.fixed, ?_⟩
 simp only [outV,h2,oqE,oqS]
 rw [if_pos ⟨h3.symm,trivial,trivial,by omega,by rw [h5];simp,by rw [h4];simp⟩]
 simp only [h5,mapM_pure (n:=63) (bytes_pureT l),oqS]
theorem adds_of {C:Conf} (hp:PrimOk C) {f:Nat} {rest:List AV} {y:BL} (hown:C.own f = true)
  (hh:∀ o:Option BL,(ls o).length + y.length ≤ 1099511627776→Apart C f (.one (bs o)::rest) fun v h1=>∃ s,v = .one s∧Byt h1 s (ls o++y)):Adds C f rest y:=by
 intro o ho h args0 hv
 have:=W_apartQ hp (Q:=fun r=>∃ x,r = .ret (.one (.slc h.next 0 0 (ls o++y).length 1 none)) (h.new (blkOf ((ls o++y).map byteS) x))) hv ((hh o ho).mono fun v h1 hx=>?_)
 ·obtain ⟨r,e,x,rfl⟩:=this;exact ⟨x,e⟩
 ·obtain ⟨s,rfl,b⟩:=hx
  rw [hown]
  obtain ⟨x,e⟩:=bytes_out (st:=!args0.all pureV) b h
  exact ⟨_,e,x,rfl⟩
theorem os_append {P:Program} {t el:Nat} (ht:P.underlying t = some (.slice el)) (h1:elemT P t = some el) (h2:sizeT P el = some 1) (h3:bytesT P el = some 1) {h:H} {s a:AS} {l x:BL} {kept:List (Nat × Blk)} (w:OS h s l kept)
  (hs:lenS a = some x.length) (he:elemsOf h 1 x.length a = some (x.map byteS)) (hl:l.length + x.length ≤ 1099511627776):∃ s' h',appendA P t t h s a = some (s',h')∧OS h' s' (l++x) kept∧h.next ≤ h'.next:=by
 rw [append_slice (x:=a) h1 h2 h3 ht hs he]
 by_cases hx:x = []
 ·subst hx
  obtain ⟨b,v,rfl,hb⟩:=byt_slc w.byt
  exact ⟨.slc b v 0 l.length 1 none,h,by simp [appendL],by simpa using w,Nat.le_refl _⟩
 ·obtain ⟨s',h',e1,e2,e3,e4,e5,e6⟩:=append_own (bytes:=1) (m:=x.length) (new:=x.map byteS) (n:=l.length) w.byt.1 (by omega) (by simp) (List.length_pos_iff.2 hx) (by simp) (by simp only [limit];omega)
  refine ⟨s',h',e1,⟨⟨by simpa using e2, ?_⟩,keptP_same (fun e he=>e4 _ (w.ok e he).1 (w.ok e he).2) w.kp,fun e he=>⟨by have:=(w.ok e he).1;omega,fun hb=>?_⟩⟩,e3⟩
  ·cases s' <;> simp [ownB] at e6 ⊢
   rfl
  ·rcases e5 _ hb with h | h
   ·exact (w.ok e he).2 h
   ·have:=(w.ok e he).1;omega
theorem elems_slc {h:H} {b n:Nat} {x:BL} {fx:Bool} (hb:h.f b = some ⟨0,[n],fx,x.map byteS⟩) (hn:n = x.length):elemsOf h 1 x.length (.slc b 0 0 n 1 none) = some (x.map byteS):=by
 subst hn
 simp [elemsOf,hb,sub]
 exact List.take_of_length_le (by simp)
theorem call_app {C:Conf} {P:Program} {t el:Nat} (ht:P.underlying t = some (.slice el)) (h1:elemT P t = some el) (h2:sizeT P el = some 1) (h3:bytesT P el = some 1) {h:H} {s a:AS} {l x:BL} {kept:List (Nat × Blk)} (w:OS h s l kept)
  (hs:lenS a = some x.length) (he:elemsOf h 1 x.length a = some (x.map byteS)) (hl:l.length + x.length ≤ 1099511627776)
  {K:AV→H→Prop} {Kp:AS→H→Prop} (hk:∀ s' h',h.next ≤ h'.next→OS h' s' (l++x) kept→keptP h' kept→K (.one s') h') :
  onR (((appendA P t t h s a).bind fun p=>some (OR.val (AV.one p.1) p.2)).bind (afterO (W C))) K Kp:=by
 obtain ⟨s',h',e,o,n⟩:=os_append ht h1 h2 h3 w hs he hl
 rw [e]
 simp only [oqS,afterO,onR_ok]
 exact hk s' h' n o o.kp
end Go.Ab
namespace NumPlain
open Ieee
abbrev D:=Ieee.double
def SW:Nat:=9223372036854775808
def BN:Nat:=4503599627370496
def neg (a:Nat):Bool:=a / SW % 2 == 1
def V (r:Nat):Nat:=if r < BN then r else (BN + r % BN) * 2 ^ (r / BN - 1)
def sh (r:Nat):Nat:=if r < BN then 0 else r / BN - 1
theorem sum_comm (x y:Datum):x.sum y = y.sum x:=by
 cases x <;> cases y <;> simp only [Datum.sum]
 ·rename_i s m i t n j
  simp only [Int.min_comm i j,Int.add_comm (signed s m _) _,Bool.and_comm s t]
 ·rename_i s t
  cases s <;> cases t <;> rfl
theorem add_comm (a b:Nat):D.add a b = D.add b a:=by
 unfold Format.add;rw [sum_comm]
end NumPlain
namespace Wm
open Go Go.Ab
structure Value where
 kind:Int
 b:Option BL
 n:Nat
structure Version where
 time:Int
 v:Value
structure Column where
 name:BL
 l:Option (List Version)
abbrev Row:=Option (List Column)
structure Change where
 kind:Int
 col:BL
 time:Int
 v:Value
structure Cond where
 has:Bool
 want:Bool
 col:BL
 v:Value
structure Op where
 kind:Int
 row:BL
 hi:BL
 cond:Cond
 l:Option (List Change)
 most:Int
structure Named where
 name:BL
 r:Row
structure Span where
 lo:BL
 hi:BL
 deriving DecidableEq
structure Tablet where
 span:Span
 group:Int
 gen:Int
 deriving DecidableEq
structure Command where
 kind:Int
 op:Op
 span:Span
 gen:Int
 at_:BL
 to:Int
 do_:Int
 state:Option BL
structure Answer where
 code:Int
 rows:Option (List Named)
 span:Span
 group:Int
 gen:Int
 old:Int
 to:Int
 do_:Int
 at_:BL
 state:Option BL
structure Vote where
 slot:Int
 ballot:Int
 v:Option BL
structure Message where
 kind:Int
 group:Int
 frm:Int
 to:Int
 ballot:Int
 slot:Int
 client:Int
 seq:Int
 b:Option BL
 l:Option (List Vote)
structure Event where
 kind:Int
 group:Int
 slot:Int
 client:Int
 seq:Int
 b:Option BL
 a:Option BL
structure Item where
 kind:Int
 group:Int
 n:Int
 client:Int
 bytes:Option BL
structure Config where
 groups:Int
 n:Int
 clients:Int
structure KV where
 text:Bool
 n:Int
 x:Nat
 b:Option BL
structure KC where
 kind:Int
 col:Int
 time:Int
 v:KV
structure KO where
 kind:Int
 row:Int
 hi:Int
 most:Int
 col:Int
 has:Bool
 want:Bool
 v:KV
 l:Option (List KC)
structure KP where
 do_:Int
 at_:Int
 to:Int
abbrev ii (n:Int):AS:=.int .i64 n
def encVersion (v:Version):List AS:=[ii v.time,ii v.v.kind,bs v.v.b,.flt v.v.n]
def encColumn (c:Column):List AS:=[.str c.name,sl 4 encVersion c.l]
def encChange (c:Change):List AS:=[ii c.kind,.str c.col,ii c.time,ii c.v.kind,bs c.v.b,.flt c.v.n]
def encNamed (n:Named):List AS:=[.str n.name,sl 2 encColumn n.r]
def encSpan (s:Span):List AS:=[.str s.lo,.str s.hi]
def encTablet (t:Tablet):List AS:=[.str t.span.lo,.str t.span.hi,ii t.group,ii t.gen]
def encVote (v:Vote):List AS:=[ii v.slot,ii v.ballot,bs v.v]
def encMessage (m:Message):List AS:=[ii m.kind,ii m.group,ii m.frm,ii m.to,ii m.ballot,ii m.slot,ii m.client,ii m.seq,bs m.b,sl 3 encVote m.l]
def encItem (i:Item):List AS:=[ii i.kind,ii i.group,ii i.n,ii i.client,bs i.bytes]
def encKC (c:KC):List AS:=[ii c.kind,ii c.col,ii c.time,.bool c.v.text,ii c.v.n,.flt c.v.x,bs c.v.b]
@[simp] theorem pure_version (v:Version):pureL false (encVersion v) = true:=by simp [encVersion,pureL,pureS]
@[simp] theorem pure_versions (o:Option (List Version)):pureS false (sl 4 encVersion o) = true:=pureS_sl pure_version o
@[simp] theorem pure_column (v:Column):pureL false (encColumn v) = true:=by simp [encColumn,pureL,pureS]
@[simp] theorem pure_columns (o:Option (List Column)):pureS false (sl 2 encColumn o) = true:=pureS_sl pure_column o
@[simp] theorem pure_change (v:Change):pureL false (encChange v) = true:=by simp [encChange,pureL,pureS]
@[simp] theorem pure_changes (o:Option (List Change)):pureS false (sl 6 encChange o) = true:=pureS_sl pure_change o
@[simp] theorem pure_named (v:Named):pureL false (encNamed v) = true:=by simp [encNamed,pureL,pureS]
@[simp] theorem pure_nameds (o:Option (List Named)):pureS false (sl 2 encNamed o) = true:=pureS_sl pure_named o
@[simp] theorem pure_span (v:Span):pureL false (encSpan v) = true:=by simp [encSpan,pureL,pureS]
@[simp] theorem pure_spans (o:Option (List Span)):pureS false (sl 2 encSpan o) = true:=pureS_sl pure_span o
@[simp] theorem pure_tablet (v:Tablet):pureL false (encTablet v) = true:=by simp [encTablet,pureL,pureS]
@[simp] theorem pure_tablets (o:Option (List Tablet)):pureS false (sl 4 encTablet o) = true:=pureS_sl pure_tablet o
@[simp] theorem pure_vote (v:Vote):pureL false (encVote v) = true:=by simp [encVote,pureL,pureS]
@[simp] theorem pure_votes (o:Option (List Vote)):pureS false (sl 3 encVote o) = true:=pureS_sl pure_vote o
@[simp] theorem pure_message (v:Message):pureL false (encMessage v) = true:=by simp [encMessage,pureL,pureS]
@[simp] theorem pure_messages (o:Option (List Message)):pureS false (sl 10 encMessage o) = true:=pureS_sl pure_message o
@[simp] theorem pure_item (v:Item):pureL false (encItem v) = true:=by simp [encItem,pureL,pureS]
@[simp] theorem pure_items (o:Option (List Item)):pureS false (sl 5 encItem o) = true:=pureS_sl pure_item o
@[simp] theorem pure_kc (v:KC):pureL false (encKC v) = true:=by simp [encKC,pureL,pureS]
@[simp] theorem pure_kcs (o:Option (List KC)):pureS false (sl 7 encKC o) = true:=pureS_sl pure_kc o
end Wm
namespace Wm
open Go Go.Ab
def blt (a b:BL):Bool:=Op.bytesLess a b
def asks (k:Int):Bool × Bool × Bool × Bool :=
 if k = 1 ∨ k = 5 then (true,true,true,true) else if k = 2 then (true,true,false,true) else if k = 3 then (true,false,false,true) else if k = 4 then (false,false,false,true) else (false,false,false,false)
theorem u8_lt_iff (a b:UInt8):a < b ↔ a.toNat < b.toNat:=Iff.rfl
theorem u8_eq_iff (a b:UInt8):a = b ↔ a.toNat = b.toNat:=⟨fun h=>by rw [h],fun h=>UInt8.toNat_inj.1 h⟩
theorem less_irrefl:∀ a:BL,Op.bytesLess a a = false
 | []=>rfl
 | a::x=>by simp [Op.bytesLess,less_irrefl x]
theorem less_asymm:∀ {a b:BL},Op.bytesLess a b = true→Op.bytesLess b a = false
 | [],[],h=>by cases h
 | [],_::_,_=>rfl
 | _::_,[],h=>by cases h
 | a::x,b::y,h=>by
  simp only [Op.bytesLess,Bool.or_eq_true,decide_eq_true_eq,Bool.and_eq_true,beq_iff_eq] at h
  simp only [Op.bytesLess,Bool.or_eq_false_iff,decide_eq_false_iff_not,Bool.and_eq_false_iff]
  rcases h with h | ⟨rfl,h⟩
  ·rw [u8_lt_iff] at *
   refine ⟨by omega,.inl ?_⟩
   simp;rintro rfl;omega
  ·exact ⟨by rw [u8_lt_iff];omega,.inr (less_asymm h)⟩
theorem less_total:∀ {a b:BL},Op.bytesLess a b = false→Op.bytesLess b a = false→a = b
 | [],[],_,_=>rfl
 | [],_::_,h,_=>by cases h
 | _::_,[],_,h=>by cases h
 | a::x,b::y,h,k=>by
  simp only [Op.bytesLess,Bool.or_eq_false_iff,decide_eq_false_iff_not,Bool.and_eq_false_iff,beq_eq_false_iff_ne] at h k
  have hab:a = b:=by
   rw [u8_eq_iff]
   have h1:=h.1;have k1:=k.1
   rw [u8_lt_iff] at h1 k1;omega
  subst hab
  have h2:Op.bytesLess x y = false:=by rcases h.2 with h | h;exact absurd rfl h;exact h
  have k2:Op.bytesLess y x = false:=by rcases k.2 with h | h;exact absurd rfl h;exact h
  rw [less_total h2 k2]
@[simp] theorem less_or_eq (a b:BL):(Op.bytesLess a b || a == b) = !Op.bytesLess b a:=by
 cases h:Op.bytesLess a b
 ·cases k:Op.bytesLess b a
  ·simp [less_total h k]
  ·simp;rintro rfl;rw [less_irrefl] at k;cases k
 ·simp [less_asymm h]
@[simp ↓] theorem dle_8 (n:Nat):decide ((n:Int) ≤ 8) = decide (n ≤ 8):=by rw [decide_eq_decide];omega
@[simp ↓] theorem dlt_8 (n:Nat):decide ((8:Int) < n) = decide (8 < n):=by rw [decide_eq_decide];omega
@[simp] theorem le_8 (n:Nat):((n:Int) ≤ 8) = (n ≤ 8):=by apply propext;omega
@[simp] theorem lt_8 (n:Nat):((8:Int) < n) = (8 < n):=by apply propext;omega
@[simp ↓] theorem dle_16 (n:Nat):decide ((n:Int) ≤ 16) = decide (n ≤ 16):=by rw [decide_eq_decide];omega
@[simp ↓] theorem dlt_16 (n:Nat):decide ((16:Int) < n) = decide (16 < n):=by rw [decide_eq_decide];omega
@[simp] theorem le_16 (n:Nat):((n:Int) ≤ 16) = (n ≤ 16):=by apply propext;omega
@[simp] theorem lt_16 (n:Nat):((16:Int) < n) = (16 < n):=by apply propext;omega
@[simp ↓] theorem dle_255 (n:Nat):decide ((n:Int) ≤ 255) = decide (n ≤ 255):=by rw [decide_eq_decide];omega
@[simp ↓] theorem dlt_255 (n:Nat):decide ((255:Int) < n) = decide (255 < n):=by rw [decide_eq_decide];omega
@[simp] theorem le_255 (n:Nat):((n:Int) ≤ 255) = (n ≤ 255):=by apply propext;omega
@[simp] theorem lt_255 (n:Nat):((255:Int) < n) = (255 < n):=by apply propext;omega
@[simp ↓] theorem dle_1048576 (n:Nat):decide ((n:Int) ≤ 1048576) = decide (n ≤ 1048576):=by rw [decide_eq_decide];omega
@[simp ↓] theorem dlt_1048576 (n:Nat):decide ((1048576:Int) < n) = decide (1048576 < n):=by rw [decide_eq_decide];omega
@[simp] theorem le_1048576 (n:Nat):((n:Int) ≤ 1048576) = (n ≤ 1048576):=by apply propext;omega
@[simp] theorem lt_1048576 (n:Nat):((1048576:Int) < n) = (1048576 < n):=by apply propext;omega
@[simp ↓] theorem dle_65535 (n:Nat):decide ((n:Int) ≤ 65535) = decide (n ≤ 65535):=by rw [decide_eq_decide];omega
@[simp ↓] theorem dlt_65535 (n:Nat):decide ((65535:Int) < n) = decide (65535 < n):=by rw [decide_eq_decide];omega
@[simp] theorem le_65535 (n:Nat):((n:Int) ≤ 65535) = (n ≤ 65535):=by apply propext;omega
@[simp] theorem lt_65535 (n:Nat):((65535:Int) < n) = (65535 < n):=by apply propext;omega
@[simp ↓] theorem dle_256 (n:Nat):decide ((n:Int) ≤ 256) = decide (n ≤ 256):=by rw [decide_eq_decide];omega
@[simp ↓] theorem dlt_256 (n:Nat):decide ((256:Int) < n) = decide (256 < n):=by rw [decide_eq_decide];omega
@[simp] theorem le_256 (n:Nat):((n:Int) ≤ 256) = (n ≤ 256):=by apply propext;omega
@[simp] theorem lt_256 (n:Nat):((256:Int) < n) = (256 < n):=by apply propext;omega
def be:Nat→Nat→BL
 | 0,_=>[]
 | k + 1,n=>UInt8.ofNat (n / 256 ^ k)::be k n
def u8 (n:Int):UInt8:=UInt8.ofNat (n % 256).toNat
def u32 (n:Int):Nat:=(n % 4294967296).toNat
def u64 (n:Int):Nat:=(n % 18446744073709551616).toNat
end Wm
namespace Wm
open Go Go.Ab
def withinI (n lo hi:Int):Int:=if lo ≤ n∧n ≤ hi then n else lo + (if n.tmod (hi - lo + 1) < 0 then n.tmod (hi - lo + 1) + hi - lo + 1 else n.tmod (hi - lo + 1))
theorem withinI_bounds {n lo hi:Int} (h:lo ≤ hi):lo ≤ withinI n lo hi∧withinI n lo hi ≤ hi:=by
 unfold withinI
 split
 ·assumption
 ·have hd:0 < hi - lo + 1:=by omega
  have h1:=Int.tmod_lt_of_pos n hd
  have h2:-(hi - lo + 1) < n.tmod (hi - lo + 1):=by
   rcases Int.le_total 0 n with h | h
   ·have:=Int.tmod_nonneg (hi - lo + 1) h;omega
   ·have h3:=Int.tmod_lt_of_pos (-n) hd
    rw [Int.neg_tmod] at h3;omega
  split <;> omega
@[simp] theorem less_nil (a:BL):Op.bytesLess a [] = false:=by cases a <;> rfl
@[simp] theorem nil_less (a:BL):Op.bytesLess [] a = !a.isEmpty:=by cases a <;> rfl
@[simp] theorem sl_none {α:Type} (s:Nat) (enc:α→List AS):sl s enc none = .nilslc:=rfl
end Wm
namespace Go.Ab
def Rets (P:AV→H→Prop):CR→Prop
 | .ret v h=>P v h
 | .pan _ _=>False
theorem Rets.ret {P:AV→H→Prop} {r:CR} (e:Rets P r):∃ v h,r = .ret v h∧P v h:=by
 cases r with
 | ret v h=>exact ⟨v,h,rfl,e⟩
 | pan v h=>exact e.elim
theorem Rets.intro {C:Conf} {f:Nat} {args:List AV} {h:H} {P:AV→H→Prop} (k:∀ P':AV→H→Prop,(∀ v h,P v h→P' v h)→∃ r,W C f args h = some r∧Rets P' r):∃ r,W C f args h = some r∧Rets P r:=k P fun _ _ h=>h
@[simp] theorem rets_ret (P:AV→H→Prop) (v:AV) (h:H):Rets P (.ret v h) = P v h:=rfl
section
variable (P:Program) (cmp:Nat→Option (List AS)) (fr:Fr) (h:H) (d:Option Nat) (ty:TypeId) (pos:String) (af:Array Edge) (g:Option (Nat × Bool))
def strIx (u:TypeDesc) (a:AS) (n:Nat) (h:H):Option OR:=match u,a with | .string,.str s=>(s[n]?).bind fun b=>some (one (byteS b) h) | _,_=>none
@[simp] theorem strIx_str (s:List UInt8) (n:Nat):strIx .string (.str s) n h = (s[n]?).bind fun b=>some (one (byteS b) h):=rfl
@[simp] theorem sop_index (t:TypeId) (x i:Operand):opA P cmp fr h ⟨d,.index t x i,ty,pos,af,g⟩ = (P.underlying t).bind fun u=>(evS fr x).bind fun a=>(evS fr i).bind fun j=>(natOf j).bind fun n=>strIx u a n h:=by
 simp only [opA,oqE]
 congr 1;funext u
 cases evS fr x with
 | none=>cases u <;> rfl
 | some a=>cases evS fr i with
  | none=>cases u <;> cases a <;> rfl
  | some j =>
   cases hj:natOf j with
   | none=>cases u <;> cases a <;> simp [hj]
   | some n=>cases u <;> cases a <;> simp [strIx,hj]
end
section
variable {α:Type}
def Arr (h:H) (enc:α→List AS) (b v:Nat) (l:List α) (z:List AS):Prop:=b < h.next∧∃ fx ex,h.f b = some ⟨v,(cat enc l++z).length::ex,fx,cat enc l++z⟩
theorem Arr.keep {h h':H} {enc:α→List AS} {b v:Nat} {l:List α} {z:List AS} (a:Arr h enc b v l z) (hn:h.next ≤ h'.next) (hf:h'.f b = h.f b):Arr h' enc b v l z:=⟨by have:=a.1;omega,by rw [hf];exact a.2⟩
theorem Arr.new {h:H} {enc:α→List AS} {b v:Nat} {l:List α} {z:List AS} (a:Arr h enc b v l z) (k:Blk):Arr (h.new k) enc b v l z:=a.keep (by simp) (by have:=a.1;rw [new_at,if_neg (by omega)])
theorem arr_index {P:Program} {t u size:Nat} (ht:P.underlying t = some (.slice u)) (hu:sizeT P u = some size) (h0:0 < size) {b v n i:Nat} (hi:i < n):indexA P t (.slc b v 0 n size none) i = some (.ptr b v (i * size)):=by
 simp only [indexA,ht,hu,oqE,oqS]
 rw [if_pos ⟨trivial,h0,hi⟩,Nat.zero_add]
theorem split_at {l:List α} {i:Nat} (hi:i < l.length):l = l.take i++l[i]::l.drop (i + 1):=by rw [List.getElem_cons_drop,List.take_append_drop]
theorem arr_read {size:Nat} {enc:α→List AS} (he:∀ x,(enc x).length = size) {h:H} {b v:Nat} {l:List α} {z:List AS} (a:Arr h enc b v l z) {i:Nat} (hi:i < l.length):readC h (.ptr b v (i * size)) size = some (enc l[i]):=by
 obtain ⟨_,fx,ex,hf⟩:=a
 have hl:=flat_length he l
 have hle:i * size + size ≤ l.length * size:=by rw [← Nat.succ_mul];exact Nat.mul_le_mul_right _ hi
 simp only [read_ptr,hf,oqS,Blk.ext,Nat.le_refl,if_true,Nat.sub_self,List.getElem?_cons_zero]
 rw [if_pos (by rw [List.length_append,hl];omega)]
 unfold sub
 rw [if_pos (by rw [List.length_append,hl];omega)]
 have h2:(cat enc (l.take i)).length = i * size:=by rw [flat_length he,List.length_take,Nat.min_eq_left (by omega)]
 have h3:cat enc l++z = cat enc (l.take i)++(enc l[i]++(cat enc (l.drop (i + 1))++z)):=by
  conv=>lhs;rw [split_at hi,cat_app,cat_cons]
  simp
 rw [h3,← h2,List.drop_left,← he l[i],List.take_left]
theorem arr_write {size:Nat} {enc:α→List AS} (he:∀ x,(enc x).length = size) {h:H} {b v:Nat} {l:List α} {z:List AS} (a:Arr h enc b v l z) {i:Nat} (hi:i < l.length) (x:α) :
  ∃ k,writeC h (.ptr b v (i * size)) (enc x) = some (h.set b k)∧Arr (h.set b k) enc b v (l.set i x) z:=by
 obtain ⟨hb,fx,ex,hf⟩:=a
 have hl:=flat_length he l
 have hle:i * size + size ≤ l.length * size:=by rw [← Nat.succ_mul];exact Nat.mul_le_mul_right _ hi
 have h2:(cat enc (l.take i)).length = i * size:=by rw [flat_length he,List.length_take,Nat.min_eq_left (by omega)]
 have h3:cat enc l++z = cat enc (l.take i)++(enc l[i]++(cat enc (l.drop (i + 1))++z)):=by
  conv=>lhs;rw [split_at hi,cat_app,cat_cons]
  simp
 have h4:lay (cat enc l++z) (i * size) (enc x) = cat enc (l.set i x)++z:=by
  have h5:l.set i x = l.take i++x::l.drop (i + 1):=by rw [List.set_eq_take_append_cons_drop,if_pos hi]
  unfold lay
  rw [h5,cat_app,cat_cons,h3,← h2,List.take_left,← List.drop_drop,List.drop_left,he x,← he l[i],List.drop_left]
  simp
 refine ⟨⟨v,[(cat enc l++z).length],fx,lay (cat enc l++z) (i * size) (enc x)⟩, ?_,by simpa using hb,fx,[], ?_⟩
 ·simp only [write_ptr,hf,oqS,Blk.ext,Nat.le_refl,if_true,Nat.sub_self,List.getElem?_cons_zero]
  rw [if_pos ⟨trivial,by rw [he,List.length_append,hl];omega,trivial⟩]
 ·simp only [set_at,if_true]
  rw [h4]
  have:(cat enc l++z).length = (cat enc (l.set i x)++z).length:=by simp [flat_length he]
  rw [this]
theorem arr_behind {size:Nat} {enc:α→List AS} (he:∀ x,(enc x).length = size) {h:H} {b v:Nat} {l m:List α} {z:List AS} (a:Arr h enc b v (l++m) z):readC h (.ptr b v (l.length * size)) (m.length * size) = some (cat enc m):=by
 obtain ⟨_,fx,ex,hf⟩:=a
 have hl:=flat_length he l
 have hm:=flat_length he m
 simp only [read_ptr,hf,oqS,Blk.ext,Nat.le_refl,if_true,Nat.sub_self,List.getElem?_cons_zero,cat_app]
 rw [if_pos (by simp [hl,hm] <;> omega)]
 unfold sub
 rw [if_pos (by simp [hl,hm] <;> omega),List.append_assoc,← hl,List.drop_left,← hm,List.take_left]
theorem Arr.cells {size:Nat} {enc:α→List AS} (he:∀ x,(enc x).length = size) {h:H} {b v:Nat} {l:List α} {z:List AS} (a:Arr h enc b v l z):∃ fx ex M,h.f b = some ⟨v,M.length::ex,fx,M⟩∧M = cat enc l++z∧l.length * size ≤ M.length ∧
  (∀ i (hi:i < l.length),i * size + size ≤ M.length∧sub M (i * size) size = some (enc l[i])) ∧
  (∀ h' i x,i < l.length→b < h'.next→h'.f b = some ⟨v,[M.length],fx,lay M (i * size) (enc x)⟩→Arr h' enc b v (l.set i x) z):=by
 have a0:=a
 obtain ⟨hb,fx,ex,hf⟩:=a
 have hl:=flat_length he l
 have hle:∀ i,i < l.length→i * size + size ≤ (cat enc l++z).length:=by
  intro i hi
  have:i * size + size ≤ l.length * size:=by rw [← Nat.succ_mul];exact Nat.mul_le_mul_right _ hi
  rw [List.length_append,hl];omega
 refine ⟨fx,ex,_,hf,rfl,by rw [List.length_append,hl];omega,fun i hi=>⟨hle i hi, ?_⟩,fun h' i x hi hb' hf'=>⟨hb',fx,[], ?_⟩⟩
 ·have:=arr_read he a0 hi
  simp only [read_ptr,hf,oqS,Blk.ext,Nat.le_refl,if_true,Nat.sub_self,List.getElem?_cons_zero] at this
  rwa [if_pos (hle i hi)] at this
 ·obtain ⟨k,hw,h1,fx',ex',ha⟩:=arr_write he a0 hi x
  simp only [write_ptr,hf,oqS,Blk.ext,Nat.le_refl,if_true,Nat.sub_self,List.getElem?_cons_zero] at hw
  rw [if_pos ⟨trivial,by rw [he];exact hle i hi,trivial⟩] at hw
  simp only [oqI] at hw
  have h2:(h.set b k).f b = some ⟨v,[(cat enc l++z).length],fx,lay (cat enc l++z) (i * size) (enc x)⟩:=by rw [← hw];simp
  rw [hf',← h2,ha]
  have h3:=h2
  rw [ha] at h3
  simp only [oqI,Blk.mk.injEq,List.cons.injEq,true_and] at h3
  rw [h3.1.2,h3.2.1]
def Sl (h:H) (size:Nat) (enc:α→List AS) (s:AS) (l:List α):Prop:=(s = .nilslc∧l = []) ∨ ∃ b v z,s = .slc b v 0 l.length size none∧Arr h enc b v l z
theorem Sl.keep {h h':H} {size:Nat} {enc:α→List AS} {s:AS} {l:List α} (a:Sl h size enc s l) (hn:h.next ≤ h'.next) (hf:∀ b,ownB s = some b→h'.f b = h.f b):Sl h' size enc s l:=by
 rcases a with ⟨rfl,rfl⟩ | ⟨b,v,z,rfl,a⟩
 ·exact .inl ⟨rfl,rfl⟩
 ·exact .inr ⟨b,v,z,rfl,a.keep hn (hf b rfl)⟩
theorem Sl.lt {h:H} {size:Nat} {enc:α→List AS} {s:AS} {l:List α} (a:Sl h size enc s l) {b:Nat} (hb:ownB s = some b):b < h.next:=by
 rcases a with ⟨rfl,rfl⟩ | ⟨b,v,z,rfl,a⟩
 ·cases hb
 ·cases hb;exact a.1
theorem Sl.sees {h:H} {size:Nat} {enc:α→List AS} (he:∀ x,(enc x).length = size) {s:AS} {l:List α} (a:Sl h size enc s l):Sees h size s (cat enc l):=by
 rcases a with ⟨rfl,rfl⟩ | ⟨b,v,z,rfl,a⟩
 ·rfl
 ·refine ⟨rfl, ?_⟩
  have:=arr_behind (l:=[]) he a
  simpa using this
theorem Sl.len {h:H} {size:Nat} {enc:α→List AS} {s:AS} {l:List α} (a:Sl h size enc s l):lenS s = some l.length:=by
 rcases a with ⟨rfl,rfl⟩ | ⟨b,v,z,rfl,a⟩ <;> rfl
end
end Go.Ab
namespace Go.Ab
end Go.Ab
namespace Go.Ab
structure SeatK where
 P:Program
 ext:List (Nat × Ext)
 cmp:List Nat
 rd:Option (Nat × RdFn)
 lay:Option (Nat × LayFn)
 frz:List Nat
 own:List Nat
def extL:List (Nat × Ext)→Nat→Option Ext
 | [],_=>none
 | a::l,f=>bif Nat.beq f a.1 then some a.2 else extL l f
def memL:List Nat→Nat→Bool
 | [],_=>false
 | a::l,t=>bif Nat.beq t a then true else memL l t
structure SeatKOk (S:SeatK):Prop where
 okT:OkT S.P
 mixed:S.P.follows .mixedOrders = true
 names:∀ (f:Nat) (fn:Func),S.P.funcs[f]? = some fn→fn.body.isSome = true→(fn.name == "runtime.NumGoroutine") = false
 ext:∀ q ∈ S.ext,ExtT S.P q.1 q.2
 cmp:∀ t ∈ S.cmp,(∃ fs,S.P.underlying t = some (.struct fs))∧S.P.eqGuardType S.P.depth t = false
 read:∀ q,S.rd = some q→ReadOk S.P q.1 q.2
 lay:∀ q,S.lay = some q→LayOk S.P q.1 q.2
section
variable {S:SeatK}
theorem extL_ok:∀ {l:List (Nat × Ext)} {f:Nat} {x:Ext},extL l f = some x→(f,x) ∈ l
 | [],f,x,h=>by cases h
 | a::l,f,x,h=>by
  rw [extL] at h
  cases hb:Nat.beq f a.1 with
  | true =>
   rw [hb] at h
   simp only [cond_true,oqI] at h
   have:=oqN hb
   subst h;subst this;simp
  | false=>rw [hb] at h;exact List.mem_cons_of_mem _ (extL_ok h)
theorem memL_ok:∀ {l:List Nat} {t:Nat},memL l t = true→t ∈ l
 | [],t,h=>by cases h
 | a::l,t,h=>by
  rw [memL] at h
  cases hb:Nat.beq t a with
  | true=>have:=oqN hb;subst this;simp
  | false=>rw [hb] at h;exact List.mem_cons_of_mem _ (memL_ok h)
end
theorem i64_inv {a:AV} (h:FitA (false,[.int .i64]) a):∃ n:Int,-9223372036854775808 ≤ n∧n < 9223372036854775808∧a = .one (.int .i64 n):=by
 obtain ⟨x,c,h1,rfl,h2⟩:∃ x c,[CS.int .i64] = [c]∧a = .one x∧Fit c x:=by simpa [FitA] using h
 cases h1
 cases h2 with
 | int k n h3 h4 =>
  have h3':(-9223372036854775808:Int) ≤ n:=h3
  have h4':n ≤ 9223372036854775807:=h4
  exact ⟨n,h3',by omega,rfl⟩
theorem fit_cons {p:Bool × List CS} {ps:List (Bool × List CS)} {xs:List AV} (h:FitAL (p::ps) xs):∃ a xs',xs = a::xs'∧FitA p a∧FitAL ps xs':=by
 cases h with | cons _ a _ xs' h1 h2=>exact ⟨a,xs',rfl,h1,h2⟩
theorem fit_nil {xs:List AV} (h:FitAL [] xs):xs = []:=by cases h;rfl
end Go.Ab
