/- Data that are lists; what is written, grown; the program's own things in plain Lean. No conditions. -/
import Ieee.Arith
import Derived.Test.YtofafocfemikcaaGreatAb3
import Derived.Test.YtofafocfemikcaaGreatAb4
set_option linter.unusedSimpArgs false
set_option linter.unnecessarySimpa false
set_option linter.unusedVariables false
namespace NumPlain
open Ieee
abbrev D:=Ieee.double
def SW:Nat:=9223372036854775808
def BN:Nat:=4503599627370496
def INF:Nat:=9218868437227405312
def rung (a:Nat):Nat:=a % SW
def neg (a:Nat):Bool:=a / SW % 2 == 1
def isN (a:Nat):Bool:=decide (INF < rung a)
def V (r:Nat):Nat:=if r < BN then r else (BN + r % BN) * 2 ^ (r / BN - 1)
def sh (r:Nat):Nat:=if r < BN then 0 else r / BN - 1
theorem sum_comm (x y:Datum):x.sum y = y.sum x:=by
 cases x <;> cases y <;> simp only [Datum.sum]
 ·rename_i s m i t n j
  simp only [Int.min_comm i j,Int.add_comm (signed s m _) _,Bool.and_comm s t]
 ·rename_i s t
  cases s <;> cases t <;> rfl
theorem add_comm (a b:Nat):D.add a b = D.add b a:=by
 unfold Format.add;rw [sum_comm]
end NumPlain
namespace Go.Ab
@[simp] theorem empty_next:H.empty.next = 0:=rfl
@[simp] theorem empty_f (b:Nat):H.empty.f b = none:=rfl
@[simp] theorem new_next (h:H) (k:Blk):(h.new k).next = h.next + 1:=rfl
@[simp] theorem set_next (h:H) (b:Nat) (k:Blk):(h.set b k).next = h.next:=rfl
@[simp] theorem new_at (h:H) (k:Blk) (b:Nat):(h.new k).f b = if b = h.next then some k else h.f b:=rfl
@[simp] theorem set_at (h:H) (b c:Nat) (k:Blk):(h.set b k).f c = if c = b then some k else h.f c:=rfl
@[simp] theorem set_set (h:H) (b:Nat) (k k':Blk):(h.set b k).set b k' = h.set b k':=by
 simp only [H.set];congr 1;funext x;split <;> rfl
@[simp] theorem new_set (h:H) (k k':Blk):(h.new k).set h.next k' = h.new k':=by
 simp only [H.set,H.new];congr 1;funext x;split <;> rfl
@[simp] theorem read_ptr (h:H) (b v o n:Nat):readC h (.ptr b v o) n = (h.f b).bind fun k=>(k.ext v).bind fun e=>if o + n ≤ e then sub k.cells o n else none:=rfl
@[simp] theorem read_rp (h:H) (cells:List AS) (o n:Nat):readC h (.rp cells o) n = sub cells o n:=rfl
@[simp] theorem write_ptr (h:H) (b v o:Nat) (l:List AS):writeC h (.ptr b v o) l = (h.f b).bind fun k=>(k.ext v).bind fun e=>if v = k.ver∧o + l.length ≤ e∧e = k.cells.length then some (h.set b ⟨k.ver,[e],k.fixed,lay k.cells o l⟩) else none:=rfl
attribute [simp] Blk.ext blkOf
theorem wrap_i64 {x:Int} (h1:-9223372036854775808 ≤ x) (h2:x < 9223372036854775808):IntKind.i64.wrap x = x:=by
 simp only [IntKind.wrap,IntKind.signed,IntKind.bits]
 simp
 omega
theorem wrap_u32 {x:Int} (h1:0 ≤ x) (h2:x < 4294967296):IntKind.u32.wrap x = x:=by
 show x % 2 ^ 32 = x
 exact Int.emod_eq_of_lt h1 (by omega)
theorem wrap_u8m (x:Int):IntKind.u8.wrap x = x % 256:=rfl
theorem wrap_u32m (x:Int):IntKind.u32.wrap x = x % 4294967296:=rfl
theorem wrap_u64m (x:Int):IntKind.u64.wrap x = x % 18446744073709551616:=rfl
section
variable {α:Type}
def ls (o:Option (List α)):List α:=o.getD []
@[simp] theorem ls_some (l:List α):ls (some l) = l:=rfl
@[simp] theorem ls_none:ls (none:Option (List α)) = []:=rfl
def cat (enc:α→List AS) (l:List α):List AS:=l.flatMap enc
def sl (s:Nat) (enc:α→List AS):Option (List α)→AS
 | none=>.nilslc
 | some l=>.vs l.length s (cat enc l)
@[simp] theorem lenS_sl (s:Nat) (enc:α→List AS) (o:Option (List α)):lenS (sl s enc o) = some (ls o).length:=by cases o <;> rfl
theorem flat_length {s:Nat} {enc:α→List AS} (he:∀ x,(enc x).length = s) (l:List α):(cat enc l).length = l.length * s:=by
 unfold cat
 induction l with
 | nil=>simp
 | cons a l ih=>simp [he,ih,Nat.succ_mul];omega
theorem sees_sl {s:Nat} {enc:α→List AS} (he:∀ x,(enc x).length = s) (h:H) (o:Option (List α)):Sees h s (sl s enc o) (cat enc (ls o)):=by
 cases o with
 | none=>rfl
 | some l=>exact ⟨rfl,rfl,flat_length he l⟩
theorem pureL_flat {st:Bool} {enc:α→List AS} (l:List α) (hp:∀ x ∈ l,pureL st (enc x) = true):pureL st (cat enc l) = true:=by
 unfold cat
 induction l with
 | nil=>rfl
 | cons a l ih =>
  rw [List.flatMap_cons,pureL_append,hp a (by simp),ih fun x hx=>hp x (by simp [hx])];rfl
theorem pureS_sl {s:Nat} {enc:α→List AS} (hp:∀ x,pureL false (enc x) = true) (o:Option (List α)):pureS false (sl s enc o) = true:=by
 cases o with
 | none=>rfl
 | some l=>simp only [sl,pureS,Bool.not_false,Bool.true_or,Bool.true_and];exact pureL_flat l fun x _=>hp x
@[simp] theorem lenA_sl (s:Nat) (enc:α→List AS) (o:Option (List α)) (u:TypeId) (h:H):lenA (sl s enc o) (some (.slice u)) h = some (one (.int .i64 (ls o).length) h):=by cases o <;> rfl
theorem index_sl {P:Program} {t u s:Nat} (ht:P.underlying t = some (.slice u)) (hu:sizeT P u = some s) (h0:0 < s) {enc:α→List AS} {l:List α} {i:Nat} (hi:i < l.length):indexA P t (sl s enc (some l)) i = some (.rp (cat enc l) (i * s)):=by
 unfold indexA
 simp only [ht,hu,oqE,oqS,sl,h0,hi,and_self,if_true]
theorem sub_flat {s:Nat} {enc:α→List AS} (he:∀ x,(enc x).length = s) (a:List α) (x:α) (b:List α) {o n:Nat} (ho:o + n ≤ s):sub (cat enc (a++x::b)) (a.length * s + o) n = sub (enc x) o n:=by
 unfold sub
 have h1:(cat enc (a++x::b)) = a.flatMap enc++(enc x++b.flatMap enc):=by simp [cat]
 have h2:(a.flatMap enc).length = a.length * s:=flat_length he a
 rw [if_pos (by rw [h1,List.length_append,List.length_append,h2,he];omega),if_pos (by rw [he];exact ho),h1,← h2]
 rw [List.drop_append]
 rw [show List.drop ((a.flatMap enc).length + o) (a.flatMap enc) = [] from List.drop_eq_nil_of_le (by omega)]
 rw [show (a.flatMap enc).length + o - (a.flatMap enc).length = o by omega,List.nil_append,List.drop_append_of_le_length (by rw [he];omega),List.take_append_of_le_length (by rw [List.length_drop,he];omega)]
theorem elems_sl {s:Nat} {enc:α→List AS} (he:∀ x,(enc x).length = s) (h0:0 < s) (h:H) (o:Option (List α)):elemsOf h s (ls o).length (sl s enc o) = some (cat enc (ls o)) :=
 sees_elems (sees_sl he h o) h0 (flat_length he _)
end
abbrev BL:=List UInt8
def bs:Option BL→AS:=sl 1 fun b=>[byteS b]
theorem bs_none:bs none = .nilslc:=rfl
theorem bs_some (l:BL):bs (some l) = .vs l.length 1 (l.map byteS):=by
 simp only [bs,sl,cat]
 congr 1
 induction l with
 | nil=>rfl
 | cons a l ih=>simp only [List.flatMap_cons,List.map_cons,ih];rfl
@[simp] theorem lenS_bs (o:Option BL):lenS (bs o) = some (ls o).length:=lenS_sl _ _ _
@[simp] theorem lenA_bs (o:Option BL) (u:TypeId) (h:H):lenA (bs o) (some (.slice u)) h = some (one (.int .i64 (ls o).length) h):=lenA_sl _ _ _ _ _
@[simp] theorem pureS_bs (o:Option BL):pureS false (bs o) = true:=pureS_sl (fun _=>rfl) o
theorem bytesOf_map (l:BL):bytesOf (l.map byteS) = some l:=by
 induction l with
 | nil=>rfl
 | cons a l ih =>
  have ha:a.toNat < 256:=a.toNat_lt
  simp only [List.map_cons,byteS,bytesOf]
  rw [if_pos (by omega)]
  rw [ih]
  simp
theorem elems_bs (h:H) (o:Option BL):elemsOf h 1 (ls o).length (bs o) = some ((ls o).map byteS):=by
 have:=elems_sl (s:=1) (enc:=fun b:UInt8=>[byteS b]) (fun _=>rfl) (by omega) h o
 rw [bs,this]
 congr 1
 unfold cat
 generalize ls o = l
 induction l with
 | nil=>rfl
 | cons a l ih=>simp only [List.flatMap_cons,List.map_cons,ih];rfl
@[simp] theorem onW_not (b:Bool) (A B:Prop):onW (some (!b)) A B = onW (some b) B A:=by cases b <;> simp
@[simp] theorem fork_not (b:Bool) (A B:Prop):Fork (!b) A B = Fork b B A:=by cases b <;> simp
@[simp] theorem wanted_b (b:Bool):(b == true) = b:=by cases b <;> rfl
@[simp] theorem wanted_nb (b:Bool):(b == false) = !b:=by cases b <;> rfl
def Wr (h:H) (p:Nat) (q:Option Nat) (l:BL):Prop:=p < h.next∧∃ s,ownB s = q∧q ≠ some p∧h.f p = some ⟨0,[1],true,[s]⟩∧Owns h 1 s (l.map byteS)
structure Only (h h':H) (p:Nat) (q q':Option Nat):Prop where
 next:h.next ≤ h'.next
 keep:∀ b,b < h.next→b ≠ p→q ≠ some b→h'.f b = h.f b
 own:q' = q ∨ ∃ b,q' = some b∧h.next ≤ b
theorem Only.refl (h:H) (p:Nat) (q:Option Nat):Only h h p q q:=⟨Nat.le_refl _,fun _ _ _ _=>rfl,.inl rfl⟩
theorem Only.trans {h h1 h2:H} {p:Nat} {q q1 q2:Option Nat} (a:Only h h1 p q q1) (b:Only h1 h2 p q1 q2):Only h h2 p q q2 where
 next:=Nat.le_trans a.next b.next
 keep x hx hp hq:=by
  rw [b.keep x (Nat.lt_of_lt_of_le hx a.next) hp ?_,a.keep x hx hp hq]
  rcases a.own with e | ⟨y,e,hy⟩
  ·rw [e];exact hq
  ·rw [e];intro h;cases h;omega
 own:=by
  rcases b.own with e | ⟨y,e,hy⟩
  ·rw [e]
   rcases a.own with e | ⟨y,e,hy⟩
   ·exact .inl e
   ·exact .inr ⟨y,e,hy⟩
  ·exact .inr ⟨y,e,Nat.le_trans a.next hy⟩
theorem Wr.own_lt {h:H} {p b:Nat} {q:Option Nat} {l:BL} (w:Wr h p q l) (hb:q = some b):b < h.next:=by
 obtain ⟨_,s,hq,_,_,ho⟩:=w
 rw [hb] at hq
 cases s <;> simp only [ownB,Owns,reduceCtorEq] at hq ho
 cases hq
 exact ho.2.2.2.2.1
theorem Wr.new {h:H} {p:Nat} {q:Option Nat} {l:BL} (w:Wr h p q l) (k:Blk):Wr (h.new k) p q l:=by
 obtain ⟨hp,s,hq,hqp,hf,ho⟩:=w
 refine ⟨by simp only [new_next];omega,s,hq,hqp, ?_,ho.new k⟩
 rw [new_at,if_neg (by omega)];exact hf
def keptP (h:H):List (Nat × Blk)→Prop
 | []=>True
 | e::l=>h.f e.1 = some e.2∧keptP h l
def WS (h0:H) (q0:Option Nat) (h:H) (p:Nat) (l:BL) (kept:List (Nat × Blk)):Prop:=∃ q,Wr h p q l∧Only h0 h p q0 q∧keptP h kept∧∀ e ∈ kept,e.1 < h.next∧e.1 ≠ p∧q ≠ some e.1
theorem WS.start {h:H} {p:Nat} {q:Option Nat} {l:BL} (w:Wr h p q l):WS h q h p l []:=⟨q,w,Only.refl _ _ _,trivial,by simp⟩
theorem WS.drop {h0 h:H} {q0:Option Nat} {p:Nat} {l:BL} {kept:List (Nat × Blk)} (w:WS h0 q0 h p l kept):WS h0 q0 h p l []:=by
 obtain ⟨q,w,g,_⟩:=w;exact ⟨q,w,g,trivial,by simp⟩
theorem keptP_same {h h':H}:∀ {l:List (Nat × Blk)},(∀ e ∈ l,h'.f e.1 = h.f e.1)→keptP h l→keptP h' l
 | [],_,_=>trivial
 | e::l,hs,hk=>⟨by rw [hs e (by simp)];exact hk.1,keptP_same (fun x hx=>hs x (by simp [hx])) hk.2⟩
theorem WS.new {h0 h:H} {q0:Option Nat} {p:Nat} {l:BL} {kept:List (Nat × Blk)} (w:WS h0 q0 h p l kept) (k:Blk):WS h0 q0 (h.new k) p l ((h.next,k)::kept):=by
 obtain ⟨q,w,g,hk,hd⟩:=w
 have hp:=w.1
 refine ⟨q,w.new k,⟨Nat.le_trans g.next (by simp),fun b hb h1 h2=>?_,g.own⟩,⟨by simp,keptP_same (fun e he=>?_) hk⟩, ?_⟩
 ·rw [new_at,if_neg (by have:=g.next;omega)];exact g.keep b hb h1 h2
 ·rw [new_at,if_neg (by have:=(hd e he).1;omega)]
 ·intro e he
  rcases List.mem_cons.1 he with rfl | he
  ·refine ⟨by simp,by simp only;omega,fun hq=>?_⟩
   have:=w.own_lt hq;simp only at this;omega
  ·have:=hd e he
   exact ⟨by simp only [new_next];omega,this.2⟩
theorem ls_cons {α:Type} {o:Option (List α)} {a:List α} {x:α} {r:List α} (h:ls o = a++x::r):o = some (a++x::r):=by
 cases o with
 | none=>simp at h
 | some l=>simp only [ls_some] at h;rw [h]
theorem step_len {α:Type} {a:List α} {x:α}:((a++[x]).length:Int) = (a.length:Int) + 1:=by simp
theorem step_wrap {n:Nat} (h:n < 9223372036854775807):IntKind.i64.wrap ((n:Int) + 1) = (n:Int) + 1:=wrap_i64 (by omega) (by omega)
theorem ex_get {L:Fr} {F:(Nat→AV)→Fr} {P:Prop} (h:L = F (Fr.get L)) (hp:P):∃ j,L = F j∧P:=⟨_,h,hp⟩
theorem ex_get' {L:Fr} {F:(Nat→AV)→Fr} (h:L = F (Fr.get L)):∃ j,L = F j:=⟨_,h⟩
theorem does_each {C:Conf} (hp:PrimOk C) {α:Type} {b:Code} {Q:Ex→Fr→H→Prop} (l:List α) (I:List α→List α→Fr→H→Prop)
  (step:∀ a x r fr h,l = a++x::r→I a (x::r) fr h→Does C b fr h fun e fr' h'=>match e with | .normal=>I (a++[x]) r fr' h' | e=>Q e fr' h')
  (stop:∀ fr h,I l [] fr h→Does C b fr h fun e fr' h'=>match e with | .normal=>False | e=>Q e fr' h') :
  ∀ fr h,I [] l fr h→Does C (.loop b) fr h Q:=by
 intro fr h hi
 refine does_loop hp (fun n fr h=>∃ a r,l = a++r∧n = r.length∧I a r fr h) ?_ l.length fr h ⟨[],l,rfl,rfl,hi⟩
 rintro n fr h ⟨a,r,hl,hn,hi⟩
 cases r with
 | nil =>
  rw [List.append_nil] at hl
  subst hl
  refine (stop fr h hi).mono fun e fr' h' hx=>?_
  cases e with
  | normal=>exact hx.elim
  | _=>exact hx
 | cons x r =>
  refine (step a x r fr h hl hi).mono fun e fr' h' hx=>?_
  cases e with
  | normal=>exact ⟨r.length,by rw [hn];simp,a++[x],r,by rw [hl];simp,rfl,hx⟩
  | _=>exact hx
theorem does_count {C:Conf} (hp:PrimOk C) {b:Code} {Q:Ex→Fr→H→Prop} (n:Nat) (I:Nat→Fr→H→Prop)
  (step:∀ i fr h,i < n→I i fr h→Does C b fr h fun e fr' h'=>match e with | .normal=>I (i + 1) fr' h' | e=>Q e fr' h')
  (stop:∀ fr h,I n fr h→Does C b fr h fun e fr' h'=>match e with | .normal=>False | e=>Q e fr' h') :
  ∀ fr h,I 0 fr h→Does C (.loop b) fr h Q:=by
 intro fr h hi
 refine does_loop hp (fun k fr h=>∃ i,i ≤ n∧k = n - i∧I i fr h) ?_ n fr h ⟨0,by omega,rfl,hi⟩
 rintro k fr h ⟨i,hin,hk,hi⟩
 by_cases hlt:i < n
 ·refine (step i fr h hlt hi).mono fun e fr' h' hx=>?_
  cases e with
  | normal=>exact ⟨n - (i + 1),by omega,i + 1,by omega,rfl,hx⟩
  | _=>exact hx
 ·have:i = n:=by omega
  subst this
  refine (stop fr h hi).mono fun e fr' h' hx=>?_
  cases e with
  | normal=>exact hx.elim
  | _=>exact hx
end Go.Ab
namespace Go.Ab
section
variable {α:Type}
def opt:List α→Option (List α)
 | []=>none
 | a::l=>some (a::l)
@[simp] theorem ls_opt (l:List α):ls (opt l) = l:=by cases l <;> rfl
@[simp] theorem opt_nil:opt ([]:List α) = none:=rfl
theorem opt_ne {l:List α} (h:l ≠ []):opt l = some l:=by cases l with | nil=>exact absurd rfl h | cons a l=>rfl
@[simp] theorem cat_nil (enc:α→List AS):cat enc [] = []:=rfl
theorem cat_snoc (enc:α→List AS) (l:List α) (x:α):cat enc (l++[x]) = cat enc l++enc x:=by simp [cat]
theorem cat_cons (enc:α→List AS) (l:List α) (x:α):cat enc (x::l) = enc x++cat enc l:=rfl
theorem cat_app (enc:α→List AS) (l m:List α):cat enc (l++m) = cat enc l++cat enc m:=by simp [cat]
def Grown (h:H) (size:Nat) (enc:α→List AS) (s:AS) (l:List α):Prop:=Owns h size s (cat enc l)∧(l = []→s = .nilslc)
theorem grown_nil (h:H) (size:Nat) (enc:α→List AS):Grown h size enc .nilslc []:=⟨rfl,fun _=>rfl⟩
theorem Grown.keep {h h':H} {size:Nat} {enc:α→List AS} {s:AS} {l:List α} (g:Grown h size enc s l) (hn:h.next ≤ h'.next) (hf:∀ b,ownB s = some b→h'.f b = h.f b):Grown h' size enc s l:=⟨g.1.keep hn hf,g.2⟩
theorem Grown.new {h:H} {size:Nat} {enc:α→List AS} {s:AS} {l:List α} (g:Grown h size enc s l) (k:Blk):Grown (h.new k) size enc s l:=⟨g.1.new k,g.2⟩
theorem owns_lt {h:H} {size:Nat} {s:AS} {cells:List AS} (o:Owns h size s cells) {b:Nat} (hb:ownB s = some b):b < h.next:=by
 cases s <;> simp only [Owns,ownB,reduceCtorEq] at o hb
 cases hb;exact o.2.2.2.2.1
theorem grow_one {P:Program} {t el size bytes:Nat} (ht:P.underlying t = some (.slice el)) (h1:elemT P t = some el) (h2:sizeT P el = some size) (h3:bytesT P el = some bytes) (h0:0 < size) {enc:α→List AS} (he:∀ x,(enc x).length = size)
  {h:H} {s:AS} {l:List α} (g:Grown h size enc s l) (x:α) (hlim:(l.length + 1 + 600) * bytes + (l.length + 1) ≤ limit) {cells:List AS} (hc:cells = enc x) :
  ∃ s' h2,appendA P t t (h.new ⟨0,[size],true,cells⟩) s (.slc h.next 0 0 1 size none) = some (s',h2)∧Grown h2 size enc s' (l++[x])∧h.next ≤ h2.next∧(∀ b,b < h.next→ownB s ≠ some b→h2.f b = h.f b)∧(∀ b,ownB s' = some b→ownB s = some b ∨ h.next ≤ b):=by
 subst hc
 have go:=g.1.new ⟨0,[size],true,enc x⟩
 have hel:elemsOf (h.new ⟨0,[size],true,enc x⟩) size 1 (.slc h.next 0 0 1 size none) = some (enc x):=by
  simp [elemsOf]
  unfold sub
  rw [if_pos (by rw [he];omega),List.drop_zero,← he x,List.take_length]
 obtain ⟨s',h2',e1,e2,e3,e4,e5,e6⟩:=append_own (bytes:=bytes) (m:=1) (new:=enc x) (n:=l.length) go h0 (flat_length he l) (by omega) (by rw [he];omega) hlim
 refine ⟨s',h2', ?_,⟨by rw [cat_snoc];exact e2,fun hl=>by simp at hl⟩,by simp at e3;omega,fun b hb hs=>?_,fun b hb=>?_⟩
 ·rw [append_slice (x:=.slc h.next 0 0 1 size none) h1 h2 h3 ht rfl hel];exact e1
 ·rw [e4 b (by simp;omega) hs,new_at,if_neg (by omega)]
 ·rcases e5 b hb with e | e
  ·exact .inl e
  ·simp at e;exact .inr (by omega)
theorem owns_frz {st:Bool} {h:H} {size:Nat} {s:AS} {cells:List AS} {n:Nat} (o:Owns h size s cells) (hp:pureL st cells = true):frzS st h (n + 2) s = some (match s with | .slc _ _ _ k _ _=>.vs k size cells | x=>x):=by
 cases s <;> simp only [Owns] at o
 ·simp only [frzS,pureS,if_true]
 ·rename_i b v oo k s' c
  obtain ⟨rfl,rfl,rfl,hl,hb,B,h1,h2,h3,h4⟩:=o
  have hr:readC h (.ptr b v 0) (k * s') = some cells:=by
   simp only [readC,h1,h3,oqE,oqS,Nat.zero_add]
   rw [if_pos (by omega)]
   unfold sub
   rw [h4,if_pos (by omega),List.drop_zero,← hl,List.take_length]
  simp only [frzS,hr,oqE,oqS,mapM_pure hp]
theorem grown_frz {st:Bool} {h:H} {size:Nat} {enc:α→List AS} {s:AS} {l:List α} (he:∀ x,(enc x).length = size) (h0:0 < size) (g:Grown h size enc s l) (hp:pureL st (cat enc l) = true):frzS st h 64 s = some (sl size enc (opt l)):=by
 rw [owns_frz (n:=62) g.1 hp]
 have hl:=flat_length he l
 have o:=g.1
 cases s <;> simp only [Owns] at o
 ·have:l = []:=by
   rw [o] at hl
   simp only [List.length_nil] at hl
   rcases Nat.mul_eq_zero.1 hl.symm with e | e
   ·exact List.eq_nil_of_length_eq_zero e
   ·omega
  subst this;rfl
 ·rename_i b v oo k s' c
  have hne:l ≠ []:=fun e=>by have:=g.2 e;cases this
  have hk:k = l.length:=by
   obtain ⟨_,rfl,_,hl2,_⟩:=o
   rw [hl] at hl2
   exact (Nat.eq_of_mul_eq_mul_right h0 hl2).symm
  simp only [opt_ne hne,sl,hk]
theorem cat_pure {st:Bool} {enc:α→List AS} (l:List α) (hp:∀ x,pureL st (enc x) = true):pureL st (cat enc l) = true:=pureL_flat l fun x _=>hp x
end
end Go.Ab
namespace Go.Ab
theorem W_apartQ {C:Conf} (hp:PrimOk C) {f:Nat} {args args':List AV} {h:H} {Q:CR→Prop} (hv:viewA h args = some args') (ha:Apart C f args' fun v h1=>∃ r,outV (C.own f) (!args.all pureV) h1 h v = some r∧Q r):∃ r,W C f args h = some r∧Q r:=by
 obtain ⟨fn,c,h1,h2,h3,h4,h5,h6,x,fr,hh,e,hx⟩:=ha
 cases x with
 | normal=>obtain ⟨v,hv',r,hr,hq⟩:=hx;exact ⟨r,W_apart hp hv ⟨fn,c,h1,h2,h3,h4,h5,h6,.normal,fr,hh,e,v,hv',hr⟩,hq⟩
 | ret=>obtain ⟨v,hv',r,hr,hq⟩:=hx;exact ⟨r,W_apart hp hv ⟨fn,c,h1,h2,h3,h4,h5,h6,.ret,fr,hh,e,v,hv',hr⟩,hq⟩
 | exit i=>exact hx.elim
 | pan v=>exact hx.elim
def Byt (h:H) (s:AS) (l:BL):Prop:=Owns h 1 s (l.map byteS)∧pureS false s = false
theorem owns_slc {h:H} {size:Nat} {s:AS} {cells:List AS} (o:Owns h size s cells) (hs:pureS false s = false):∃ b v n,s = .slc b v 0 n size none:=by
 cases s <;> simp only [Owns] at o
 ·cases hs
 ·obtain ⟨rfl,rfl,rfl,_⟩:=o;exact ⟨_,_,_,rfl⟩
theorem byt_slc {h:H} {s:AS} {l:BL} (o:Byt h s l):∃ b v,s = .slc b v 0 l.length 1 none∧b < h.next:=by
 obtain ⟨b,v,n,rfl⟩:=owns_slc o.1 o.2
 obtain ⟨_,_,_,hl,hb,_⟩:=o.1
 have:n = l.length:=by simpa using hl.symm
 subst this
 exact ⟨b,v,rfl,hb⟩
theorem bytes_pureT {st:Bool} (l:BL):pureL st (l.map byteS) = true:=by
 induction l with
 | nil=>rfl
 | cons a l ih=>simp [pureL,pureS,byteS,ih]
theorem view_pureL {h:H} {n:Nat}:∀ {l:List AS},pureL false l = true→(∀ a ∈ l,(∀ f x c,a ≠ .fn f x c)∧∀ t v,a ≠ .ifc t v)→l.mapM (viewS h (n + 1)) = some l
 | [],_,_=>rfl
 | a::l,hp,hn=>by
  simp only [pureL,Bool.and_eq_true] at hp
  have h1:=hn a (by simp)
  simp only [List.mapM_cons,viewS_pure hp.1 h1.1 h1.2,view_pureL hp.2 (fun b hb=>hn b (by simp [hb])),oqE,oqS,oqP]
theorem view_byt {h:H} {s:AS} {l:BL} (o:Byt h s l):viewS h 64 s = some (bs (some l)):=by
 obtain ⟨b,v,rfl,hb⟩:=byt_slc o
 obtain ⟨_,_,_,hl,_,B,h1,h2,h3,h4⟩:=o.1
 have hr:readC h (.ptr b v 0) (l.length * 1) = some (l.map byteS):=by
  simp only [readC,h1,h3,oqE,oqS,Nat.zero_add,Nat.mul_one]
  rw [if_pos (by simp)]
  unfold sub
  rw [h4,if_pos (by simp),List.drop_zero,List.take_of_length_le (by simp)]
 have hq:(l.map byteS).mapM (viewS h 63) = some (l.map byteS):=view_pureL (n:=62) (bytes_pureT l) (by
  intro a ha
  obtain ⟨b,_,rfl⟩:=List.mem_map.1 ha
  exact ⟨fun _ _ _ h=>(by cases h),fun _ _ h=>(by cases h)⟩)
 rw [bs_some]
 simp only [viewS,hr,oqE,oqS,hq]
def Adds (C:Conf) (f:Nat) (rest:List AV) (y:BL):Prop :=
 ∀ o:Option BL,(ls o).length + y.length ≤ 1099511627776→∀ h args0,viewA h args0 = some (.one (bs o)::rest)→∃ x,W C f args0 h = some (.ret (.one (.slc h.next 0 0 (ls o++y).length 1 none)) (h.new (blkOf ((ls o++y).map byteS) x)))
structure OS (h:H) (s:AS) (l:BL) (kept:List (Nat × Blk)):Prop where
 byt:Byt h s l
 kp:keptP h kept
 ok:∀ e ∈ kept,e.1 < h.next∧ownB s ≠ some e.1
theorem Byt.new {h:H} {s:AS} {l:BL} (o:Byt h s l) (k:Blk):Byt (h.new k) s l:=⟨o.1.new k,o.2⟩
theorem Byt.lt {h:H} {s:AS} {l:BL} (o:Byt h s l) {b:Nat} (hb:ownB s = some b):b < h.next:=owns_lt o.1 hb
theorem OS.new {h:H} {s:AS} {l:BL} {kept:List (Nat × Blk)} (w:OS h s l kept) (k:Blk):OS (h.new k) s l ((h.next,k)::kept) where
 byt:=w.byt.new k
 kp:=⟨by simp,keptP_same (fun e he=>by rw [new_at,if_neg (by have:=(w.ok e he).1;omega)]) w.kp⟩
 ok e he:=by
  rcases List.mem_cons.1 he with rfl | he
  ·exact ⟨by simp,fun hb=>by have:=w.byt.lt hb;simp only at this;omega⟩
  ·have:=w.ok e he;exact ⟨by simp only [new_next];omega,this.2⟩
theorem byt_made (h:H) (l:BL) (x:Bool):Byt (h.new (blkOf (l.map byteS) x)) (.slc h.next 0 0 l.length 1 none) l:=⟨owns_made h 1 l.length _ x (by simp),rfl⟩
theorem OS.made (h:H) (l:BL) (x:Bool) (kept:List (Nat × Blk)) (hk:keptP h kept) (hl:∀ e ∈ kept,e.1 < h.next):OS (h.new (blkOf (l.map byteS) x)) (.slc h.next 0 0 l.length 1 none) l kept where
 byt:=byt_made h l x
 kp:=keptP_same (fun e he=>by rw [new_at,if_neg (by have:=hl e he;omega)]) hk
 ok e he:=⟨by have:=hl e he;simp only [new_next];omega,fun hb=>by simp only [ownB,oqI] at hb;have:=hl e he;omega⟩
theorem call_adds {C:Conf} {f:Nat} {rest rest':List AV} {y:BL} (ha:Adds C f rest' y) {h:H} {s:AS} {l:BL} {kept:List (Nat × Blk)} (w:OS h s l kept) (hr:rest.mapM (viewV h) = some rest') (hl:l.length + y.length ≤ 1099511627776)
  {K:AV→H→Prop} {Kp:AS→H→Prop} (hk:∀ s' h',h'.next = h.next + 1→OS h' s' (l++y) kept→keptP h' kept→K (.one s') h'):onR ((W C f (.one s::rest) h).bind crO) K Kp:=by
 have hv:viewA h (.one s::rest) = some (.one (bs (some l))::rest'):=by
  unfold viewA
  rw [if_neg (by simp [pureV,w.byt.2])]
  simp only [List.mapM_cons,viewV,view_byt w.byt,hr,oqE,oqS,oqP]
 obtain ⟨x,e⟩:=ha (some l) (by simpa using hl) h _ hv
 rw [e]
 simp only [oqS,crO_ret,onR_ok,ls_some]
 have m:=OS.made h (l++y) x kept w.kp fun e he=>(w.ok e he).1
 exact hk _ _ (by simp) m m.kp
@[simp] theorem view_bs (h:H) (o:Option BL) (n:Nat):viewS h (n + 1) (bs o) = some (bs o):=viewS_pure (by simp) (by cases o <;> simp [bs_none,bs_some]) (by cases o <;> simp [bs_none,bs_some])
theorem view_conv (h:H) (s:BL):[AV.one (.slc h.next 0 0 s.length 1 none)].mapM (viewV (h.new ⟨0,[s.length],false,s.map byteS⟩)) = some [.one (bs (some s))]:=by
 have h1:=view_byt (byt_made h s false)
 simp only [blkOf,List.length_map] at h1
 simp only [List.mapM_cons,List.mapM_nil,viewV,h1,oqE,oqS,oqP]
theorem call_adds0 {C:Conf} {f:Nat} {rest rest':List AV} {y:BL} (ha:Adds C f rest' y) {h:H} {o:Option BL} {kept:List (Nat × Blk)} (hk0:keptP h kept) (hl0:∀ e ∈ kept,e.1 < h.next) (hv:viewA h (.one (bs o)::rest) = some (.one (bs o)::rest')) (hl:(ls o).length + y.length ≤ 1099511627776)
  {K:AV→H→Prop} {Kp:AS→H→Prop} (hk:∀ s' h',h'.next = h.next + 1→OS h' s' (ls o++y) kept→keptP h' kept→K (.one s') h'):onR ((W C f (.one (bs o)::rest) h).bind crO) K Kp:=by
 obtain ⟨x,e⟩:=ha o hl h _ hv
 rw [e]
 simp only [oqS,crO_ret,onR_ok]
 have m:=OS.made h (ls o++y) x kept hk0 hl0
 exact hk _ _ (by simp) m m.kp
theorem byt_frz {st:Bool} {h:H} {s:AS} {l:BL} (o:Byt h s l) (n:Nat):frzS st h (n + 2) s = some (bs (some l)):=by
 have hx:=owns_frz (st:=st) (n:=n) o.1 (bytes_pureT l)
 obtain ⟨b,v,rfl,hb⟩:=byt_slc o
 rw [hx,bs_some]
theorem os_made0 (fx:Bool):OS (H.empty.new ⟨0,[0],fx,[]⟩) (.slc 0 0 0 0 1 none) [] []:=OS.made H.empty [] fx [] trivial (by simp)
theorem viewA_bs {h:H} {o:Option BL} {rest:List AV} (hp:rest.all pureV = true):viewA h (.one (bs o)::rest) = some (.one (bs o)::rest):=by
 unfold viewA
 rw [if_pos (by simp only [List.all_cons,pureV,pureS_bs,hp,Bool.and_self])]
theorem call_addsP {C:Conf} {f:Nat} {rest:List AV} {y:BL} (ha:Adds C f rest y) {h:H} {s:AS} {l:BL} {kept:List (Nat × Blk)} (w:OS h s l kept) (hr:rest.mapM (viewV h) = some rest) (hl:l.length + y.length ≤ 1099511627776)
  {K:AV→H→Prop} {Kp:AS→H→Prop} (hk:∀ s' h',h'.next = h.next + 1→OS h' s' (l++y) kept→keptP h' kept→K (.one s') h'):onR ((W C f (.one s::rest) h).bind crO) K Kp:=call_adds ha w hr hl hk
theorem call_adds0P {C:Conf} {f:Nat} {rest:List AV} {y:BL} (ha:Adds C f rest y) {h:H} {o:Option BL} {kept:List (Nat × Blk)} (hk0:keptP h kept) (hl0:∀ e ∈ kept,e.1 < h.next) (hv:rest.all pureV = true) (hl:(ls o).length + y.length ≤ 1099511627776)
  {K:AV→H→Prop} {Kp:AS→H→Prop} (hk:∀ s' h',h'.next = h.next + 1→OS h' s' (ls o++y) kept→keptP h' kept→K (.one s') h'):onR ((W C f (.one (bs o)::rest) h).bind crO) K Kp:=call_adds0 ha hk0 hl0 (viewA_bs hv) hl hk
theorem bytes_out {st:Bool} {h1:H} {s:AS} {l:BL} (o:Byt h1 s l) (h0:H):∃ x,outV true st h1 h0 (.one s) = some (.ret (.one (.slc h0.next 0 0 l.length 1 none)) (h0.new (blkOf (l.map byteS) x))):=by
 obtain ⟨b,v,rfl,hb⟩:=byt_slc o
 obtain ⟨_,_,_,hl,_,B,h2,h3,h4,h5⟩:=o.1
 refine ⟨B.fixed, ?_⟩
 simp only [outV,h2,oqE,oqS]
 rw [if_pos ⟨h3.symm,trivial,trivial,by omega,by rw [h5];simp,by rw [h4];simp⟩]
 simp only [h5,mapM_pure (n:=63) (bytes_pureT l),oqS]
theorem adds_of {C:Conf} (hp:PrimOk C) {f:Nat} {rest:List AV} {y:BL} (hown:C.own f = true)
  (hh:∀ o:Option BL,(ls o).length + y.length ≤ 1099511627776→Apart C f (.one (bs o)::rest) fun v h1=>∃ s,v = .one s∧Byt h1 s (ls o++y)):Adds C f rest y:=by
 intro o ho h args0 hv
 have:=W_apartQ hp (Q:=fun r=>∃ x,r = .ret (.one (.slc h.next 0 0 (ls o++y).length 1 none)) (h.new (blkOf ((ls o++y).map byteS) x))) hv ((hh o ho).mono fun v h1 hx=>?_)
 ·obtain ⟨r,e,x,rfl⟩:=this;exact ⟨x,e⟩
 ·obtain ⟨s,rfl,b⟩:=hx
  rw [hown]
  obtain ⟨x,e⟩:=bytes_out (st:=!args0.all pureV) b h
  exact ⟨_,e,x,rfl⟩
theorem os_append {P:Program} {t el:Nat} (ht:P.underlying t = some (.slice el)) (h1:elemT P t = some el) (h2:sizeT P el = some 1) (h3:bytesT P el = some 1) {h:H} {s a:AS} {l x:BL} {kept:List (Nat × Blk)} (w:OS h s l kept)
  (hs:lenS a = some x.length) (he:elemsOf h 1 x.length a = some (x.map byteS)) (hl:l.length + x.length ≤ 1099511627776):∃ s' h',appendA P t t h s a = some (s',h')∧OS h' s' (l++x) kept∧h.next ≤ h'.next:=by
 rw [append_slice (x:=a) h1 h2 h3 ht hs he]
 by_cases hx:x = []
 ·subst hx
  obtain ⟨b,v,rfl,hb⟩:=byt_slc w.byt
  exact ⟨.slc b v 0 l.length 1 none,h,by simp [appendL],by simpa using w,Nat.le_refl _⟩
 ·obtain ⟨s',h',e1,e2,e3,e4,e5,e6⟩:=append_own (bytes:=1) (m:=x.length) (new:=x.map byteS) (n:=l.length) w.byt.1 (by omega) (by simp) (List.length_pos_iff.2 hx) (by simp) (by simp only [limit];omega)
  refine ⟨s',h',e1,⟨⟨by simpa using e2, ?_⟩,keptP_same (fun e he=>e4 _ (w.ok e he).1 (w.ok e he).2) w.kp,fun e he=>⟨by have:=(w.ok e he).1;omega,fun hb=>?_⟩⟩,e3⟩
  ·cases s' <;> simp [ownB] at e6 ⊢
   rfl
  ·rcases e5 _ hb with h | h
   ·exact (w.ok e he).2 h
   ·have:=(w.ok e he).1;omega
theorem elems_slc {h:H} {b n:Nat} {x:BL} {fx:Bool} (hb:h.f b = some ⟨0,[n],fx,x.map byteS⟩) (hn:n = x.length):elemsOf h 1 x.length (.slc b 0 0 n 1 none) = some (x.map byteS):=by
 subst hn
 simp [elemsOf,hb,sub]
 exact List.take_of_length_le (by simp)
theorem call_app {C:Conf} {P:Program} {t el:Nat} (ht:P.underlying t = some (.slice el)) (h1:elemT P t = some el) (h2:sizeT P el = some 1) (h3:bytesT P el = some 1) {h:H} {s a:AS} {l x:BL} {kept:List (Nat × Blk)} (w:OS h s l kept)
  (hs:lenS a = some x.length) (he:elemsOf h 1 x.length a = some (x.map byteS)) (hl:l.length + x.length ≤ 1099511627776)
  {K:AV→H→Prop} {Kp:AS→H→Prop} (hk:∀ s' h',h.next ≤ h'.next→OS h' s' (l++x) kept→keptP h' kept→K (.one s') h') :
  onR (((appendA P t t h s a).bind fun p=>some (OR.val (AV.one p.1) p.2)).bind (afterO (W C))) K Kp:=by
 obtain ⟨s',h',e,o,n⟩:=os_append ht h1 h2 h3 w hs he hl
 rw [e]
 simp only [oqS,afterO,onR_ok]
 exact hk s' h' n o o.kp
end Go.Ab
namespace Go.Ab
def Rets (P:AV→H→Prop):CR→Prop
 | .ret v h=>P v h
 | .pan _ _=>False
theorem Rets.ret {P:AV→H→Prop} {r:CR} (e:Rets P r):∃ v h,r = .ret v h∧P v h:=by
 cases r with
 | ret v h=>exact ⟨v,h,rfl,e⟩
 | pan v h=>exact e.elim
theorem Rets.intro {C:Conf} {f:Nat} {args:List AV} {h:H} {P:AV→H→Prop} (k:∀ P':AV→H→Prop,(∀ v h,P v h→P' v h)→∃ r,W C f args h = some r∧Rets P' r):∃ r,W C f args h = some r∧Rets P r:=k P fun _ _ h=>h
@[simp] theorem rets_ret (P:AV→H→Prop) (v:AV) (h:H):Rets P (.ret v h) = P v h:=rfl
section
variable (P:Program) (cmp:Nat→Option (List AS)) (fr:Fr) (h:H) (d:Option Nat) (ty:TypeId) (pos:String) (af:Array Edge) (g:Option (Nat × Bool))
def strIx (u:TypeDesc) (a:AS) (n:Nat) (h:H):Option OR:=match u,a with | .string,.str s=>(s[n]?).bind fun b=>some (one (byteS b) h) | _,_=>none
@[simp] theorem strIx_str (s:List UInt8) (n:Nat):strIx .string (.str s) n h = (s[n]?).bind fun b=>some (one (byteS b) h):=rfl
@[simp] theorem sop_index (t:TypeId) (x i:Operand):opA P cmp fr h ⟨d,.index t x i,ty,pos,af,g⟩ = (P.underlying t).bind fun u=>(evS fr x).bind fun a=>(evS fr i).bind fun j=>(natOf j).bind fun n=>strIx u a n h:=by
 simp only [opA,oqE]
 congr 1;funext u
 cases evS fr x with
 | none=>cases u <;> rfl
 | some a=>cases evS fr i with
  | none=>cases u <;> cases a <;> rfl
  | some j =>
   cases hj:natOf j with
   | none=>cases u <;> cases a <;> simp [hj]
   | some n=>cases u <;> cases a <;> simp [strIx,hj]
end
section
variable {α:Type}
def Arr (h:H) (enc:α→List AS) (b v:Nat) (l:List α) (z:List AS):Prop:=b < h.next∧∃ fx ex,h.f b = some ⟨v,(cat enc l++z).length::ex,fx,cat enc l++z⟩
theorem Arr.keep {h h':H} {enc:α→List AS} {b v:Nat} {l:List α} {z:List AS} (a:Arr h enc b v l z) (hn:h.next ≤ h'.next) (hf:h'.f b = h.f b):Arr h' enc b v l z:=⟨by have:=a.1;omega,by rw [hf];exact a.2⟩
theorem Arr.new {h:H} {enc:α→List AS} {b v:Nat} {l:List α} {z:List AS} (a:Arr h enc b v l z) (k:Blk):Arr (h.new k) enc b v l z:=a.keep (by simp) (by have:=a.1;rw [new_at,if_neg (by omega)])
theorem arr_index {P:Program} {t u size:Nat} (ht:P.underlying t = some (.slice u)) (hu:sizeT P u = some size) (h0:0 < size) {b v n i:Nat} (hi:i < n):indexA P t (.slc b v 0 n size none) i = some (.ptr b v (i * size)):=by
 simp only [indexA,ht,hu,oqE,oqS]
 rw [if_pos ⟨trivial,h0,hi⟩,Nat.zero_add]
theorem split_at {l:List α} {i:Nat} (hi:i < l.length):l = l.take i++l[i]::l.drop (i + 1):=by rw [List.getElem_cons_drop,List.take_append_drop]
theorem arr_read {size:Nat} {enc:α→List AS} (he:∀ x,(enc x).length = size) {h:H} {b v:Nat} {l:List α} {z:List AS} (a:Arr h enc b v l z) {i:Nat} (hi:i < l.length):readC h (.ptr b v (i * size)) size = some (enc l[i]):=by
 obtain ⟨_,fx,ex,hf⟩:=a
 have hl:=flat_length he l
 have hle:i * size + size ≤ l.length * size:=by rw [← Nat.succ_mul];exact Nat.mul_le_mul_right _ hi
 simp only [read_ptr,hf,oqS,Blk.ext,Nat.le_refl,if_true,Nat.sub_self,List.getElem?_cons_zero]
 rw [if_pos (by rw [List.length_append,hl];omega)]
 unfold sub
 rw [if_pos (by rw [List.length_append,hl];omega)]
 have h2:(cat enc (l.take i)).length = i * size:=by rw [flat_length he,List.length_take,Nat.min_eq_left (by omega)]
 have h3:cat enc l++z = cat enc (l.take i)++(enc l[i]++(cat enc (l.drop (i + 1))++z)):=by
  conv=>lhs;rw [split_at hi,cat_app,cat_cons]
  simp
 rw [h3,← h2,List.drop_left,← he l[i],List.take_left]
theorem arr_write {size:Nat} {enc:α→List AS} (he:∀ x,(enc x).length = size) {h:H} {b v:Nat} {l:List α} {z:List AS} (a:Arr h enc b v l z) {i:Nat} (hi:i < l.length) (x:α) :
  ∃ k,writeC h (.ptr b v (i * size)) (enc x) = some (h.set b k)∧Arr (h.set b k) enc b v (l.set i x) z:=by
 obtain ⟨hb,fx,ex,hf⟩:=a
 have hl:=flat_length he l
 have hle:i * size + size ≤ l.length * size:=by rw [← Nat.succ_mul];exact Nat.mul_le_mul_right _ hi
 have h2:(cat enc (l.take i)).length = i * size:=by rw [flat_length he,List.length_take,Nat.min_eq_left (by omega)]
 have h3:cat enc l++z = cat enc (l.take i)++(enc l[i]++(cat enc (l.drop (i + 1))++z)):=by
  conv=>lhs;rw [split_at hi,cat_app,cat_cons]
  simp
 have h4:lay (cat enc l++z) (i * size) (enc x) = cat enc (l.set i x)++z:=by
  have h5:l.set i x = l.take i++x::l.drop (i + 1):=by rw [List.set_eq_take_append_cons_drop,if_pos hi]
  unfold lay
  rw [h5,cat_app,cat_cons,h3,← h2,List.take_left,← List.drop_drop,List.drop_left,he x,← he l[i],List.drop_left]
  simp
 refine ⟨⟨v,[(cat enc l++z).length],fx,lay (cat enc l++z) (i * size) (enc x)⟩, ?_,by simpa using hb,fx,[], ?_⟩
 ·simp only [write_ptr,hf,oqS,Blk.ext,Nat.le_refl,if_true,Nat.sub_self,List.getElem?_cons_zero]
  rw [if_pos ⟨trivial,by rw [he,List.length_append,hl];omega,trivial⟩]
 ·simp only [set_at,if_true]
  rw [h4]
  have:(cat enc l++z).length = (cat enc (l.set i x)++z).length:=by simp [flat_length he]
  rw [this]
theorem arr_behind {size:Nat} {enc:α→List AS} (he:∀ x,(enc x).length = size) {h:H} {b v:Nat} {l m:List α} {z:List AS} (a:Arr h enc b v (l++m) z):readC h (.ptr b v (l.length * size)) (m.length * size) = some (cat enc m):=by
 obtain ⟨_,fx,ex,hf⟩:=a
 have hl:=flat_length he l
 have hm:=flat_length he m
 simp only [read_ptr,hf,oqS,Blk.ext,Nat.le_refl,if_true,Nat.sub_self,List.getElem?_cons_zero,cat_app]
 rw [if_pos (by simp [hl,hm] <;> omega)]
 unfold sub
 rw [if_pos (by simp [hl,hm] <;> omega),List.append_assoc,← hl,List.drop_left,← hm,List.take_left]
theorem Arr.cells {size:Nat} {enc:α→List AS} (he:∀ x,(enc x).length = size) {h:H} {b v:Nat} {l:List α} {z:List AS} (a:Arr h enc b v l z):∃ fx ex M,h.f b = some ⟨v,M.length::ex,fx,M⟩∧M = cat enc l++z∧l.length * size ≤ M.length ∧
  (∀ i (hi:i < l.length),i * size + size ≤ M.length∧sub M (i * size) size = some (enc l[i])) ∧
  (∀ h' i x,i < l.length→b < h'.next→h'.f b = some ⟨v,[M.length],fx,lay M (i * size) (enc x)⟩→Arr h' enc b v (l.set i x) z):=by
 have a0:=a
 obtain ⟨hb,fx,ex,hf⟩:=a
 have hl:=flat_length he l
 have hle:∀ i,i < l.length→i * size + size ≤ (cat enc l++z).length:=by
  intro i hi
  have:i * size + size ≤ l.length * size:=by rw [← Nat.succ_mul];exact Nat.mul_le_mul_right _ hi
  rw [List.length_append,hl];omega
 refine ⟨fx,ex,_,hf,rfl,by rw [List.length_append,hl];omega,fun i hi=>⟨hle i hi, ?_⟩,fun h' i x hi hb' hf'=>⟨hb',fx,[], ?_⟩⟩
 ·have:=arr_read he a0 hi
  simp only [read_ptr,hf,oqS,Blk.ext,Nat.le_refl,if_true,Nat.sub_self,List.getElem?_cons_zero] at this
  rwa [if_pos (hle i hi)] at this
 ·obtain ⟨k,hw,h1,fx',ex',ha⟩:=arr_write he a0 hi x
  simp only [write_ptr,hf,oqS,Blk.ext,Nat.le_refl,if_true,Nat.sub_self,List.getElem?_cons_zero] at hw
  rw [if_pos ⟨trivial,by rw [he];exact hle i hi,trivial⟩] at hw
  simp only [oqI] at hw
  have h2:(h.set b k).f b = some ⟨v,[(cat enc l++z).length],fx,lay (cat enc l++z) (i * size) (enc x)⟩:=by rw [← hw];simp
  rw [hf',← h2,ha]
  have h3:=h2
  rw [ha] at h3
  simp only [oqI,Blk.mk.injEq,List.cons.injEq,true_and] at h3
  rw [h3.1.2,h3.2.1]
def Sl (h:H) (size:Nat) (enc:α→List AS) (s:AS) (l:List α):Prop:=(s = .nilslc∧l = []) ∨ ∃ b v z,s = .slc b v 0 l.length size none∧Arr h enc b v l z
theorem Sl.keep {h h':H} {size:Nat} {enc:α→List AS} {s:AS} {l:List α} (a:Sl h size enc s l) (hn:h.next ≤ h'.next) (hf:∀ b,ownB s = some b→h'.f b = h.f b):Sl h' size enc s l:=by
 rcases a with ⟨rfl,rfl⟩ | ⟨b,v,z,rfl,a⟩
 ·exact .inl ⟨rfl,rfl⟩
 ·exact .inr ⟨b,v,z,rfl,a.keep hn (hf b rfl)⟩
theorem Sl.lt {h:H} {size:Nat} {enc:α→List AS} {s:AS} {l:List α} (a:Sl h size enc s l) {b:Nat} (hb:ownB s = some b):b < h.next:=by
 rcases a with ⟨rfl,rfl⟩ | ⟨b,v,z,rfl,a⟩
 ·cases hb
 ·cases hb;exact a.1
theorem Sl.sees {h:H} {size:Nat} {enc:α→List AS} (he:∀ x,(enc x).length = size) {s:AS} {l:List α} (a:Sl h size enc s l):Sees h size s (cat enc l):=by
 rcases a with ⟨rfl,rfl⟩ | ⟨b,v,z,rfl,a⟩
 ·rfl
 ·refine ⟨rfl, ?_⟩
  have:=arr_behind (l:=[]) he a
  simpa using this
theorem Sl.len {h:H} {size:Nat} {enc:α→List AS} {s:AS} {l:List α} (a:Sl h size enc s l):lenS s = some l.length:=by
 rcases a with ⟨rfl,rfl⟩ | ⟨b,v,z,rfl,a⟩ <;> rfl
end
end Go.Ab
namespace Go.Ab
end Go.Ab
namespace Go.Ab
structure SeatK where
 P:Program
 ext:List (Nat × Ext)
 cmp:List Nat
 rd:Option (Nat × RdFn)
 lay:Option (Nat × LayFn)
 frz:List Nat
 own:List Nat
def extL:List (Nat × Ext)→Nat→Option Ext
 | [],_=>none
 | a::l,f=>bif Nat.beq f a.1 then some a.2 else extL l f
def memL:List Nat→Nat→Bool
 | [],_=>false
 | a::l,t=>bif Nat.beq t a then true else memL l t
def confK0 (S:SeatK):Conf:={ P:=S.P,ext:=extL S.ext,prim:=fun _=>none,frz:=fun _=>false,cmp:=fun t=>bif memL S.cmp t then flatAt S.P 8 t else none }
abbrev Prim:=(Nat→List AV→H→Option CR)→List AV→H→Option CR
noncomputable def primR (S:SeatK) (f:Nat):Option Prim:=match S.rd with | some q=>bif Nat.beq f q.1 then some (readA (confK0 S) q.2) else none | none=>none
noncomputable def primY (S:SeatK) (f:Nat):Option Prim:=match S.lay with | some q=>bif Nat.beq f q.1 then some (layA (confK0 S) q.2) else none | none=>none
noncomputable def primK (S:SeatK) (f:Nat):Option Prim:=match primR S f with | some g=>some g | none=>primY S f
noncomputable def confK (S:SeatK):Conf:={ P:=S.P,ext:=extL S.ext,prim:=primK S,frz:=memL S.frz,cmp:=fun t=>bif memL S.cmp t then flatAt S.P 8 t else none,own:=memL S.own }
structure SeatKOk (S:SeatK):Prop where
 okT:OkT S.P
 mixed:S.P.follows .mixedOrders = true
 names:∀ (f:Nat) (fn:Func),S.P.funcs[f]? = some fn→fn.body.isSome = true→(fn.name == "runtime.NumGoroutine") = false
 ext:∀ q ∈ S.ext,ExtT S.P q.1 q.2
 cmp:∀ t ∈ S.cmp,(∃ fs,S.P.underlying t = some (.struct fs))∧S.P.eqGuardType S.P.depth t = false
 read:∀ q,S.rd = some q→ReadOk S.P q.1 q.2
 lay:∀ q,S.lay = some q→LayOk S.P q.1 q.2
section
variable {S:SeatK}
theorem extL_ok:∀ {l:List (Nat × Ext)} {f:Nat} {x:Ext},extL l f = some x→(f,x) ∈ l
 | [],f,x,h=>by cases h
 | a::l,f,x,h=>by
  rw [extL] at h
  cases hb:Nat.beq f a.1 with
  | true =>
   rw [hb] at h
   simp only [cond_true,oqI] at h
   have:=oqN hb
   subst h;subst this;simp
  | false=>rw [hb] at h;exact List.mem_cons_of_mem _ (extL_ok h)
theorem memL_ok:∀ {l:List Nat} {t:Nat},memL l t = true→t ∈ l
 | [],t,h=>by cases h
 | a::l,t,h=>by
  rw [memL] at h
  cases hb:Nat.beq t a with
  | true=>have:=oqN hb;subst this;simp
  | false=>rw [hb] at h;exact List.mem_cons_of_mem _ (memL_ok h)
theorem bif_inv {α:Type} {b:Bool} {x y:α} (h:(bif b then some x else none) = some y):b = true∧x = y:=by
 cases b with
 | true=>simp only [cond_true,oqI] at h;exact ⟨rfl,h⟩
 | false=>cases h
theorem primK_cases {f:Nat} {g:Prim} (h:primK S f = some g):(∃ q,S.rd = some q∧f = q.1∧g = readA (confK0 S) q.2) ∨ ∃ q,S.lay = some q∧f = q.1∧g = layA (confK0 S) q.2:=by
 unfold primK at h
 split at h
 ·rename_i g' hg
  simp only [oqI] at h;subst h
  unfold primR at hg
  split at hg
  ·rename_i q hq
   obtain ⟨h1,rfl⟩:=bif_inv hg
   exact .inl ⟨q,hq,oqN h1,rfl⟩
  ·cases hg
 ·unfold primY at h
  split at h
  ·rename_i q hq
   obtain ⟨h1,rfl⟩:=bif_inv h
   exact .inr ⟨q,hq,oqN h1,rfl⟩
  ·cases h
theorem confK_prim:PrimOk (confK S):=by
 refine ⟨fun f g h c d hl args hh r hr=>?_,fun f g h c w hm hw args hh r hr=>?_⟩
 ·rcases primK_cases h with ⟨q,_,_,rfl⟩ | ⟨q,_,_,rfl⟩
  ·exact readA_mono hl hr
  ·exact layA_mono hl hr
 ·rcases primK_cases h with ⟨q,_,_,rfl⟩ | ⟨q,_,_,rfl⟩
  ·exact readA_c hm hw hr
  ·exact layA_c hm hw hr
theorem confK_cmp (h:SeatKOk S):∀ t z,(confK S).cmp t = some z→CmpT S.P t z:=by
 intro t z hz
 have hz':(bif memL S.cmp t then flatAt S.P 8 t else none) = some z:=hz
 cases hb:memL S.cmp t with
 | false=>rw [hb] at hz';cases hz'
 | true =>
  rw [hb,cond_true] at hz'
  obtain ⟨⟨fs,h3⟩,h4⟩:=h.cmp t (memL_ok hb)
  exact cmp_ok hz' h3 h4
theorem confK_ok (h:SeatKOk S):OkC (confK S):=by
 refine ⟨h.names,fun f x hx args hh r hr φ w cargs R ha=>?_,fun f g hg calls hc args hh r hr φ w cargs R ha=>?_⟩
 ·exact ext_ok (h.ext _ (extL_ok hx)) hr R ha
 ·rcases primK_cases hg with ⟨q,hq,rfl,rfl⟩ | ⟨q,hq,rfl,rfl⟩
  ·exact readA_ok (C:=confK0 S) h.okT (confK_cmp h) (h.read q hq) hc hr R ha
  ·exact layA_ok (C:=confK0 S) h.okT (confK_cmp h) h.mixed (h.lay q hq) hc hr R ha
end
theorem i64_inv {a:AV} (h:FitA (false,[.int .i64]) a):∃ n:Int,-9223372036854775808 ≤ n∧n < 9223372036854775808∧a = .one (.int .i64 n):=by
 obtain ⟨x,c,h1,rfl,h2⟩:∃ x c,[CS.int .i64] = [c]∧a = .one x∧Fit c x:=by simpa [FitA] using h
 cases h1
 cases h2 with
 | int k n h3 h4 =>
  have h3':(-9223372036854775808:Int) ≤ n:=h3
  have h4':n ≤ 9223372036854775807:=h4
  exact ⟨n,h3',by omega,rfl⟩
theorem u8_inv {a:AV} (h:FitA (false,[.int .u8]) a):∃ b:UInt8,a = .one (byteS b):=by
 obtain ⟨x,c,h1,rfl,h2⟩:∃ x c,[CS.int .u8] = [c]∧a = .one x∧Fit c x:=by simpa [FitA] using h
 cases h1
 cases h2 with
 | int k n h3 h4 =>
  have h3':(0:Int) ≤ n:=h3
  have h4':n ≤ 255:=h4
  refine ⟨UInt8.ofNat n.toNat, ?_⟩
  simp only [byteS]
  congr 2
  rw [UInt8.toNat_ofNat',Nat.mod_eq_of_lt (by omega)];omega
theorem fit_cons {p:Bool × List CS} {ps:List (Bool × List CS)} {xs:List AV} (h:FitAL (p::ps) xs):∃ a xs',xs = a::xs'∧FitA p a∧FitAL ps xs':=by
 cases h with | cons _ a _ xs' h1 h2=>exact ⟨a,xs',rfl,h1,h2⟩
theorem fit_nil {xs:List AV} (h:FitAL [] xs):xs = []:=by cases h;rfl
theorem fitL_cons {c:CS} {cs:List CS} {l:List AS} (h:FitL (c::cs) l):∃ a r,l = a::r∧Fit c a∧FitL cs r:=by
 cases h with | cons _ a _ l h1 h2=>exact ⟨a,l,rfl,h1,h2⟩
theorem fitL_nil {l:List AS} (h:FitL [] l):l = []:=by cases h;rfl
theorem fit_agg {s:List CS} {a:AV} (h:FitA (true,s) a):∃ l,a = .agg l∧FitL s l:=by simpa [FitA] using h
theorem fit_one {c:CS} {a:AV} (h:FitA (false,[c]) a):∃ x,a = .one x∧Fit c x:=by
 obtain ⟨x,c',h1,rfl,h2⟩:∃ x c',[c] = [c']∧a = .one x∧Fit c' x:=by simpa [FitA] using h
 cases h1;exact ⟨x,rfl,h2⟩
theorem fit_i64 {x:AS} (h:Fit (.int .i64) x):∃ n:Int,(-9223372036854775808 ≤ n∧n < 9223372036854775808)∧x = .int .i64 n:=by
 cases h with
 | int k n h3 h4 =>
  have h3':(-9223372036854775808:Int) ≤ n:=h3
  have h4':n ≤ 9223372036854775807:=h4
  exact ⟨n,⟨h3',by omega⟩,rfl⟩
theorem fit_bool {x:AS} (h:Fit .bool x):∃ b,x = .bool b:=by cases h;exact ⟨_,rfl⟩
theorem fit_flt {x:AS} (h:Fit .flt x):∃ n:Nat,n < 2 ^ 64∧x = .flt n:=by cases h with | flt b h=>exact ⟨b,h,rfl⟩
theorem fit_sl {α:Type} {s:List CS} {enc:α→List AS} {ok:α→Prop} (hx:∀ l,FitL s l→∃ x,ok x∧l = enc x) {a:AS} (h:Fit (.slc s) a):∃ o:Option (List α),(ls o).length ≤ maxLen∧(∀ x ∈ ls o,ok x)∧a = sl s.length enc o:=by
 cases h with
 | nil=>exact ⟨none,Nat.zero_le _,by simp,rfl⟩
 | slc _ n k cells hk hn hc =>
  have key:∀ n cells,FitN s n cells→∃ l:List α,l.length = n∧(∀ x ∈ l,ok x)∧cells = cat enc l:=by
   intro n
   induction n with
   | zero=>intro cells hc;cases hc;exact ⟨[],rfl,by simp,rfl⟩
   | succ n ih =>
    intro cells hc
    cases hc with
    | succ _ _ a l h1 h2 =>
     obtain ⟨x,hx1,rfl⟩:=hx a h1
     obtain ⟨q,h3,h4,rfl⟩:=ih l h2
     refine ⟨x::q,by simp [h3], ?_,by simp [cat]⟩
     intro y hy
     rcases List.mem_cons.1 hy with rfl | hy
     ·exact hx1
     ·exact h4 y hy
  obtain ⟨l,h1,h2,rfl⟩:=key n cells hc
  refine ⟨some l,by simpa [h1] using hn,h2, ?_⟩
  simp only [sl,h1,hk]
theorem fit_bs {a:AS} (h:Fit (.slc [.int .u8]) a):∃ o:Option BL,(ls o).length ≤ maxLen∧a = bs o:=by
 have hx:∀ l,FitL [.int .u8] l→∃ x:UInt8,True∧l = [byteS x]:=by
  intro l hl
  obtain ⟨a,r,rfl,h1,h2⟩:=fitL_cons hl
  cases fitL_nil h2
  obtain ⟨b,hb⟩:=u8_inv (a:=.one a) (by show (if false = true then _ else _);rw [if_neg (by simp)];exact ⟨a,_,rfl,rfl,h1⟩)
  cases hb
  exact ⟨b,trivial,rfl⟩
 obtain ⟨o,h1,_,h3⟩:=fit_sl (enc:=fun b:UInt8=>[byteS b]) hx h
 exact ⟨o,h1,h3⟩
end Go.Ab
namespace Wm
open Go Go.Ab
structure Value where
 kind:Int
 b:Option BL
 n:Nat
structure Version where
 time:Int
 v:Value
structure Column where
 name:BL
 l:Option (List Version)
abbrev Row:=Option (List Column)
structure Change where
 kind:Int
 col:BL
 time:Int
 v:Value
structure Cond where
 has:Bool
 want:Bool
 col:BL
 v:Value
structure Op where
 kind:Int
 row:BL
 hi:BL
 cond:Cond
 l:Option (List Change)
 most:Int
structure Named where
 name:BL
 r:Row
structure Span where
 lo:BL
 hi:BL
 deriving DecidableEq
structure Tablet where
 span:Span
 group:Int
 gen:Int
 deriving DecidableEq
structure Command where
 kind:Int
 op:Op
 span:Span
 gen:Int
 at_:BL
 to:Int
 do_:Int
 state:Option BL
structure Answer where
 code:Int
 rows:Option (List Named)
 span:Span
 group:Int
 gen:Int
 old:Int
 to:Int
 do_:Int
 at_:BL
 state:Option BL
structure Vote where
 slot:Int
 ballot:Int
 v:Option BL
structure Message where
 kind:Int
 group:Int
 frm:Int
 to:Int
 ballot:Int
 slot:Int
 client:Int
 seq:Int
 b:Option BL
 l:Option (List Vote)
structure Event where
 kind:Int
 group:Int
 slot:Int
 client:Int
 seq:Int
 b:Option BL
 a:Option BL
structure Item where
 kind:Int
 group:Int
 n:Int
 client:Int
 bytes:Option BL
structure Config where
 groups:Int
 n:Int
 clients:Int
structure KV where
 text:Bool
 n:Int
 x:Nat
 b:Option BL
structure KC where
 kind:Int
 col:Int
 time:Int
 v:KV
structure KO where
 kind:Int
 row:Int
 hi:Int
 most:Int
 col:Int
 has:Bool
 want:Bool
 v:KV
 l:Option (List KC)
structure KP where
 do_:Int
 at_:Int
 to:Int
abbrev ii (n:Int):AS:=.int .i64 n
def encV (v:Value):List AS:=[ii v.kind,bs v.b,.flt v.n]
def encVersion (v:Version):List AS:=[ii v.time,ii v.v.kind,bs v.v.b,.flt v.v.n]
def encColumn (c:Column):List AS:=[.str c.name,sl 4 encVersion c.l]
def encChange (c:Change):List AS:=[ii c.kind,.str c.col,ii c.time,ii c.v.kind,bs c.v.b,.flt c.v.n]
def encOp (o:Op):List AS:=[ii o.kind,.str o.row,.str o.hi,.bool o.cond.has,.bool o.cond.want,.str o.cond.col,ii o.cond.v.kind,bs o.cond.v.b,.flt o.cond.v.n,sl 6 encChange o.l,ii o.most]
def encNamed (n:Named):List AS:=[.str n.name,sl 2 encColumn n.r]
def encSpan (s:Span):List AS:=[.str s.lo,.str s.hi]
def encTablet (t:Tablet):List AS:=[.str t.span.lo,.str t.span.hi,ii t.group,ii t.gen]
def encVote (v:Vote):List AS:=[ii v.slot,ii v.ballot,bs v.v]
def encMessage (m:Message):List AS:=[ii m.kind,ii m.group,ii m.frm,ii m.to,ii m.ballot,ii m.slot,ii m.client,ii m.seq,bs m.b,sl 3 encVote m.l]
def encItem (i:Item):List AS:=[ii i.kind,ii i.group,ii i.n,ii i.client,bs i.bytes]
def encKC (c:KC):List AS:=[ii c.kind,ii c.col,ii c.time,.bool c.v.text,ii c.v.n,.flt c.v.x,bs c.v.b]
theorem len_change (v:Change):(encChange v).length = 6:=rfl
theorem len_item (v:Item):(encItem v).length = 5:=rfl
theorem len_kc (v:KC):(encKC v).length = 7:=rfl
@[simp] theorem pure_version (v:Version):pureL false (encVersion v) = true:=by simp [encVersion,pureL,pureS]
@[simp] theorem pure_versions (o:Option (List Version)):pureS false (sl 4 encVersion o) = true:=pureS_sl pure_version o
@[simp] theorem pure_column (v:Column):pureL false (encColumn v) = true:=by simp [encColumn,pureL,pureS]
@[simp] theorem pure_columns (o:Option (List Column)):pureS false (sl 2 encColumn o) = true:=pureS_sl pure_column o
@[simp] theorem pure_change (v:Change):pureL false (encChange v) = true:=by simp [encChange,pureL,pureS]
@[simp] theorem pure_changes (o:Option (List Change)):pureS false (sl 6 encChange o) = true:=pureS_sl pure_change o
@[simp] theorem pure_named (v:Named):pureL false (encNamed v) = true:=by simp [encNamed,pureL,pureS]
@[simp] theorem pure_nameds (o:Option (List Named)):pureS false (sl 2 encNamed o) = true:=pureS_sl pure_named o
@[simp] theorem pure_span (v:Span):pureL false (encSpan v) = true:=by simp [encSpan,pureL,pureS]
@[simp] theorem pure_spans (o:Option (List Span)):pureS false (sl 2 encSpan o) = true:=pureS_sl pure_span o
@[simp] theorem pure_tablet (v:Tablet):pureL false (encTablet v) = true:=by simp [encTablet,pureL,pureS]
@[simp] theorem pure_tablets (o:Option (List Tablet)):pureS false (sl 4 encTablet o) = true:=pureS_sl pure_tablet o
@[simp] theorem pure_vote (v:Vote):pureL false (encVote v) = true:=by simp [encVote,pureL,pureS]
@[simp] theorem pure_votes (o:Option (List Vote)):pureS false (sl 3 encVote o) = true:=pureS_sl pure_vote o
@[simp] theorem pure_message (v:Message):pureL false (encMessage v) = true:=by simp [encMessage,pureL,pureS]
@[simp] theorem pure_messages (o:Option (List Message)):pureS false (sl 10 encMessage o) = true:=pureS_sl pure_message o
@[simp] theorem pure_item (v:Item):pureL false (encItem v) = true:=by simp [encItem,pureL,pureS]
@[simp] theorem pure_items (o:Option (List Item)):pureS false (sl 5 encItem o) = true:=pureS_sl pure_item o
@[simp] theorem pure_kc (v:KC):pureL false (encKC v) = true:=by simp [encKC,pureL,pureS]
@[simp] theorem pure_kcs (o:Option (List KC)):pureS false (sl 7 encKC o) = true:=pureS_sl pure_kc o
end Wm
namespace Wm
open Go Go.Ab
def blt (a b:BL):Bool:=Op.bytesLess a b
abbrev lenB (o:Option BL):Nat:=(ls o).length
def nameOk (s:BL):Bool:=decide (0 < s.length) && decide (s.length ≤ 16)
def valOk (v:Value):Bool:=(v.kind == 1 && decide (lenB v.b ≤ 16)) || v.kind == 2
def asks (k:Int):Bool × Bool × Bool × Bool :=
 if k = 1 ∨ k = 5 then (true,true,true,true) else if k = 2 then (true,true,false,true) else if k = 3 then (true,false,false,true) else if k = 4 then (false,false,false,true) else (false,false,false,false)
def changeWhy (c:Change):Int :=
 let a:=asks c.kind
 if a.2.2.2 = false then 24
 else if (a.1 && !nameOk c.col) || (a.2.1 && (decide (c.time < 0) || decide (1099511627776 < c.time))) || (a.2.2.1 && !valOk c.v) then 1
 else if c.kind = 5∧c.v.kind ≠ 2 then 24 else 0
def condOk (c:Cond):Bool:=!c.has || (nameOk c.col && (!c.want || valOk c.v))
def spanOk (s:Span):Bool:=decide (s.lo.length ≤ 16) && decide (s.hi.length ≤ 16) && (s.hi == [] || blt s.lo s.hi)
def opOk (o:Op):Bool :=
 if o.kind = 1 then nameOk o.row
 else if o.kind = 2 then nameOk o.row && (condOk o.cond && (decide (0 < (ls o.l).length) && (decide ((ls o.l).length ≤ 8) && (ls o.l).all fun c=>changeWhy c == 0)))
 else if o.kind = 3 then spanOk ⟨o.row,o.hi⟩ && (decide (1 ≤ o.most) && decide (o.most ≤ 16))
 else false
theorem u8_lt_iff (a b:UInt8):a < b ↔ a.toNat < b.toNat:=Iff.rfl
theorem u8_eq_iff (a b:UInt8):a = b ↔ a.toNat = b.toNat:=⟨fun h=>by rw [h],fun h=>UInt8.toNat_inj.1 h⟩
theorem less_irrefl:∀ a:BL,Op.bytesLess a a = false
 | []=>rfl
 | a::x=>by simp [Op.bytesLess,less_irrefl x]
theorem less_asymm:∀ {a b:BL},Op.bytesLess a b = true→Op.bytesLess b a = false
 | [],[],h=>by cases h
 | [],_::_,_=>rfl
 | _::_,[],h=>by cases h
 | a::x,b::y,h=>by
  simp only [Op.bytesLess,Bool.or_eq_true,decide_eq_true_eq,Bool.and_eq_true,beq_iff_eq] at h
  simp only [Op.bytesLess,Bool.or_eq_false_iff,decide_eq_false_iff_not,Bool.and_eq_false_iff]
  rcases h with h | ⟨rfl,h⟩
  ·rw [u8_lt_iff] at *
   refine ⟨by omega,.inl ?_⟩
   simp;rintro rfl;omega
  ·exact ⟨by rw [u8_lt_iff];omega,.inr (less_asymm h)⟩
theorem less_total:∀ {a b:BL},Op.bytesLess a b = false→Op.bytesLess b a = false→a = b
 | [],[],_,_=>rfl
 | [],_::_,h,_=>by cases h
 | _::_,[],_,h=>by cases h
 | a::x,b::y,h,k=>by
  simp only [Op.bytesLess,Bool.or_eq_false_iff,decide_eq_false_iff_not,Bool.and_eq_false_iff,beq_eq_false_iff_ne] at h k
  have hab:a = b:=by
   rw [u8_eq_iff]
   have h1:=h.1;have k1:=k.1
   rw [u8_lt_iff] at h1 k1;omega
  subst hab
  have h2:Op.bytesLess x y = false:=by rcases h.2 with h | h;exact absurd rfl h;exact h
  have k2:Op.bytesLess y x = false:=by rcases k.2 with h | h;exact absurd rfl h;exact h
  rw [less_total h2 k2]
@[simp] theorem less_or_eq (a b:BL):(Op.bytesLess a b || a == b) = !Op.bytesLess b a:=by
 cases h:Op.bytesLess a b
 ·cases k:Op.bytesLess b a
  ·simp [less_total h k]
  ·simp;rintro rfl;rw [less_irrefl] at k;cases k
 ·simp [less_asymm h]
@[simp ↓] theorem dle_8 (n:Nat):decide ((n:Int) ≤ 8) = decide (n ≤ 8):=by rw [decide_eq_decide];omega
@[simp ↓] theorem dlt_8 (n:Nat):decide ((8:Int) < n) = decide (8 < n):=by rw [decide_eq_decide];omega
@[simp] theorem le_8 (n:Nat):((n:Int) ≤ 8) = (n ≤ 8):=by apply propext;omega
@[simp] theorem lt_8 (n:Nat):((8:Int) < n) = (8 < n):=by apply propext;omega
@[simp ↓] theorem dle_16 (n:Nat):decide ((n:Int) ≤ 16) = decide (n ≤ 16):=by rw [decide_eq_decide];omega
@[simp ↓] theorem dlt_16 (n:Nat):decide ((16:Int) < n) = decide (16 < n):=by rw [decide_eq_decide];omega
@[simp] theorem le_16 (n:Nat):((n:Int) ≤ 16) = (n ≤ 16):=by apply propext;omega
@[simp] theorem lt_16 (n:Nat):((16:Int) < n) = (16 < n):=by apply propext;omega
@[simp ↓] theorem dle_255 (n:Nat):decide ((n:Int) ≤ 255) = decide (n ≤ 255):=by rw [decide_eq_decide];omega
@[simp ↓] theorem dlt_255 (n:Nat):decide ((255:Int) < n) = decide (255 < n):=by rw [decide_eq_decide];omega
@[simp] theorem le_255 (n:Nat):((n:Int) ≤ 255) = (n ≤ 255):=by apply propext;omega
@[simp] theorem lt_255 (n:Nat):((255:Int) < n) = (255 < n):=by apply propext;omega
@[simp ↓] theorem dle_1048576 (n:Nat):decide ((n:Int) ≤ 1048576) = decide (n ≤ 1048576):=by rw [decide_eq_decide];omega
@[simp ↓] theorem dlt_1048576 (n:Nat):decide ((1048576:Int) < n) = decide (1048576 < n):=by rw [decide_eq_decide];omega
@[simp] theorem le_1048576 (n:Nat):((n:Int) ≤ 1048576) = (n ≤ 1048576):=by apply propext;omega
@[simp] theorem lt_1048576 (n:Nat):((1048576:Int) < n) = (1048576 < n):=by apply propext;omega
@[simp ↓] theorem dle_65535 (n:Nat):decide ((n:Int) ≤ 65535) = decide (n ≤ 65535):=by rw [decide_eq_decide];omega
@[simp ↓] theorem dlt_65535 (n:Nat):decide ((65535:Int) < n) = decide (65535 < n):=by rw [decide_eq_decide];omega
@[simp] theorem le_65535 (n:Nat):((n:Int) ≤ 65535) = (n ≤ 65535):=by apply propext;omega
@[simp] theorem lt_65535 (n:Nat):((65535:Int) < n) = (65535 < n):=by apply propext;omega
@[simp ↓] theorem dle_256 (n:Nat):decide ((n:Int) ≤ 256) = decide (n ≤ 256):=by rw [decide_eq_decide];omega
@[simp ↓] theorem dlt_256 (n:Nat):decide ((256:Int) < n) = decide (256 < n):=by rw [decide_eq_decide];omega
@[simp] theorem le_256 (n:Nat):((n:Int) ≤ 256) = (n ≤ 256):=by apply propext;omega
@[simp] theorem lt_256 (n:Nat):((256:Int) < n) = (256 < n):=by apply propext;omega
def be:Nat→Nat→BL
 | 0,_=>[]
 | k + 1,n=>UInt8.ofNat (n / 256 ^ k)::be k n
theorem be_length:∀ k n,(be k n).length = k
 | 0,_=>rfl
 | k + 1,n=>by simp [be,be_length k n]
def u8 (n:Int):UInt8:=UInt8.ofNat (n % 256).toNat
def u32 (n:Int):Nat:=(n % 4294967296).toNat
def u64 (n:Int):Nat:=(n % 18446744073709551616).toNat
def textB (b:BL):BL:=be 4 b.length++b
def num4 (n:Int):BL:=be 4 (u32 n)
def num8 (n:Int):BL:=be 8 (u64 n)
def canF (b:Nat):Nat:=if NumPlain.isN b then 9221120237041090561 else b
def encVal (v:Value):BL:=if v.kind = 1 then 1::textB (ls v.b) else if v.kind = 2 then 2::be 8 (canF v.n) else [0]
def encChg (c:Change):BL :=
 if (asks c.kind).2.2.2 then u8 c.kind::((if (asks c.kind).1 then textB c.col else [])++((if (asks c.kind).2.1 then num8 c.time else [])++(if (asks c.kind).2.2.1 then encVal c.v else []))) else [0]
def encCnd (c:Cond):BL:=if c.has then (if c.want then 2::(textB c.col++encVal c.v) else 1::textB c.col) else [0]
def encOpB (o:Op):BL:=u8 o.kind::(textB o.row++(if o.kind = 2 then encCnd o.cond++(u8 (ls o.l).length::(ls o.l).flatMap encChg) else if o.kind = 3 then textB o.hi++[u8 o.most] else []))
def encSpn (s:Span):BL:=textB s.lo++textB s.hi
end Wm
namespace Wm
open Go Go.Ab
def withinI (n lo hi:Int):Int:=if lo ≤ n∧n ≤ hi then n else lo + (if n.tmod (hi - lo + 1) < 0 then n.tmod (hi - lo + 1) + hi - lo + 1 else n.tmod (hi - lo + 1))
theorem withinI_bounds {n lo hi:Int} (h:lo ≤ hi):lo ≤ withinI n lo hi∧withinI n lo hi ≤ hi:=by
 unfold withinI
 split
 ·assumption
 ·have hd:0 < hi - lo + 1:=by omega
  have h1:=Int.tmod_lt_of_pos n hd
  have h2:-(hi - lo + 1) < n.tmod (hi - lo + 1):=by
   rcases Int.le_total 0 n with h | h
   ·have:=Int.tmod_nonneg (hi - lo + 1) h;omega
   ·have h3:=Int.tmod_lt_of_pos (-n) hd
    rw [Int.neg_tmod] at h3;omega
  split <;> omega
def m20 (n:Int):Int:=withinI n 0 1048576
theorem m20_bounds (n:Int):0 ≤ m20 n∧m20 n ≤ 1048576:=withinI_bounds (by omega)
def rowNames:List BL:=[[97],[98],[109],[110],[122],[109,97],[122,122],[48]]
def colNames:List BL:=[[120],[121],[119],[118],[108,111,110,103,46,110,97,109,101,46,49,54,46,98,121,116]]
def pickN (l:List BL) (n:Int):BL:=(l[(m20 n % l.length).toNat]?).getD []
def keepRow (n:Int):BL:=pickN rowNames n
def keepCol (n:Int):BL:=pickN colNames n
def cutB (o:Option BL) (n:Nat):Option BL:=if n < (ls o).length then some ((ls o).take n) else o
def kFloat (n:Int) (x:Nat):Nat :=
 let m:=m20 n % 9
 if m = 0 then 0 else if m = 1 then 9223372036854775808 else if m = 2 then 9218868437227405312 else if m = 3 then 18442240474082181120 else if m = 4 then 9221120237041090561
 else if m = 5 then 18444492273895866659 else if m = 6 then FloatKind.nearest .f64 (m20 n % 20 - 9) else x
def kValue (v:KV):Value:=if v.text then ⟨1,cutB v.b 16,0⟩ else ⟨2,none,kFloat v.n v.x⟩
def kChange (c:KC):Change :=
 let k:=1 + m20 c.kind % 5
 if k = 5 then ⟨5,keepCol c.col,withinI c.time 0 30,⟨2,none,kFloat c.v.n c.v.x⟩⟩
 else if k = 2 then ⟨2,keepCol c.col,withinI c.time 0 30,⟨0,none,0⟩⟩
 else if k = 3 then ⟨3,keepCol c.col,0,⟨0,none,0⟩⟩
 else if k = 4 then ⟨4,[],0,⟨0,none,0⟩⟩
 else ⟨k,keepCol c.col,withinI c.time 0 30,kValue c.v⟩
def kChanges (o:Option (List KC)):Option (List Change):=opt (((ls o).take 4).map kChange)
def noCond:Cond:=⟨false,false,[],⟨0,none,0⟩⟩
def kOp (o:KO):Op :=
 if m20 o.kind % 6 = 0 then ⟨1,keepRow o.row,[],noCond,none,0⟩
 else if m20 o.kind % 6 = 1 then
  let r:=if o.has then [] else keepRow o.row
  ⟨3,r,if Op.bytesLess r (keepRow o.hi) then keepRow o.hi else [],noCond,none,1 + m20 o.most % 16⟩
 else ⟨2,keepRow o.row,[],if o.has then ⟨true,o.want,keepCol o.col,if o.want then kValue o.v else ⟨0,none,0⟩⟩ else noCond,
  if ls (kChanges o.l) = [] then some [⟨5,[120],5,⟨2,none,4607182418800017408⟩⟩] else kChanges o.l,0⟩
@[simp] theorem less_nil (a:BL):Op.bytesLess a [] = false:=by cases a <;> rfl
@[simp] theorem nil_less (a:BL):Op.bytesLess [] a = !a.isEmpty:=by cases a <;> rfl
@[simp] theorem sl_none {α:Type} (s:Nat) (enc:α→List AS):sl s enc none = .nilslc:=rfl
end Wm
namespace Wm
open Go Go.Ab
theorem pickN_mem {l:List BL} (hl:l ≠ []) (n:Int):pickN l n ∈ l:=by
 unfold pickN
 have hp:0 < l.length:=List.length_pos_iff.2 hl
 have h0:=Int.emod_nonneg (m20 n) (show (l.length:Int) ≠ 0 by omega)
 have h1:=Int.emod_lt_of_pos (m20 n) (show (0:Int) < l.length by omega)
 have hk:(m20 n % l.length).toNat < l.length:=by omega
 rw [List.getElem?_eq_getElem hk,Option.getD_some]
 exact List.getElem_mem hk
theorem row_ok (n:Int):nameOk (keepRow n) = true:=by
 have h:∀ s ∈ rowNames,nameOk s = true:=by decide
 exact h _ (pickN_mem (by decide) n)
theorem col_ok (n:Int):nameOk (keepCol n) = true:=by
 have h:∀ s ∈ colNames,nameOk s = true:=by decide
 exact h _ (pickN_mem (by decide) n)
theorem name_len {s:BL} (h:nameOk s = true):s.length ≤ 16:=by
 unfold nameOk at h;simp only [Bool.and_eq_true,decide_eq_true_eq] at h;exact h.2
theorem cut_len (o:Option BL) (n:Nat):(ls (cutB o n)).length ≤ n:=by
 unfold cutB;split
 ·simp;omega
 ·omega
theorem value_ok (v:KV):valOk (kValue v) = true∧(ls (kValue v).b).length ≤ 16:=by
 unfold kValue
 have:=cut_len v.b 16
 split <;> simp [valOk,lenB,this]
theorem change_ok (c:KC):changeWhy (kChange c) = 0∧(kChange c).col.length ≤ 16∧(ls (kChange c).v.b).length ≤ 16:=by
 have hb:=m20_bounds c.kind
 have hc:=col_ok c.col
 have hl:=name_len hc
 have hv:=value_ok c.v
 have ht:=@withinI_bounds c.time 0 30 (by omega)
 obtain ⟨k,hk⟩:∃ k,1 + m20 c.kind % 5 = k:=⟨_,rfl⟩
 have hk5:k = 1 ∨ k = 2 ∨ k = 3 ∨ k = 4 ∨ k = 5:=by omega
 have e1:decide (withinI c.time 0 30 < 0) = false:=by simp;omega
 have e2:decide (1099511627776 < withinI c.time 0 30) = false:=by simp;omega
 have e3:valOk ⟨2,none,kFloat c.v.n c.v.x⟩ = true:=by simp [valOk]
 unfold kChange
 rcases hk5 with rfl | rfl | rfl | rfl | rfl <;> simp only [hk] <;> simp [changeWhy,asks,hc,hl,hv,e1,e2,e3]
theorem changes_ok (o:Option (List KC)):(∀ c ∈ ls (kChanges o),changeWhy c = 0∧c.col.length ≤ 16∧(ls c.v.b).length ≤ 16)∧(ls (kChanges o)).length ≤ 4:=by
 unfold kChanges
 rw [ls_opt]
 refine ⟨fun c hc=>?_,by simp;omega⟩
 obtain ⟨x,_,rfl⟩:=List.mem_map.1 hc
 exact change_ok x
structure OpIs (o:Op):Prop where
 ok:opOk o = true
 row:o.row.length ≤ 16
 hi:o.hi.length ≤ 16
 col:o.cond.col.length ≤ 16
 cv:(ls o.cond.v.b).length ≤ 16
 l:∀ c ∈ ls o.l,c.col.length ≤ 16∧(ls c.v.b).length ≤ 16
 n:(ls o.l).length ≤ 4
theorem if_len {p:Prop} [Decidable p] {s t:BL} (hs:s.length ≤ 16) (ht:t.length ≤ 16):(if p then s else t).length ≤ 16:=by split <;> assumption
theorem kOp_is (o:KO):OpIs (kOp o):=by
 have hr:=row_ok o.row
 have hh:=row_ok o.hi
 have hc:=col_ok o.col
 have hv:=value_ok o.v
 have hb:=m20_bounds o.most
 obtain ⟨h1,h2⟩:=changes_ok o.l
 unfold kOp
 split
 ·exact ⟨by simp [opOk,hr],name_len hr,by simp,by simp [noCond],by simp [noCond],by simp,by simp⟩
 split
 ·have hl:(if o.has then [] else keepRow o.row:BL).length ≤ 16:=if_len (by simp) (name_len hr)
  have hl2:(if Op.bytesLess (if o.has then [] else keepRow o.row) (keepRow o.hi) then keepRow o.hi else []:BL).length ≤ 16:=if_len (name_len hh) (by simp)
  refine ⟨?_,hl,hl2,by simp [noCond],by simp [noCond],by simp,by simp⟩
  have h3:decide (1 ≤ 1 + m20 o.most % 16) = true:=by simp;omega
  have h4:decide (1 + m20 o.most % 16 ≤ 16) = true:=by simp;omega
  simp only [opOk,spanOk,blt]
  simp only [hl,hl2,h3,h4,decide_true,Bool.true_and,Bool.and_true]
  by_cases hq:Op.bytesLess (if o.has then [] else keepRow o.row) (keepRow o.hi) = true
  ·simp [hq]
  ·simp [hq]
 ·have hcl:(∀ c ∈ ls (if ls (kChanges o.l) = [] then some [⟨5,[120],5,⟨2,none,4607182418800017408⟩⟩] else kChanges o.l:Option (List Change)),changeWhy c = 0∧c.col.length ≤ 16∧(ls c.v.b).length ≤ 16)∧0 < (ls (if ls (kChanges o.l) = [] then some [⟨5,[120],5,⟨2,none,4607182418800017408⟩⟩] else kChanges o.l:Option (List Change))).length∧(ls (if ls (kChanges o.l) = [] then some [⟨5,[120],5,⟨2,none,4607182418800017408⟩⟩] else kChanges o.l:Option (List Change))).length ≤ 4:=by
   split
   ·refine ⟨fun c hc=>?_,by simp,by simp⟩
    simp at hc;subst hc
    simp [changeWhy,asks,nameOk,valOk]
   ·rename_i hne
    exact ⟨h1,List.length_pos_iff.2 hne,h2⟩
  obtain ⟨g1,g2,g3⟩:=hcl
  have hcd:∀ cd:Cond,cd = (if o.has then ⟨true,o.want,keepCol o.col,if o.want then kValue o.v else ⟨0,none,0⟩⟩ else noCond)→condOk cd = true∧cd.col.length ≤ 16∧(ls cd.v.b).length ≤ 16:=by
   rintro cd rfl
   have hl:=name_len hc
   by_cases q1:o.has = true <;> by_cases q2:o.want = true <;> simp [q1,q2,condOk,noCond,hc,hl,hv]
  obtain ⟨c1,c2,c3⟩:=hcd _ rfl
  refine ⟨?_,name_len hr,by simp,c2,c3,fun c hc=>(g1 c hc).2,g3⟩
  have g4:(ls (if ls (kChanges o.l) = [] then some [⟨5,[120],5,⟨2,none,4607182418800017408⟩⟩] else kChanges o.l:Option (List Change))).all (fun c=>changeWhy c == 0) = true:=by
   rw [List.all_eq_true];intro c hc;simp [(g1 c hc).1]
  simp only [opOk,hr,c1,g4,g2,decide_true,Bool.true_and,Bool.and_true]
  simp;omega
theorem encVal_len (v:Value):(encVal v).length ≤ 9 + (ls v.b).length:=by
 unfold encVal textB;split
 ·simp [be_length];omega
 split
 ·simp [be_length]
 ·simp;omega
theorem encChg_len {c:Change} (h:c.col.length ≤ 16∧(ls c.v.b).length ≤ 16):(encChg c).length ≤ 60:=by
 have hv:=encVal_len c.v
 unfold encChg textB num8
 split
 ·simp only [List.length_cons,List.length_append]
  split <;> split <;> split <;> simp [be_length] <;> omega
 ·simp
theorem encCnd_len {c:Cond} (h:c.col.length ≤ 16) (h2:(ls c.v.b).length ≤ 16):(encCnd c).length ≤ 60:=by
 have hv:=encVal_len c.v
 unfold encCnd textB
 split
 ·split <;> simp [be_length] <;> omega
 ·simp
theorem flat_len {l:List Change} (h:∀ c ∈ l,c.col.length ≤ 16∧(ls c.v.b).length ≤ 16):(l.flatMap encChg).length ≤ 60 * l.length:=by
 induction l with
 | nil=>simp
 | cons a l ih =>
  have h1:=encChg_len (h a (by simp))
  have h2:=ih fun c hc=>h c (by simp [hc])
  simp only [List.flatMap_cons,List.length_append,List.length_cons];omega
theorem encOp_len {o:Op} (h:OpIs o):(encOpB o).length ≤ 1000:=by
 have h1:=h.row
 have h2:=h.hi
 have h3:=encCnd_len h.col h.cv
 have h4:=flat_len h.l
 have h5:=h.n
 unfold encOpB textB
 simp only [List.length_cons,List.length_append,be_length]
 split
 ·simp only [List.length_append,List.length_cons];omega
 split
 ·simp only [List.length_append,List.length_cons,List.length_nil,be_length];omega
 ·simp;omega
end Wm
namespace Wm
open Go Go.Ab NumPlain
theorem ofInt_nat (n m:Nat):BitVec.ofInt n (m:Int) = BitVec.ofNat n m:=by apply BitVec.eq_of_toNat_eq;simp [BitVec.toNat_ofInt]
theorem wrap_nat {n:Nat} (h:n < 2 ^ 64):IntKind.u64.wrap (n:Int) = n:=by
 have:((n:Int) % (2:Int) ^ 64) = n:=Int.emod_eq_of_lt (by omega) (by omega)
 show (n:Int) % (2:Int) ^ 64 = n
 exact this
theorem and_u {a b:Nat} (ha:a < 2 ^ 64) (hb:b < 2 ^ 64):andI .u64 a b = (a &&& b:Nat):=by
 unfold andI
 have e:(BitVec.ofInt IntKind.u64.bits (a:Int) &&& BitVec.ofInt IntKind.u64.bits (b:Int)).toNat = a &&& b:=by
  show (BitVec.ofInt 64 (a:Int) &&& BitVec.ofInt 64 (b:Int)).toNat = a &&& b
  rw [ofInt_nat,ofInt_nat,BitVec.toNat_and,BitVec.toNat_ofNat,BitVec.toNat_ofNat,Nat.mod_eq_of_lt ha,Nat.mod_eq_of_lt hb]
 rw [e];exact wrap_nat (Nat.lt_of_le_of_lt Nat.and_le_left ha)
theorem and_inf (b:Nat):b &&& 9218868437227405312 = (b / 4503599627370496 % 2048) * 4503599627370496:=by
 have h1:(9218868437227405312:Nat) = 2047 <<< 52:=by decide
 have h2:b / 4503599627370496 % 2048 = (b >>> 52) &&& 2047:=by
  rw [Nat.shiftRight_eq_div_pow]
  have:=Nat.and_two_pow_sub_one_eq_mod (b / 2 ^ 52) 11
  exact this.symm
 have h3:((b >>> 52) &&& 2047) * 4503599627370496 = ((b >>> 52) &&& 2047) <<< 52:=by rw [Nat.shiftLeft_eq]
 rw [h1,h2,h3]
 apply Nat.eq_of_testBit_eq
 intro i
 simp only [Nat.testBit_and,Nat.testBit_shiftLeft,Nat.testBit_shiftRight]
 by_cases hi:52 ≤ i
 ·have:52 + (i - 52) = i:=by omega
  simp [hi,this]
 ·simp [hi]
theorem and_low (b:Nat):b &&& 4503599627370495 = b % 4503599627370496:=Nat.and_two_pow_sub_one_eq_mod b 52
theorem ref_inf {b:Nat} (hb:b < 2 ^ 64):(andI .u64 b 9218868437227405312 == 9218868437227405312) = decide (INF ≤ rung b):=by
 have:=and_u hb (show 9218868437227405312 < 2 ^ 64 by decide)
 simp only [Int.cast_ofNat_Int] at this
 rw [this,and_inf]
 have hI:INF = 9218868437227405312:=rfl
 have hr:rung b = b % 9223372036854775808:=rfl
 by_cases h:INF ≤ rung b
 ·simp only [h,decide_true,beq_iff_eq];rw [hI,hr] at h;omega
 ·simp only [h,decide_false];rw [hI,hr] at h
  simp;omega
theorem ref_low {b:Nat} (hb:b < 2 ^ 64):(andI .u64 b 4503599627370495 != 0) = decide (b % 4503599627370496 ≠ 0):=by
 have:=and_u hb (show 4503599627370495 < 2 ^ 64 by decide)
 simp only [Int.cast_ofNat_Int] at this
 rw [this,and_low]
 by_cases h:b % 4503599627370496 = 0
 ·simp [h]
 ·simp [h];omega
theorem isN_iff (b:Nat):isN b = (decide (INF ≤ rung b) && decide (b % 4503599627370496 ≠ 0)):=by
 unfold isN
 have hI:INF = 9218868437227405312:=rfl
 have hr:rung b = b % 9223372036854775808:=rfl
 rw [hI,hr]
 by_cases h:9218868437227405312 < b % 9223372036854775808
 ·have h1:9218868437227405312 ≤ b % 9223372036854775808:=by omega
  have h2:¬ b % 4503599627370496 = 0:=by omega
  simp [h,h1,h2]
 ·by_cases h1:9218868437227405312 ≤ b % 9223372036854775808
  ·have h2:b % 4503599627370496 = 0:=by omega
   simp [h,h2]
  ·simp [h,h1]
end Wm
namespace Wm
open Go Go.Ab
def numB (l:BL):Nat:=l.foldl (fun a b=>a * 256 + b.toNat) 0
@[simp] theorem numB_nil:numB [] = 0:=rfl
theorem numB_snoc (l:BL) (b:UInt8):numB (l++[b]) = numB l * 256 + b.toNat:=by simp [numB,List.foldl_append]
theorem numB_one (b:UInt8):numB [b] = b.toNat:=by simp [numB]
theorem fold_lt (l:BL):∀ (a n:Nat),a < 256 ^ n→l.foldl (fun a b=>a * 256 + b.toNat) a < 256 ^ (n + l.length):=by
 induction l with
 | nil=>intro a n h;simpa using h
 | cons b l ih =>
  intro a n h
  simp only [List.foldl_cons,List.length_cons]
  have hb:b.toNat < 256:=b.toNat_lt
  have h2:a * 256 + b.toNat < 256 ^ (n + 1):=by rw [Nat.pow_succ];omega
  have:=ih _ _ h2
  rwa [show n + 1 + l.length = n + (l.length + 1) by omega] at this
theorem numB_lt (l:BL):numB l < 256 ^ l.length:=by
 have:=fold_lt l 0 0 (by simp)
 simpa [numB] using this
end Wm
namespace Go.Ab
open Wm
section
variable (P:Program) (cmp:Nat→Option (List AS)) (fr:Fr) (h:H) (d:Option Nat) (ty:TypeId) (pos:String) (af:Array Edge) (g:Option (Nat × Bool))
def ifcA (u:TypeDesc) (t:TypeId) (a:AS) (h:H):Option OR:=match u with | .interface _=>none | _=>some (.val (.one (.ifc t a)) h)
@[simp] theorem ifcA_ptr (e t:TypeId) (a:AS):ifcA (.pointer e) t a h = some (.val (.one (.ifc t a)) h):=rfl
@[simp] theorem sop_makeInterface (t:TypeId) (x:Operand):opA P cmp fr h ⟨d,.makeInterface t x,ty,pos,af,g⟩ = (evS fr x).bind fun a=>(P.underlying t).bind fun u=>ifcA u t a h:=by
 simp only [opA,oqE]
 congr 1
def panA (a:AS) (h:H):Option OR:=match a with | .ifc t v=>some (.pan (.ifc t v) h) | _=>none
@[simp] theorem panA_ifc (t:Nat) (v:AS):panA (.ifc t v) h = some (.pan (.ifc t v) h):=rfl
@[simp] theorem sop_panic (x:Operand):opA P cmp fr h ⟨d,.panic x,ty,pos,af,g⟩ = (evS fr x).bind fun a=>panA a h:=by
 simp only [opA,oqE]
 congr 1
end
abbrev rdB (o:Option BL):Blk:=⟨0,[1],true,[bs o]⟩
structure RS (h0 h:H) (q:Nat) (o:Option BL) (kept:List (Nat × Blk)):Prop where
 lt:q < h0.next
 rd:h.f q = some (rdB o)
 room:(ls o).length ≤ 1099511627776
 next:h0.next ≤ h.next
 same:∀ b,b < h0.next→b ≠ q→h.f b = h0.f b
 kp:keptP h kept
 ok:∀ e ∈ kept,e.1 < h.next∧e.1 ≠ q
 dis:kept.Pairwise fun a b=>a.1 ≠ b.1
theorem RS.start {h:H} {q:Nat} {o:Option BL} (hq:q < h.next) (hf:h.f q = some (rdB o)) (hl:(ls o).length ≤ 1099511627776):RS h h q o []:=⟨hq,hf,hl,Nat.le_refl _,fun _ _ _=>rfl,trivial,by simp,.nil⟩
theorem RS.new {h0 h:H} {q:Nat} {o:Option BL} {kept:List (Nat × Blk)} (w:RS h0 h q o kept) (k:Blk):RS h0 (h.new k) q o ((h.next,k)::kept) where
 lt:=w.lt
 rd:=by rw [new_at,if_neg (by have:=w.lt;have:=w.next;omega)];exact w.rd
 room:=w.room
 next:=Nat.le_trans w.next (by simp)
 same b hb hq:=by rw [new_at,if_neg (by have:=w.next;omega)];exact w.same b hb hq
 kp:=⟨by simp,keptP_same (fun e he=>by rw [new_at,if_neg (by have:=(w.ok e he).1;omega)]) w.kp⟩
 ok e he:=by
  rcases List.mem_cons.1 he with rfl | he
  ·have:=w.lt;have:=w.next;exact ⟨by simp,by simp only;omega⟩
  ·have:=w.ok e he;exact ⟨by simp only [new_next];omega,this.2⟩
 dis:=.cons (fun e he=>by have:=(w.ok e he).1;simp only;omega) w.dis
theorem RS.drop {h0 h:H} {q:Nat} {o:Option BL} {kept:List (Nat × Blk)} (w:RS h0 h q o kept):RS h0 h q o []:=⟨w.lt,w.rd,w.room,w.next,w.same,trivial,by simp,.nil⟩
theorem RS.trans {h0 h h':H} {q:Nat} {o o':Option BL} {kept:List (Nat × Blk)} (w:RS h0 h q o kept) (v:RS h h' q o' []):RS h0 h' q o' kept where
 lt:=w.lt
 rd:=v.rd
 room:=v.room
 next:=Nat.le_trans w.next v.next
 same b hb hq:=by rw [v.same b (Nat.lt_of_lt_of_le hb w.next) hq,w.same b hb hq]
 kp:=keptP_same (fun e he=>v.same _ (w.ok e he).1 (w.ok e he).2) w.kp
 ok e he:=⟨Nat.lt_of_lt_of_le (w.ok e he).1 v.next,(w.ok e he).2⟩
 dis:=w.dis
def apart1 (x:Nat):List (Nat × Blk)→Prop
 | []=>True
 | e::l=>(¬ x = e.1∧¬ e.1 = x)∧apart1 x l
def apartP:List (Nat × Blk)→Prop
 | []=>True
 | e::l=>apart1 e.1 l∧apartP l
theorem apart1_of {x:Nat}:∀ {l:List (Nat × Blk)},(∀ e ∈ l,x ≠ e.1)→apart1 x l
 | [],_=>trivial
 | e::l,h=>⟨⟨h e (by simp),Ne.symm (h e (by simp))⟩,apart1_of fun a ha=>h a (by simp [ha])⟩
theorem apartP_of:∀ {l:List (Nat × Blk)},l.Pairwise (fun a b=>a.1 ≠ b.1)→apartP l
 | [],_=>trivial
 | e::l,h=>⟨apart1_of (List.pairwise_cons.1 h).1,apartP_of (List.pairwise_cons.1 h).2⟩
def factsP (h:H) (q:Nat) (kept:List (Nat × Blk)):Prop:=keptP h kept∧apart1 h.next kept∧apart1 q kept∧apartP kept
theorem RS.facts {h0 h:H} {q:Nat} {o:Option BL} {kept:List (Nat × Blk)} (w:RS h0 h q o kept):factsP h q kept :=
 ⟨w.kp,apart1_of fun e he=>by have:=(w.ok e he).1;omega,apart1_of fun e he=>Ne.symm (w.ok e he).2,apartP_of w.dis⟩
end Go.Ab
