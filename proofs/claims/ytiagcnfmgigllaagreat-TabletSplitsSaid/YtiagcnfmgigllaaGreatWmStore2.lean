/- A part of a proof over the abstract machine. No conditions. -/
import Derived.Test.YtiagcnfmgigllaaGreatT11
import Derived.Test.YtiagcnfmgigllaaGreatAb5
import Derived.Test.YtiagcnfmgigllaaGreatT37
set_option linter.unusedSimpArgs false
set_option linter.unnecessarySimpa false
set_option linter.unusedVariables false
namespace Wm
open Go Go.Ab
theorem encVal_ok {v:Value} (h:valOk v = true):(encVal v).length ≤ 21:=by
 unfold valOk at h
 unfold encVal
 split
 ·rename_i h1
  simp only [h1,lenB] at h
  simp at h
  simp [textB,be_length];omega
 ·split
  ·simp [be_length]
  ·simp
theorem sum_le {α:Type} {f:α→BL} {n:Nat}:∀ {l:List α},(∀ x ∈ l,(f x).length ≤ n)→(l.flatMap f).length ≤ n * l.length
 | [],_=>by simp
 | a::l,h=>by
  have:=sum_le (l:=l) (fun x hx=>h x (by simp [hx]))
  have h1:=h a (by simp)
  simp only [List.flatMap_cons,List.length_append,List.length_cons]
  rw [Nat.mul_add];omega
theorem colBy_len {c:Column} (h:colB c = true):(colBy c).length ≤ 100:=by
 simp only [colB,Bool.and_eq_true,decide_eq_true_eq,List.all_eq_true] at h
 have hv:((ls c.l).flatMap verBy).length ≤ 29 * (ls c.l).length:=sum_le fun x hx=>by
  have:=h.2.1 x hx
  simp only [verB,Bool.and_eq_true] at this
  have:=encVal_ok this.2.2
  simp [verBy,num8,be_length];omega
 have hn:=name_len h.1.1
 have h2:=h.1.2.2
 simp only [colBy,textB,List.length_append,be_length,List.length_cons]
 omega
theorem rowBy_len (o:Row):(rowBy o).length ≤ 401:=by
 have h:=rowCopy_ok o
 unfold rowBy colsBy
 generalize rowCopy o = r at *
 simp only [rowB,Bool.and_eq_true,decide_eq_true_eq,List.all_eq_true] at h
 have:=sum_le (f:=colBy) (n:=100) (l:=ls r) fun c hc=>colBy_len (h.1.1 c hc)
 simp only [List.length_cons];omega
theorem namedBy_len {x:Named} (h:nameOk x.name = true):(namedBy x).length ≤ 421:=by
 have:=rowBy_len x.r
 have:=name_len h
 simp only [namedBy,textB,List.length_append,be_length];omega
theorem code_ok {n:Int} (h:n = 0 ∨ n = 1 ∨ n = 3 ∨ n = 13 ∨ n = 24 ∨ n = 25):inTo n 255 = true:=by
 rcases h with rfl | rfl | rfl | rfl | rfl | rfl <;> rfl
theorem put_code (o:Row) (n:BL) (t:Int) (v:Value):(rowPut o n t v).2 = 0 ∨ (rowPut o n t v).2 = 1 ∨ (rowPut o n t v).2 = 13:=by
 unfold rowPut
 split
 ·simp
 ·dsimp only
  split <;> simp
theorem one_code (o:Row) (c:Change):(chgOne o c).2 = 0 ∨ (chgOne o c).2 = 1 ∨ (chgOne o c).2 = 13 ∨ (chgOne o c).2 = 24:=by
 unfold chgOne
 split
 ·have:=put_code o c.col c.time c.v;omega
 split
 ·simp
 split
 ·simp
 split
 ·simp
 dsimp only
 generalize (if (newest o c.col).2 = true then (newest o c.col).1 else ⟨2,none,9223372036854775808⟩:Value) = w
 by_cases hp:(valPlus w c.v).2 = 0
 ·rw [if_pos hp]
  have:=put_code o c.col c.time (valPlus w c.v).1
  omega
 ·rw [if_neg hp]
  dsimp only
  unfold valPlus at hp ⊢
  split
  ·rename_i h2
   rw [if_pos h2] at hp;exact absurd rfl hp
  ·simp
theorem all_code:∀ (l:List Change) (o:Row),(chgAll o l).2 = 0 ∨ (chgAll o l).2 = 1 ∨ (chgAll o l).2 = 13 ∨ (chgAll o l).2 = 24
 | [],o=>by simp [chgAll]
 | c::l,o=>by
  simp only [chgAll]
  split
  ·exact all_code l _
  ·have:=one_code o c;simpa using this
theorem why_code (c:Change):changeWhy c = 0 ∨ changeWhy c = 1 ∨ changeWhy c = 24:=by
 unfold changeWhy
 dsimp only
 split
 ·simp
 split
 ·simp
 split
 ·simp
 ·simp
theorem apply_code (o:Row) (l:List Change):(apply o l).2 = 0 ∨ (apply o l).2 = 1 ∨ (apply o l).2 = 3 ∨ (apply o l).2 = 13 ∨ (apply o l).2 = 24:=by
 unfold apply
 split
 ·simp
 cases l.find? fun c=>changeWhy c != 0 with
 | none=>have:=all_code l (rowCopy o);simp only [applyGo];omega
 | some c=>have:=why_code c;simp only [applyGo];omega
theorem set_code (l:List Named) (n:BL) (r:Row):(tset l n r).2 = 0 ∨ (tset l n r).2 = 1 ∨ (tset l n r).2 = 13:=by
 unfold tset
 split
 ·simp
 split
 ·simp
 split
 ·simp
 split <;> simp
theorem mut_code (l:List Named) (o:Op):inTo (mutT l o).2 255 = true:=by
 apply code_ok
 unfold mutT
 dsimp only
 split
 ·simp
 split
 ·have:=set_code l o.row (apply (tfind l o.row).1 (ls o.l)).1;omega
 ·have:=apply_code (tfind l o.row).1 (ls o.l);dsimp only;omega
theorem mut_ok {l:List Named} (ok:TblOk l) (o:Op):TblOk (mutT l o).1:=by
 unfold mutT
 dsimp only
 split
 ·exact ok
 split
 ·exact tset_ok ok _ _
 ·exact ok
theorem op_ok {l:List Named} (ok:TblOk l) (sp:Span) (o:Op):TblOk (opT sp l o).2:=by
 unfold opT
 split
 ·exact ok
 split
 ·exact mut_ok ok o
 ·exact ok
theorem range_mem {l:List Named} {lo hi:BL} {m:Int}:(∀ x ∈ (trange l lo hi m).1,x ∈ l)∧(trange l lo hi m).1.length ≤ 16:=by
 unfold trange
 dsimp only
 have hm:(max 0 (min m 16)).toNat ≤ 16:=by omega
 generalize (if hi = [] then l.length else tix l hi) = e
 split
 ·simp
 split
 ·rename_i h
  exact ⟨fun x hx=>List.mem_of_mem_take (List.mem_of_mem_drop hx),by dsimp only;omega⟩
 ·exact ⟨fun x hx=>List.mem_of_mem_take (List.mem_of_mem_drop (List.mem_of_mem_take hx)),by simp;omega⟩
theorem range_next {l:List Named} (ok:TblOk l) {lo hi:BL} {m:Int} (h1:1 ≤ m) (hn:(trange l lo hi m).2 ≠ []):nameOk (trange l lo hi m).2 = true∧blt lo (trange l lo hi m).2 = true:=by
 unfold trange at hn ⊢
 dsimp only at hn ⊢
 have hm:1 ≤ (max 0 (min m 16)).toNat:=by omega
 generalize (max 0 (min m 16)).toNat = M at *
 generalize he:(if hi = [] then l.length else tix l hi) = e at *
 have hel:e ≤ l.length:=by rw [← he];split;exact Nat.le_refl _;exact tix_le _ _
 split at hn
 ·simp at hn
 rename_i hc
 rw [if_neg hc]
 split at hn
 ·simp at hn
 rename_i hc2
 rw [if_neg hc2]
 have hM:M < ((l.take e).drop (tix l lo)).length:=by omega
 simp only [List.getElem?_eq_getElem hM]
 have hM2:tix l lo + M < l.length:=by simp at hM;omega
 have hx:((l.take e).drop (tix l lo))[M] = l[tix l lo + M]:=by simp
 rw [hx]
 refine ⟨ok.nm _ (List.getElem_mem _), ?_⟩
 have h0:=tix_lt ok.srt lo (tix l lo) (by omega)
 have h3:nmLt l[tix l lo] l[tix l lo + M] = true:=(chain_iff nm_trans).1 ok.srt _ _ (by omega) hM2
 have h4:¬ cmpL l[tix l lo].name lo < 0:=fun e=>by have:=h0.2 e;omega
 rw [cmpL_lt] at h4
 simp only [nmLt] at h3
 cases hb:blt lo l[tix l lo + M].name with
 | true=>rfl
 | false =>
  exfalso
  apply h4
  have h5:blt l[tix l lo + M].name lo = true ∨ l[tix l lo + M].name = lo:=by
   cases hc:blt l[tix l lo + M].name lo with
   | true=>exact .inl rfl
   | false=>exact .inr (less_total hc hb)
  rcases h5 with h5 | h5
  ·exact blt_trans _ _ _ h3 h5
  ·rw [h5] at h3;exact h3
theorem ans_ok {l:List Named} (ok:TblOk l) {sp:Span} (os:spanOk sp = true) {o:Op} (oo:opOk o = true) (hi:hasName sp o.row = true):ansOk (opT sp l o).1 = true∧(∀ x ∈ ls (opT sp l o).1.rows,(ls x.r).length ≤ 4∧nameOk x.name = true)∧(ls (opT sp l o).1.rows).length ≤ 16:=by
 have hz:spanOk ⟨[],[]⟩ = true:=rfl
 have hno:∀ n,inTo n 255 = true→ansOk (noA n) = true:=fun n h=>by
  simp only [ansOk,noA,h];rfl
 have rw4:∀ x ∈ l,rowB x.r = true:=fun x hx=>by have:=rowCopy_ok x.r;rwa [(ok.row x hx).1] at this
 have len4:∀ r:Row,rowB r = true→(ls r).length ≤ 4:=fun r h=>by simp only [rowB,Bool.and_eq_true,decide_eq_true_eq] at h;exact h.2
 unfold opT
 unfold opOk at oo
 split at oo
 ·rename_i k1
  rw [if_pos k1]
  split
  ·have hr:rowB (tfind l o.row).1 = true:=by
    unfold tfind
    split
    ·exact rowCopy_ok _
    ·rfl
   refine ⟨?_,fun x hx=>?_,by simp⟩
   ·simp only [ansOk,ls_some,List.all_cons,List.all_nil,oo,hr,hz];rfl
   ·simp at hx;subst hx;exact ⟨len4 _ hr,oo⟩
  ·exact ⟨hno 0 rfl,by simp [noA],by simp [noA]⟩
 split at oo
 ·rename_i k1 k2
  rw [if_neg k1,if_pos k2]
  exact ⟨hno _ (mut_code l o),by simp [noA],by simp [noA]⟩
 split at oo
 ·rename_i k1 k2 k3
  rw [if_neg k1,if_neg k2]
  simp only [Bool.and_eq_true,decide_eq_true_eq] at oo
  obtain ⟨o1,o2,o3⟩:=oo
  obtain ⟨m1,m2⟩:=range_mem (l:=l) (lo:=o.row) (hi:=hiT sp o.hi) (m:=o.most)
  have hsp:spanOk ⟨o.row,if (trange l o.row (hiT sp o.hi) o.most).2 = [] then hiT sp o.hi else (trange l o.row (hiT sp o.hi) o.most).2⟩ = true:=by
   simp only [spanOk,Bool.and_eq_true,decide_eq_true_eq] at o1 os ⊢
   split
   ·unfold hiT
    split
    ·exact o1
    ·refine ⟨⟨o1.1.1,os.1.2⟩, ?_⟩
     simp only [hasName,Bool.and_eq_true] at hi
     exact hi.2
   ·rename_i hn
    obtain ⟨g1,g2⟩:=range_next ok o2 hn
    exact ⟨⟨o1.1.1,name_len g1⟩,by rw [g2];simp⟩
  refine ⟨?_,fun x hx=>?_,by simpa using m2⟩
  ·have hall:((trange l o.row (hiT sp o.hi) o.most).1.all fun x=>nameOk x.name && rowB x.r) = true:=List.all_eq_true.2 fun x hx=>by rw [ok.nm x (m1 x hx),rw4 x (m1 x hx)];rfl
   simp only [ansOk,ls_nz,hall,hsp,decide_eq_true m2];rfl
  ·simp only [ls_nz] at hx
   exact ⟨len4 _ (rw4 x (m1 x hx)),ok.nm x (m1 x hx)⟩
 ·cases oo
theorem ans_len {l:List Named} (ok:TblOk l) {sp:Span} (os:spanOk sp = true) {o:Op} (oo:opOk o = true) (hi:hasName sp o.row = true):((ls (opT sp l o).1.rows).flatMap namedBy).length ≤ 6736∧(ansB (opT sp l o).1).length ≤ 1100000:=by
 obtain ⟨h1,h2,h3⟩:=ans_ok ok os oo hi
 have h4:=sum_le (f:=namedBy) (n:=421) (l:=ls (opT sp l o).1.rows) fun x hx=>namedBy_len (h2 x hx).2
 refine ⟨by omega, ?_⟩
 simp only [ansOk,spanOk,Bool.and_eq_true,decide_eq_true_eq] at h1
 obtain ⟨_,_,_,_,⟨⟨o1,o2⟩,_⟩,o3,o4⟩:=h1
 simp only [lenB] at o4
 simp only [ansB,encSpn,textB,num4,be_length,List.length_append,List.length_cons];omega
theorem look_new {l:List Tld} {c s:Int} (h1:1 ≤ s) (h:∀ x ∈ l,x.client = c→x.seq < s):lookT l c s = (none,1):=by
 unfold lookT
 dsimp only
 cases hT:cat_ l c with
 | false=>simp;omega
 | true =>
  obtain ⟨hi,hc⟩:=cat_inv hT
  have:=h _ (List.getElem_mem hi) hc
  simp only [List.getElem?_eq_getElem hi,Option.getD_some]
  rw [if_neg (by simp;omega),if_neg (by simp;omega)]
theorem keep_mem {l:List Tld} {c s:Int} {b:Option BL}:∀ x ∈ (keepT l c s b).1,x ∈ l ∨ x = ⟨c,s,b⟩:=by
 intro x hx
 unfold keepT at hx
 split at hx
 ·exact .inl hx
 split at hx
 ·exact List.mem_or_eq_of_mem_set hx
 ·rw [insIdx (cix_le _ _)] at hx
  rcases List.mem_append.1 hx with h | h
  ·exact .inl (List.mem_of_mem_take h)
  ·rcases List.mem_cons.1 h with h | h
   ·exact .inr h
   ·exact .inl (List.mem_of_mem_drop h)
def contig:BL→List TabD→Prop
 | _,[]=>False
 | lo,[t]=>t.span = ⟨lo,[]⟩
 | lo,t::u::ts=>t.span.lo = lo∧t.span.hi ≠ []∧contig t.span.hi (u::ts)
structure SpT (t:TabD):Prop where
 sp:spanOk t.span = true
 fr:t.fr = false
 rows:TblOk t.rows
 cache:CchOk t.cache
 inn:∀ x ∈ t.rows,hasName t.span x.name = true
structure SpI (ts:List TabD) (R:List Named):Prop where
 con:contig [] ts
 ok:∀ t ∈ ts,SpT t
 rows:ts.flatMap (·.rows) = R
 tbl:TblOk R
theorem contig_lo:∀ {lo:BL} {t:TabD} {ts:List TabD},contig lo (t::ts)→t.span.lo = lo
 | lo,t,[],h=>by have:t.span = ⟨lo,[]⟩:=h;rw [this]
 | lo,t,u::ts,h=>h.1
theorem contig_hi {lo:BL} {t u:TabD} {ts:List TabD} (h:contig lo (t::u::ts)):t.span.hi = u.span.lo:=(contig_lo h.2.2).symm
theorem sp_lt {t:TabD} (h:SpT t) (hh:t.span.hi ≠ []):blt t.span.lo t.span.hi = true:=by
 have:=h.sp
 simp only [spanOk,Bool.and_eq_true,Bool.or_eq_true,beq_iff_eq] at this
 rcases this.2 with e | e
 ·exact absurd e hh
 ·exact e
theorem tlt_trans (a b c:TabD) (h1:tlt a b = true) (h2:tlt b c = true):tlt a c = true:=blt_trans _ _ _ h1 h2
theorem contig_chain:∀ {lo:BL} {ts:List TabD},contig lo ts→(∀ t ∈ ts,SpT t)→chain tlt ts = true
 | _,[],h,_=>h.elim
 | _,[_],_,_=>rfl
 | lo,t::u::ts,h,ok=>by
  simp only [chain,Bool.and_eq_true]
  refine ⟨?_,contig_chain h.2.2 fun x hx=>ok x (by simp [hx])⟩
  have:=sp_lt (ok t (by simp)) h.2.1
  rw [contig_hi h] at this;exact this
theorem contig_app:∀ {lo:BL} {l1:List TabD} {t:TabD} {l2:List TabD},contig lo (l1++t::l2) ↔ contig t.span.lo (t::l2)∧(match l1 with | []=>t.span.lo = lo | _=>contig lo (l1++[⟨⟨t.span.lo,[]⟩,0,false,[],[]⟩]))
 | lo,[],t,l2=>by
  simp only [List.nil_append]
  constructor
  ·intro h
   have:=contig_lo h
   subst this;exact ⟨h,rfl⟩
  ·rintro ⟨h,rfl⟩;exact h
 | lo,[a],t,l2=>by
  simp only [List.cons_append,List.nil_append,contig]
  constructor
  ·rintro ⟨h1,h2,h3⟩
   have:=contig_lo h3
   rw [this]
   exact ⟨h3,h1,h2,rfl⟩
  ·rintro ⟨h3,h1,h2,h4⟩
   simp only [Span.mk.injEq,and_true] at h4
   rw [h4] at h3;exact ⟨h1,h2,h3⟩
 | lo,a::b::l1,t,l2=>by
  have ih:=contig_app (lo:=a.span.hi) (l1:=b::l1) (t:=t) (l2:=l2)
  simp only [List.cons_append,contig] at ih ⊢
  rw [ih]
  constructor
  ·rintro ⟨h1,h2,h3,h4⟩;exact ⟨h3,h1,h2,h4⟩
  ·rintro ⟨h3,h1,h2,h4⟩;exact ⟨h1,h2,h3,h4⟩
theorem tbl_mid {A B C:List Named} (h:TblOk (A++(B++C))):TblOk B:=by
 refine ⟨chain_app_left (chain_app_right h.srt),fun x hx=>h.nm x (by simp [hx]),fun x hx=>h.row x (by simp [hx]), ?_⟩
 have:=h.len
 simp only [List.length_append] at this;omega
theorem has_ix:∀ {ts:List TabD} {lo:BL} (k:BL),contig lo ts→(∀ t ∈ ts,SpT t)→blt k lo = false→∃ l1 t l2,ts = l1++t::l2∧hasName t.span k = true
 | [],_,_,h,_,_=>h.elim
 | [t],lo,k,h,_,hk=>⟨[],t,[],rfl,by
   have:t.span = ⟨lo,[]⟩:=h
   rw [this];simp [hasName,hk]⟩
 | t::u::ts,lo,k,h,ok,hk=>by
  cases hb:blt k t.span.hi with
  | true=>exact ⟨[],t,u::ts,rfl,by rw [hasName,contig_lo h,hk,hb];simp⟩
  | false =>
   obtain ⟨l1,x,l2,e,hx⟩:=has_ix k h.2.2 (fun x hx=>ok x (by simp [hx])) hb
   exact ⟨t::l1,x,l2,by rw [e];rfl,hx⟩
theorem contig_behind {lo:BL} {l1:List TabD} {t:TabD} {l2:List TabD} (h:contig lo (l1++t::l2)) (ok:∀ x ∈ l1++t::l2,SpT x):(∀ y ∈ l2,t.span.hi ≠ []∧blt y.span.lo t.span.hi = false)∧∀ y ∈ l1,y.span.hi ≠ []∧blt t.span.lo y.span.hi = false:=by
 have key:∀ {lo:BL} {t:TabD} {l2:List TabD},contig lo (t::l2)→(∀ x ∈ t::l2,SpT x)→∀ y ∈ l2,t.span.hi ≠ []∧blt y.span.lo t.span.hi = false:=by
  intro lo t l2 h ok y hy
  cases l2 with
  | nil=>cases hy
  | cons u ts =>
   refine ⟨h.2.1, ?_⟩
   have hc:=contig_chain h.2.2 fun x hx=>ok x (by simp [hx])
   rw [contig_hi h]
   rcases List.mem_cons.1 hy with rfl | hy
   ·exact less_irrefl _
   ·exact less_asymm (chain_all tlt_trans hc y hy)
 refine ⟨key ((contig_app.1 h).1) fun x hx=>ok x (by simp only [List.mem_append];exact .inr hx),fun y hy=>?_⟩
 obtain ⟨a,b,rfl⟩:=List.append_of_mem hy
 have h2:contig lo (a++y::(b++t::l2)):=by simpa using h
 have:=key ((contig_app.1 h2).1) (fun x hx=>ok x (by simp at hx ⊢;rcases hx with e | e | e | e <;> simp [e])) t (by simp)
 exact this
theorem has_one {lo k:BL} {l1:List TabD} {t:TabD} {l2:List TabD} (h:contig lo (l1++t::l2)) (ok:∀ x ∈ l1++t::l2,SpT x) (hk:hasName t.span k = true):∀ y ∈ l1++l2,hasName y.span k = false∧y.span.lo ≠ k:=by
 obtain ⟨h1,h2⟩:=contig_behind h ok
 simp only [hasName,Bool.and_eq_true,Bool.not_eq_true',Bool.or_eq_true,beq_iff_eq] at hk
 intro y hy
 rcases List.mem_append.1 hy with hy | hy
 ·obtain ⟨g1,g2⟩:=h2 y hy
  have e:blt k y.span.hi = false:=by
   cases hc:blt k y.span.hi with
   | false=>rfl
   | true =>
    exfalso
    cases hd:blt t.span.lo k with
    | true=>rw [blt_trans _ _ _ hd hc] at g2;cases g2
    | false=>rw [less_total hd hk.1,hc] at g2;cases g2
  refine ⟨by simp [hasName,e,g1],fun e2=>?_⟩
  have hy3:=sp_lt (ok y (by simp [hy])) g1
  rw [e2,e] at hy3;cases hy3
 ·obtain ⟨g1,g2⟩:=h1 y hy
  have hkh:blt k t.span.hi = true:=by
   rcases hk.2 with e | e
   ·exact absurd e g1
   ·exact e
  have e:blt k y.span.lo = true:=by
   cases hd:blt t.span.hi y.span.lo with
   | true=>exact blt_trans _ _ _ hkh hd
   | false=>rw [← less_total hd g2];exact hkh
  refine ⟨by simp [hasName,e],fun e2=>?_⟩
  rw [e2,blt,less_irrefl] at e;cases e
section
variable {α:Type} {lt:α→α→Bool}
theorem ins_last {s:List α} {x:α} (h:∀ y ∈ s,lt x y = false):ins lt x s = s++[x]:=by
 rcases snoc_cases s with rfl | ⟨a,y,rfl⟩
 ·rfl
 ·rw [ins_snoc,h y (by simp)];simp
theorem isort_self {l:List α} (h:∀ a x b,l = a++x::b→∀ y ∈ a,lt x y = false):isort lt l = l:=by
 have key:∀ (n:Nat),n ≤ l.length→isort lt (l.take n) = l.take n:=by
  intro n
  induction n with
  | zero=>intro _;simp
  | succ n ih =>
   intro hn
   have hs:=split_at (l:=l) (i:=n) (by omega)
   have ht:l.take (n + 1) = l.take n++[l[n]]:=by simp
   rw [ht,isort_snoc,ih (by omega),ins_last fun y hy=>h _ _ _ hs y hy]
 have:=key l.length (Nat.le_refl _)
 rwa [List.take_length] at this
end
theorem chain_before {l a b:List TabD} {x y:TabD} (hc:chain tlt l = true) (e:l = a++x::b) (hy:y ∈ a):tlt y x = true:=by
 subst e
 obtain ⟨a1,a2,rfl⟩:=List.append_of_mem hy
 have h2:chain tlt (y::(a2++x::b)) = true:=chain_app_right (l:=a1) (by simpa using hc)
 exact chain_all tlt_trans h2 x (by simp)
theorem span_ext {a b:Span} (h1:a.lo = b.lo) (h2:a.hi = b.hi):a = b:=by cases a;cases b;simp_all
def ta (t:TabD) (k:BL) (g:Int):TabD:=⟨⟨t.span.lo,k⟩,g,false,t.rows.take (tix t.rows k),t.cache⟩
def tb (t:TabD) (k:BL) (g:Int):TabD:=⟨⟨k,t.span.hi⟩,g,false,t.rows.drop (tix t.rows k),t.cache⟩
def tm (x y:TabD) (g:Int):TabD:=⟨⟨x.span.lo,y.span.hi⟩,g,false,(tjoin x.rows y.rows).1,addT x.cache y.cache⟩
theorem has_inv {s:Span} {k:BL} (h:hasName s k = true) (hne:s.lo ≠ k):blt s.lo k = true∧(s.hi = [] ∨ blt k s.hi = true):=by
 simp only [hasName,Bool.and_eq_true,Bool.not_eq_true',Bool.or_eq_true,beq_iff_eq] at h
 refine ⟨?_,h.2⟩
 cases hb:blt s.lo k with
 | true=>rfl
 | false=>exact absurd (less_total hb h.1) hne
theorem split_ok_b {s:Span} {k:BL} (os:spanOk s = true) (hk:k.length ≤ 16) (h:hasName s k = true) (hne:s.lo ≠ k):splitOk s k = true:=by
 obtain ⟨h1,h2⟩:=has_inv h hne
 have h3:=os
 simp only [spanOk,Bool.and_eq_true,decide_eq_true_eq] at h3
 have h4:spanOk ⟨s.lo,k⟩ = true:=by simp only [spanOk,Bool.and_eq_true,decide_eq_true_eq,Bool.or_eq_true];exact ⟨⟨h3.1.1,hk⟩,.inr h1⟩
 simp only [splitOk,os,h1,h4,Bool.true_and,Bool.and_true,Bool.or_eq_true,beq_iff_eq]
 exact h2
theorem split_plain {l1 l2:List TabD} {t:TabD} {R:List Named} (I:SpI (l1++t::l2) R) {k:BL} (hk:k.length ≤ 16) (hk0:k ≠ []) (h:hasName t.span k = true) (hne:t.span.lo ≠ k) (g:Int):SpI (l1++ta t k g::tb t k g::l2) R:=by
 have ht:=I.ok t (by simp)
 obtain ⟨h1,h2⟩:=has_inv h hne
 have h3:=ht.sp
 simp only [spanOk,Bool.and_eq_true,decide_eq_true_eq] at h3
 have htd:t.rows.take (tix t.rows k)++t.rows.drop (tix t.rows k) = t.rows:=List.take_append_drop _ _
 have htbl:=ht.rows
 refine ⟨?_,fun x hx=>?_, ?_,I.tbl⟩
 ·obtain ⟨c1,c2⟩:=contig_app.1 I.con
  refine contig_app.2 ⟨?_,c2⟩
  refine ⟨rfl,hk0, ?_⟩
  cases l2 with
  | nil =>
   have:t.span = ⟨t.span.lo,[]⟩:=c1
   show (tb t k g).span = ⟨k,[]⟩
   unfold tb
   rw [this]
  | cons u ts=>exact ⟨rfl,c1.2.1,c1.2.2⟩
 ·simp only [List.mem_append,List.mem_cons] at hx
  rcases hx with hx | rfl | rfl | hx
  ·exact I.ok x (by simp [hx])
  ·refine ⟨?_,rfl, ?_,ht.cache,fun x hx=>?_⟩
   ·show spanOk ⟨t.span.lo,k⟩ = true
    simp only [spanOk,Bool.and_eq_true,decide_eq_true_eq,Bool.or_eq_true];exact ⟨⟨h3.1.1,hk⟩,.inr h1⟩
   ·exact tbl_mid (A:=[]) (C:=t.rows.drop (tix t.rows k)) (by simpa [ta] using htbl)
   ·have hx2:=ht.inn x (List.mem_of_mem_take hx)
    have hx3:=mem_tw (p:=fun c:Named=>blt c.name k) hx
    simp only [hasName,Bool.and_eq_true,Bool.not_eq_true'] at hx2 ⊢
    exact ⟨hx2.1,by rw [show (ta t k g).span.hi = k from rfl,hx3];simp⟩
  ·refine ⟨?_,rfl, ?_,ht.cache,fun x hx=>?_⟩
   ·show spanOk ⟨k,t.span.hi⟩ = true
    simp only [spanOk,Bool.and_eq_true,decide_eq_true_eq,Bool.or_eq_true,beq_iff_eq]
    exact ⟨⟨hk,h3.1.2⟩,h2⟩
   ·exact tbl_mid (A:=t.rows.take (tix t.rows k)) (C:=[]) (by simpa [tb] using htbl)
   ·have hx2:=ht.inn x (List.mem_of_mem_drop hx)
    have hx3:=mem_dw (lt:=nmLt) (p:=fun c=>blt c.name k) nm_trans (fun a b h1 h2=>blt_trans _ _ _ h1 h2) htbl.srt hx
    simp only [hasName,Bool.and_eq_true,Bool.not_eq_true'] at hx2 ⊢
    exact ⟨hx3,hx2.2⟩
  ·exact I.ok x (by simp [hx])
 ·rw [← I.rows]
  simp only [List.flatMap_append,List.flatMap_cons,ta,tb]
  rw [← List.append_assoc (t.rows.take _),htd]
theorem join_plain {a b:List Named} (h:TblOk (a++b)):(tjoin a b).2 = 0∧(tjoin a b).1 = a++b:=by
 have h32:=h.len
 rw [List.length_append] at h32
 have key:tjoin a b = (a++b,0):=by
  have hn:¬ 32 < a.length + b.length:=by omega
  unfold tjoin
  rcases snoc_cases a with rfl | ⟨p,x,rfl⟩
  ·simp only [List.getLast?_nil,oqF,if_false,if_neg hn]
  ·cases b with
   | nil=>simp only [List.head?_nil,oqF,if_false,if_neg hn,List.getLast?_append,List.getLast?_singleton,Option.some_or]
   | cons y q =>
    have h2:chain nmLt (x::y::q) = true:=chain_app_right (l:=p) (by simpa using h.srt)
    simp only [chain,Bool.and_eq_true] at h2
    have h3:blt x.name y.name = true:=h2.1
    simp only [List.getLast?_append,List.getLast?_singleton,Option.some_or,List.head?_cons,h3,Bool.not_true,oqF,if_false,if_neg hn]
 rw [key]
 exact ⟨rfl,rfl⟩
theorem merge_plain {l1 l2:List TabD} {x y:TabD} {R:List Named} (I:SpI (l1++x::y::l2) R) (g:Int):SpI (l1++tm x y g::l2) R∧(tjoin x.rows y.rows).2 = 0∧splitOk ⟨x.span.lo,y.span.hi⟩ y.span.lo = true∧x.span = ⟨x.span.lo,y.span.lo⟩:=by
 have hx:=I.ok x (by simp)
 have hy:=I.ok y (by simp)
 obtain ⟨c1,c2⟩:=contig_app.1 I.con
 have hxy:=contig_hi c1
 have hxh:x.span.hi ≠ []:=c1.2.1
 have hx3:=hx.sp
 have hy3:=hy.sp
 have hl:=sp_lt hx hxh
 simp only [spanOk,Bool.and_eq_true,decide_eq_true_eq,Bool.or_eq_true,beq_iff_eq] at hx3 hy3
 have hrows:TblOk (x.rows++y.rows):=by
  refine tbl_mid (A:=l1.flatMap (·.rows)) (C:=l2.flatMap (·.rows)) ?_
  have:=I.rows
  simp only [List.flatMap_append,List.flatMap_cons] at this
  rw [List.append_assoc,this];exact I.tbl
 obtain ⟨j1,j2⟩:=join_plain hrows
 have hlo:blt x.span.lo y.span.lo = true:=by rw [← hxy];exact hl
 have hsp:spanOk ⟨x.span.lo,y.span.hi⟩ = true:=by
  simp only [spanOk,Bool.and_eq_true,decide_eq_true_eq,Bool.or_eq_true,beq_iff_eq]
  refine ⟨⟨hx3.1.1,hy3.1.2⟩, ?_⟩
  rcases hy3.2 with e | e
  ·exact .inl e
  ·exact .inr (blt_trans _ _ _ hlo e)
 refine ⟨⟨?_,fun z hz=>?_, ?_,I.tbl⟩,j1, ?_,span_ext rfl hxy⟩
 ·refine contig_app.2 ⟨?_,c2⟩
  have c3:=c1.2.2
  cases l2 with
  | nil =>
   have:y.span = ⟨x.span.hi,[]⟩:=c3
   show (tm x y g).span = ⟨(tm x y g).span.lo,[]⟩
   unfold tm;rw [this]
  | cons u ts=>exact ⟨rfl,c3.2.1,c3.2.2⟩
 ·simp only [List.mem_append,List.mem_cons] at hz
  rcases hz with hz | rfl | hz
  ·exact I.ok z (by simp [hz])
  ·refine ⟨hsp,rfl,by simp only [tm,j2];exact hrows,addT_ok hx.cache,fun z hz=>?_⟩
   simp only [tm,j2,List.mem_append] at hz
   rcases hz with hz | hz
   ·have h2:=hx.inn z hz
    simp only [hasName,tm,Bool.and_eq_true,Bool.not_eq_true',Bool.or_eq_true,beq_iff_eq] at h2 ⊢
    refine ⟨h2.1, ?_⟩
    have h4:blt z.name x.span.hi = true:=by
     rcases h2.2 with e | e
     ·exact absurd e hxh
     ·exact e
    rcases hy3.2 with e | e
    ·exact .inl e
    ·exact .inr (blt_trans _ _ _ (by rw [← hxy];exact h4) e)
   ·have h2:=hy.inn z hz
    simp only [hasName,tm,Bool.and_eq_true,Bool.not_eq_true',Bool.or_eq_true,beq_iff_eq] at h2 ⊢
    refine ⟨?_,h2.2⟩
    cases hc:blt z.name x.span.lo with
    | false=>rfl
    | true=>rw [blt_trans _ _ _ hc hlo] at h2;cases h2.1
  ·exact I.ok z (by simp [hz])
 ·rw [← I.rows]
  simp only [List.flatMap_append,List.flatMap_cons,tm,j2,List.append_assoc]
 ·have h5:spanOk ⟨x.span.lo,y.span.lo⟩ = true:=by rw [← hxy];exact hx.sp
  have h6:(y.span.hi == [] || blt y.span.lo y.span.hi) = true:=by
   simp only [Bool.or_eq_true,beq_iff_eq];exact hy3.2
  simp only [splitOk,hsp,hlo,h5,h6];rfl
end Wm
namespace Go.Proofs.YtiagcnfmgigllaaGreat
open Go Go.Ab Wm NumPlain
set_option maxRecDepth 10000
set_option maxHeartbeats 4000000
theorem do_around {h h3:H} {s:Nat} {sp sp':AS} {ps ps':List Pt} {last code last' code':Int} {B:Blk} (w:StAt h s sp ps last code) (w3:StAt h3 s sp' ps' last' code') (g:Fp ((h.new B).new zAns) h3 (fpS s sp ps) (fpS s sp' ps')) :
  h3.f (h.next + 1) = some zAns∧∀ k,StAt (h3.set (h.next + 1) k) s sp' ps' last' code'∧Fp h (h3.set (h.next + 1) k) (fpS s sp ps) (fpS s sp' ps'):=by
 have wl:=w.fp_lt
 have o1:h.next + 1 ∉ fpS s sp ps:=fun e=>by have:=wl _ e;omega
 refine ⟨by rw [g.keep _ (by simp) o1];simp,fun k=>⟨w3.out (fun e=>?_) k,g.new.new.seto (by omega) k⟩⟩
 rcases g.own _ e with e | e
 ·exact o1 e
 ·simp at e;omega
theorem do_new {h:H} {s:Nat} {sp:AS} {l1 l2:List Pt} {p:Pt} {last code:Int} (w:StAt h s sp (l1++p::l2) last code) (hn:(l1++p::l2).length < 1000) (client seq:Int) (o_kind:Int) (o_row:BL) (o_hi:BL) (o_cond_has:Bool) (o_cond_want:Bool) (o_cond_col:BL) (o_cond_v_kind:Int) (o_cond_v_b:Option BL) (o_cond_v_n:Nat) (o_l:Option (List Change)) (o_most:Int) (oo:opOk ⟨o_kind,o_row,o_hi,⟨o_cond_has,o_cond_want,o_cond_col,⟨o_cond_v_kind,o_cond_v_b,o_cond_v_n⟩⟩,o_l,o_most⟩ = true) (ol:(ls o_l).length < 9223372036854775807)
  (ocv:(ls o_cond_v_b).length ≤ 1099511627776) (hf:findP o_row none (l1++p::l2) = some p) (hin:hasName p.t.span o_row = true) (hfr:p.t.fr = false) (os:spanOk p.t.span = true) (ok:TblOk p.t.rows) (okc:CchOk p.t.cache) (hlk:lookT p.t.cache client seq = (none,1)) (hc:0 ≤ client∧client ≤ 255) (hs:seq ≤ 1073741824) :
  ∃ h' p',W K 12 [.one (.ptr s 0 0),.one (ii client),.one (ii seq),.agg [ii 1,ii o_kind,.str o_row,.str o_hi,.bool o_cond_has,.bool o_cond_want,.str o_cond_col,ii o_cond_v_kind,bs o_cond_v_b,.flt o_cond_v_n,sl 6 encChange o_l,ii o_most,.str [],.str [],ii 0,.str [],ii 0,ii 0,.nilslc]] h = some (.ret (.agg (encAnswer (opT p.t.span p.t.rows ⟨o_kind,o_row,o_hi,⟨o_cond_has,o_cond_want,o_cond_col,⟨o_cond_v_kind,o_cond_v_b,o_cond_v_n⟩⟩,o_l,o_most⟩).1)) h')∧p'.d = p.d ∧
   p'.t = ⟨p.t.span,p.t.gen,false,(opT p.t.span p.t.rows ⟨o_kind,o_row,o_hi,⟨o_cond_has,o_cond_want,o_cond_col,⟨o_cond_v_kind,o_cond_v_b,o_cond_v_n⟩⟩,o_l,o_most⟩).2,(keepT p.t.cache client seq (some (ansB (opT p.t.span p.t.rows ⟨o_kind,o_row,o_hi,⟨o_cond_has,o_cond_want,o_cond_col,⟨o_cond_v_kind,o_cond_v_b,o_cond_v_n⟩⟩,o_l,o_most⟩).1))).1⟩∧StAt h' s sp (l1++p'::l2) last code∧Fp h h' (fpS s sp (l1++p::l2)) (fpS s sp (l1++p'::l2)):=by
 obtain ⟨q1,q2,q3⟩:=ans_ok ok os oo hin
 obtain ⟨q4,q5⟩:=ans_len ok os oo hin
 have w2:=(w.new ⟨0,[19],true,[ii 1,ii o_kind,.str o_row,.str o_hi,.bool o_cond_has,.bool o_cond_want,.str o_cond_col,ii o_cond_v_kind,bs o_cond_v_b,.flt o_cond_v_n,sl 6 encChange o_l,ii o_most,.str [],.str [],ii 0,.str [],ii 0,ii 0,.nilslc]⟩).new zAns
 obtain ⟨h3,p',e3,d3,t3,w3,g3⟩:=operate_new w2 hn client seq o_kind o_row o_hi o_cond_has o_cond_want o_cond_col o_cond_v_kind o_cond_v_b o_cond_v_n o_l o_most hf hfr ok okc hlk hc hs (fun _=>ocv) q1 (fun x hx=>by have:=(q2 x hx).1;omega) (by omega) (by omega)
 obtain ⟨hz,hk⟩:=do_around w w3 g3
 have e:=do_op (c_kind:=1) client seq o_kind o_row o_hi o_cond_has o_cond_want o_cond_col o_cond_v_kind o_cond_v_b o_cond_v_n o_l o_most [] [] 0 [] 0 0 none rfl (by simp only [cmdOk,if_true];exact oo) ol (by simpa only [bs_none] using e3) hz
 simp only [bs_none] at e
 exact ⟨_,p',e,d3,t3,(hk _).1,(hk _).2⟩
abbrev cmdC (kind g:Int) (lo hi at_:BL):List AS:=[ii kind,ii 0,.str [],.str [],.bool false,.bool false,.str [],ii 0,.nilslc,.flt 0,.nilslc,ii 0,.str lo,.str hi,ii g,.str at_,ii 0,ii 0,.nilslc]
theorem pl_chain {ps:List Pt} {R:List Named} (I:SpI (ps.map (·.t)) R):∀ a x b,ps = a++x::b→∀ y ∈ a,pLt y x = true∧pLt x y = false:=fun a x b e y hy=>by
 have hc:=contig_chain I.con I.ok
 have h1:tlt y.t x.t = true:=chain_before hc (a:=a.map (·.t)) (x:=x.t) (b:=b.map (·.t)) (by rw [e];simp) (List.mem_map.2 ⟨y,hy,rfl⟩)
 exact ⟨h1,less_asymm h1⟩
theorem live_not {x y:Span} {t:TabD} (h:blt t.span.lo x.lo = true):liveB x t = false:=by
 unfold liveB
 have:t.span ≠ x:=fun e=>by rw [e,blt,less_irrefl] at h;cases h
 simp [this]
theorem split_step {h:H} {s:Nat} {sp:AS} {l1 l2:List Pt} {p:Pt} {last code:Int} {R:List Named} (w:StAt h s sp (l1++p::l2) last code) (hn:(l1++p::l2).length < 16) (I:SpI ((l1++p::l2).map (·.t)) R) (client seq:Int) {k:BL} (hk:k.length ≤ 16) (hk0:k ≠ [])
  (hh:hasName p.t.span k = true) (hne:p.t.span.lo ≠ k) {g:Int} (hg:last < g) (hg1:1 ≤ g∧g ≤ 1073741824) :
  ∃ h' sp' pa pb,W K 12 [.one (.ptr s 0 0),.one (ii client),.one (ii seq),.agg (cmdC 5 g p.t.span.lo p.t.span.hi k)] h = some (.ret (.agg (encAnswer (noA 0))) h')∧StAt h' s sp' (l1++pa::pb::l2) g 0∧SpI ((l1++pa::pb::l2).map (·.t)) R∧pa.t = ta p.t k g∧pb.t = tb p.t k g∧Fp h h' (fpS s sp (l1++p::l2)) (fpS s sp' (l1++pa::pb::l2)):=by
 have hpo:=I.ok p.t (by simp)
 have hso:=split_ok_b hpo.sp hk hh hne
 have hc:=pl_chain I
 have hi:idx (fun q:Pt=>liveB ⟨p.t.span.lo,p.t.span.hi⟩ q.t) (l1++p::l2) = l1.length:=idx_hit (fun y hy=>live_not (y:=p.t.span) (hc l1 p l2 rfl y hy).1) (by simp [liveB,hpo.fr])
 have I2:=split_plain (l1:=l1.map (·.t)) (l2:=l2.map (·.t)) (t:=p.t) (by simpa using I) hk hk0 hh hne g
 obtain ⟨B,hB⟩:∃ B:Blk,B = ⟨0,[19],true,cmdC 5 g p.t.span.lo p.t.span.hi k⟩:=⟨_,rfl⟩
 have w2:=(w.new B).new zAns
 obtain ⟨h3,sp',ps',r,e3,w3,g3,hR⟩:=change_c 5 0 [] [] false false [] 0 none 0 none 0 p.t.span.lo p.t.span.hi g k 0 0 none w2 hg 81 (.inr (.inl ⟨rfl,rfl⟩)) (fun ps' r=>r = 0∧∃ pa pb,ps' = l1++pa::l2++[pb]∧pa.t = ta p.t k g∧pb.t = tb p.t k g)
  fun h2 wh gh=>by
   obtain ⟨h3,sp',pa,pb,e,tA,tB,w3,g3⟩:=split_ok 5 0 [] [] false false [] 0 none 0 none 0 p.t.span.lo p.t.span.hi g k 0 0 none wh hn hpo.rows hpo.cache hi hso
   exact ⟨h3,sp',_,0,e,w3,g3,by simp at hn ⊢;omega,rfl,pa,pb,rfl,tA,tB⟩
 obtain ⟨rfl,pa,pb,rfl,tA,tB⟩:=hR
 have hs:isort pLt (l1++pa::l2++[pb]) = l1++pa::pb::l2:=by
  have hX:isort pLt (l1++pa::l2) = l1++pa::l2:=isort_self fun a x b e y hy=>by
   have hm:(l1++pa::l2).map (fun z=>z.t.span.lo) = (l1++p::l2).map (fun z=>z.t.span.lo):=by simp [tA,ta]
   have hal:a.length < (l1++p::l2).length:=by
    have:=congrArg List.length e
    simp at this ⊢;omega
   have h1:=split_at hal
   have h2:((l1++p::l2)[a.length]).t.span.lo = x.t.span.lo:=by
    have h3:((l1++pa::l2).map fun z=>z.t.span.lo)[a.length]? = some x.t.span.lo:=by rw [e];simp
    rw [hm] at h3
    simp only [List.getElem?_map,List.getElem?_eq_getElem hal,Option.map_some,oqI] at h3
    exact h3
   obtain ⟨j,hj,rfl⟩:=List.getElem_of_mem hy
   have h4:((l1++p::l2)[j]'(by omega)).t.span.lo = (a[j]).t.span.lo:=by
    have h3:((l1++pa::l2).map fun z=>z.t.span.lo)[j]? = some (a[j]).t.span.lo:=by rw [e,List.map_append,List.getElem?_append_left (by simpa using hj)];simp [hj]
    rw [hm] at h3
    have hj2:j < (l1++p::l2).length:=by omega
    simp only [List.getElem?_map,List.getElem?_eq_getElem hj2,Option.map_some,oqI] at h3
    exact h3
   have h5:=(hc _ _ _ h1 ((l1++p::l2)[j]'(by omega)) (by rw [List.mem_iff_getElem];exact ⟨j,by simp;simp at hal;omega,by simp⟩)).2
   unfold pLt at h5 ⊢
   rw [h2,h4] at h5;exact h5
  rw [isort_snoc,hX]
  have hb2:∀ y ∈ l2,pLt pb y = true:=fun y hy=>by
   have h7:=(contig_behind (l1:=l1.map (·.t)) (t:=p.t) (l2:=l2.map (·.t)) (by simpa using I.con) (by simpa using I.ok)).1 y.t (List.mem_map.2 ⟨y,hy,rfl⟩)
   have h8:=(has_inv hh hne).2
   unfold pLt
   rw [tB]
   have h9:blt k p.t.span.hi = true:=by
    rcases h8 with e | e
    ·exact absurd e h7.1
    ·exact e
   cases hd:blt p.t.span.hi y.t.span.lo with
   | true=>exact blt_trans _ _ _ h9 hd
   | false=>rw [show y.t.span.lo = p.t.span.hi from (less_total hd h7.2).symm];exact h9
  have hb1:∀ y ∈ l1++[pa],pLt pb y = false:=fun y hy=>by
   have h8:=(has_inv hh hne).1
   unfold pLt
   rw [tB]
   rcases List.mem_append.1 hy with hy | hy
   ·exact less_asymm (blt_trans _ _ _ (hc l1 p l2 rfl y hy).1 h8)
   ·rw [List.mem_singleton.1 hy,tA];exact less_asymm h8
  rw [show l1++pa::l2 = (l1++[pa])++l2 by simp,ins_app _ _ _ _ hb2,ins_last hb1];simp
 rw [hs] at w3 g3
 rw [hB] at e3 g3
 obtain ⟨hz,hk'⟩:=do_around w w3 g3
 have e:=do_change client seq 5 0 [] [] false false [] 0 none 0 none 0 p.t.span.lo p.t.span.hi g k 0 0 none (.inr (.inl rfl)) (by simp only [cmdOk,Int.reduceEq,if_false,or_self,or_false,if_true];rw [show ({ lo:=p.t.span.lo,hi:=p.t.span.hi }:Span) = p.t.span from rfl,hso];simp [genOk];omega) (by simp) e3 hz
 exact ⟨_,sp',pa,pb,e,(hk' _).1,by simp only [List.map_append,List.map_cons,tA,tB];exact I2,tA,tB,(hk' _).2⟩
end Go.Proofs.YtiagcnfmgigllaaGreat
