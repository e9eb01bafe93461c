/- A part of a proof over the abstract machine. No conditions. -/
import Derived.Test.YtiagcnfmgigllaaGreatC15t
import Derived.Test.YtiagcnfmgigllaaGreatAb5
import Derived.Test.YtiagcnfmgigllaaGreatT37
set_option linter.all false
namespace Wm
open Go Go.Ab
theorem t0R {v:Value} (h:V7 v = true):(a0W v).length <= 21:=by
 unfold V7 at h
 unfold a0W
 split
 ·rename_i h1
  simp only [h1,f0w] at h
  simp at h
  simp [I1,c8];omega
 ·split
  ·simp [c8]
  ·simp
theorem i0Z {α:Type} {f:α->BL} {n:Nat}:∀ {l:List α},(∀ x ∈ l,(f x).length <= n)->(l.flatMap f).length <= n * l.length
 | [],_=>by simp
 | a::l,h=>by
  have:=i0Z (l:=l) (fun x hx=>h x (by simp [hx]))
  have h1:=h a (by simp)
  simp only [List.flatMap_cons,oqa,oqb]
  rw [Nat.mul_add];omega
theorem t0i {c:Column} (h:a0H c = true):(b0N c).length <= 100:=by
 simp only [a0H,oqd,oqj,oqn] at h
 have hv:((ls c.l).flatMap a0T).length <= 29 * (ls c.l).length:=i0Z fun x hx=>by
  have:=h.2.1 x hx
  simp only [b0B,oqd] at this
  have:=t0R this.2.2
  simp [a0T,b0K,c8];omega
 have hn:=h0F h.1.1
 have h2:=h.1.2.2
 simp only [b0N,I1,oqa,c8,oqb]
 omega
theorem u0B (o:Row):(g0K o).length <= 401:=by
 have h:=P6 o
 unfold g0K f0U
 generalize rowCopy o = r at *
 simp only [V5,oqd,oqj,oqn] at h
 have:=i0Z (f:=b0N) (n:=100) (l:=ls r) fun c hc=>t0i (h.1.1 c hc)
 simp only [oqb];omega
theorem j0d {x:Named} (h:J9 x.name = true):(K9 x).length <= 421:=by
 have:=u0B x.r
 have:=h0F h
 simp only [K9,I1,oqa,c8];omega
theorem z0s {n:Int} (h:n = 0 \/ n = 1 \/ n = 3 \/ n = 13 \/ n = 24 \/ n = 25):i0J n 255 = true:=by
 rcases h with rfl | rfl | rfl | rfl | rfl | rfl <;> rfl
theorem p0h (o:Row) (n:BL) (t:Int) (v:Value):(a0i o n t v).2 = 0 \/ (a0i o n t v).2 = 1 \/ (a0i o n t v).2 = 13:=by
 unfold a0i
 split
 ·simp
 ·dsimp only
  split <;> simp
theorem w0o (o:Row) (c:Change):(b0m o c).2 = 0 \/ (b0m o c).2 = 1 \/ (b0m o c).2 = 13 \/ (b0m o c).2 = 24:=by
 unfold b0m
 split
 ·have:=p0h o c.col c.time c.v;omega
 split
 ·simp
 split
 ·simp
 split
 ·simp
 dsimp only
 generalize (if (Z0 o c.col).2 = true then (Z0 o c.col).1 else ⟨2,none,9223372036854775808⟩:Value) = w
 by_cases hp:(a0h w c.v).2 = 0
 ·rw [if_pos hp]
  have:=p0h o c.col c.time (a0h w c.v).1
  omega
 ·rw [if_neg hp]
  dsimp only
  unfold a0h at hp |-
  split
  ·rename_i h2
   rw [if_pos h2] at hp;exact absurd rfl hp
  ·simp
theorem p0I:∀ (l:List Change) (o:Row),(b0p o l).2 = 0 \/ (b0p o l).2 = 1 \/ (b0p o l).2 = 13 \/ (b0p o l).2 = 24
 | [],o=>by simp [b0p]
 | c::l,o=>by
  simp only [b0p]
  split
  ·exact p0I l _
  ·have:=w0o o c;simpa using this
theorem v0W (c:Change):K5 c = 0 \/ K5 c = 1 \/ K5 c = 24:=by
 unfold K5
 dsimp only
 split
 ·simp
 split
 ·simp
 split
 ·simp
 ·simp
theorem r0S (o:Row) (l:List Change):(apply o l).2 = 0 \/ (apply o l).2 = 1 \/ (apply o l).2 = 3 \/ (apply o l).2 = 13 \/ (apply o l).2 = 24:=by
 unfold apply
 split
 ·simp
 cases l.find? fun c=>K5 c != 0 with
 | none=>have:=p0I l (rowCopy o);simp only [d0n];omega
 | some c=>have:=v0W c;simp only [d0n];omega
theorem w0u (l:List Named) (n:BL) (r:Row):(i0p l n r).2 = 0 \/ (i0p l n r).2 = 1 \/ (i0p l n r).2 = 13:=by
 unfold i0p
 split
 ·simp
 split
 ·simp
 split
 ·simp
 split <;> simp
theorem v0c (l:List Named) (o:Op):i0J (f0v l o).2 255 = true:=by
 apply z0s
 unfold f0v
 dsimp only
 split
 ·simp
 split
 ·have:=w0u l o.row (apply (b0g l o.row).1 (ls o.l)).1;omega
 ·have:=r0S (b0g l o.row).1 (ls o.l);dsimp only;omega
theorem w0k {l:List Named} (ok:TblOk l) (o:Op):TblOk (f0v l o).1:=by
 unfold f0v
 dsimp only
 split
 ·exact ok
 split
 ·exact y0J ok _ _
 ·exact ok
theorem o0S {l:List Named} (ok:TblOk l) (sp:Span) (o:Op):TblOk (opT sp l o).2:=by
 unfold opT
 split
 ·exact ok
 split
 ·exact w0k ok o
 ·exact ok
theorem t0X {l:List Named} {lo hi:BL} {m:Int}:(∀ x ∈ (a0l l lo hi m).1,x ∈ l)/\(a0l l lo hi m).1.length <= 16:=by
 unfold a0l
 dsimp only
 have hm:(max 0 (min m 16)).toNat <= 16:=by omega
 generalize (if hi = [] then l.length else tix l hi) = e
 split
 ·simp
 split
 ·rename_i h
  exact ⟨fun x hx=>List.mem_of_mem_take (List.mem_of_mem_drop hx),by dsimp only;omega⟩
 ·exact ⟨fun x hx=>List.mem_of_mem_take (List.mem_of_mem_drop (List.mem_of_mem_take hx)),by simp;omega⟩
theorem q0F {l:List Named} (ok:TblOk l) {lo hi:BL} {m:Int} (h1:1 <= m) (hn:(a0l l lo hi m).2 ≠ []):J9 (a0l l lo hi m).2 = true/\blt lo (a0l l lo hi m).2 = true:=by
 unfold a0l at hn |-
 dsimp only at hn |-
 have hm:1 <= (max 0 (min m 16)).toNat:=by omega
 generalize (max 0 (min m 16)).toNat = M at *
 generalize he:(if hi = [] then l.length else tix l hi) = e at *
 have hel:e <= l.length:=by rw [<- he];split;exact oqg _;exact g0P _ _
 split at hn
 ·simp at hn
 rename_i hc
 rw [if_neg hc]
 split at hn
 ·simp at hn
 rename_i hc2
 rw [if_neg hc2]
 have hM:M < ((l.take e).drop (tix l lo)).length:=by omega
 simp only [List.getElem?_eq_getElem hM]
 have hM2:tix l lo + M < l.length:=by simp at hM;omega
 have hx:((l.take e).drop (tix l lo))[M] = l[tix l lo + M]:=by simp
 rw [hx]
 refine ⟨ok.nm _ (List.getElem_mem _), ?_⟩
 have h0:=o0s ok.srt lo (tix l lo) (by omega)
 have h3:f0A l[tix l lo] l[tix l lo + M] = true:=(U0 b0b).1 ok.srt _ _ (by omega) hM2
 have h4:¬ a0j l[tix l lo].name lo < 0:=fun e=>by have:=h0.2 e;omega
 rw [f0b] at h4
 simp only [f0A] at h3
 cases hb:blt lo l[tix l lo + M].name with
 | true=>rfl
 | false =>
  exfalso
  apply h4
  have h5:blt l[tix l lo + M].name lo = true \/ l[tix l lo + M].name = lo:=by
   cases hc:blt l[tix l lo + M].name lo with
   | true=>exact .inl rfl
   | false=>exact .inr (a0a hc hb)
  rcases h5 with h5 | h5
  ·exact S1 _ _ _ h3 h5
  ·rw [h5] at h3;exact h3
theorem r0m {l:List Named} (ok:TblOk l) {sp:Span} (os:K4 sp = true) {o:Op} (oo:h0X o = true) (hi:G9 sp o.row = true):d0G (opT sp l o).1 = true/\(∀ x ∈ ls (opT sp l o).1.rows,(ls x.r).length <= 4/\J9 x.name = true)/\(ls (opT sp l o).1.rows).length <= 16:=by
 have hz:K4 ⟨[],[]⟩ = true:=rfl
 have hno:∀ n,i0J n 255 = true->d0G (noA n) = true:=fun n h=>by
  simp only [d0G,noA,h];rfl
 have rw4:∀ x ∈ l,V5 x.r = true:=fun x hx=>by have:=P6 x.r;rwa [(ok.row x hx).1] at this
 have len4:∀ r:Row,V5 r = true->(ls r).length <= 4:=fun r h=>by simp only [V5,oqd,oqj] at h;exact h.2
 unfold opT
 unfold h0X at oo
 split at oo
 ·rename_i k1
  rw [if_pos k1]
  split
  ·have hr:V5 (b0g l o.row).1 = true:=by
    unfold b0g
    split
    ·exact P6 _
    ·rfl
   refine ⟨?_,fun x hx=>?_,by simp⟩
   ·simp only [d0G,K6,List.all_cons,List.all_nil,oo,hr,hz];rfl
   ·simp at hx;subst hx;exact ⟨len4 _ hr,oo⟩
  ·exact ⟨hno 0 rfl,by simp [noA],by simp [noA]⟩
 split at oo
 ·rename_i k1 k2
  rw [if_neg k1,if_pos k2]
  exact ⟨hno _ (v0c l o),by simp [noA],by simp [noA]⟩
 split at oo
 ·rename_i k1 k2 k3
  rw [if_neg k1,if_neg k2]
  simp only [oqd,oqj] at oo
  obtain ⟨o1,o2,o3⟩:=oo
  obtain ⟨m1,m2⟩:=t0X (l:=l) (lo:=o.row) (hi:=hiT sp o.hi) (m:=o.most)
  have hsp:K4 ⟨o.row,if (a0l l o.row (hiT sp o.hi) o.most).2 = [] then hiT sp o.hi else (a0l l o.row (hiT sp o.hi) o.most).2⟩ = true:=by
   simp only [K4,oqd,oqj] at o1 os |-
   split
   ·unfold hiT
    split
    ·exact o1
    ·refine ⟨⟨o1.1.1,os.1.2⟩, ?_⟩
     simp only [G9,oqd] at hi
     exact hi.2
   ·rename_i hn
    obtain ⟨g1,g2⟩:=q0F ok o2 hn
    exact ⟨⟨o1.1.1,h0F g1⟩,by rw [g2];simp⟩
  refine ⟨?_,fun x hx=>?_,by simpa using m2⟩
  ·have hall:((a0l l o.row (hiT sp o.hi) o.most).1.all fun x=>J9 x.name && V5 x.r) = true:=oqn.2 fun x hx=>by rw [ok.nm x (m1 x hx),rw4 x (m1 x hx)];rfl
   simp only [d0G,c0u,hall,hsp,decide_eq_true m2];rfl
  ·simp only [c0u] at hx
   exact ⟨len4 _ (rw4 x (m1 x hx)),ok.nm x (m1 x hx)⟩
 ·cases oo
theorem s0e {l:List Named} (ok:TblOk l) {sp:Span} (os:K4 sp = true) {o:Op} (oo:h0X o = true) (hi:G9 sp o.row = true):((ls (opT sp l o).1.rows).flatMap K9).length <= 6736/\(b0I (opT sp l o).1).length <= 1100000:=by
 obtain ⟨h1,h2,h3⟩:=r0m ok os oo hi
 have h4:=i0Z (f:=K9) (n:=421) (l:=ls (opT sp l o).1.rows) fun x hx=>j0d (h2 x hx).2
 refine ⟨by omega, ?_⟩
 simp only [d0G,K4,oqd,oqj] at h1
 obtain ⟨_,_,_,_,⟨⟨o1,o2⟩,_⟩,o3,o4⟩:=h1
 simp only [f0w] at o4
 simp only [b0I,L7,I1,N8,c8,oqa,oqb];omega
theorem p0Z {l:List Tld} {c s:Int} (h1:1 <= s) (h:∀ x ∈ l,x.client = c->x.seq < s):a0D l c s = (none,1):=by
 unfold a0D
 dsimp only
 cases hT:f0S l c with
 | false=>simp;omega
 | true =>
  obtain ⟨hi,hc⟩:=h0z hT
  have:=h _ (List.getElem_mem hi) hc
  simp only [List.getElem?_eq_getElem hi,Option.getD_some]
  rw [if_neg (by simp;omega),if_neg (by simp;omega)]
theorem l0k {l:List Tld} {c s:Int} {b:Option BL}:∀ x ∈ (a0v l c s b).1,x ∈ l \/ x = ⟨c,s,b⟩:=by
 intro x hx
 unfold a0v at hx
 split at hx
 ·exact .inl hx
 split at hx
 ·exact List.mem_or_eq_of_mem_set hx
 ·rw [c0I (l0F _ _)] at hx
  rcases oqe.1 hx with h | h
  ·exact .inl (List.mem_of_mem_take h)
  ·rcases oqf.1 h with h | h
   ·exact .inr h
   ·exact .inl (List.mem_of_mem_drop h)
def a0X:BL->List TabD->Prop
 | _,[]=>False
 | lo,[t]=>t.span = ⟨lo,[]⟩
 | lo,t::u::ts=>t.span.lo = lo/\t.span.hi ≠ []/\a0X t.span.hi (u::ts)
structure SpT (t:TabD):Prop where
 sp:K4 t.span = true
 fr:t.fr = false
 rows:TblOk t.rows
 cache:CchOk t.cache
 inn:∀ x ∈ t.rows,G9 t.span x.name = true
structure SpI (ts:List TabD) (R:List Named):Prop where
 con:a0X [] ts
 ok:∀ t ∈ ts,SpT t
 rows:ts.flatMap (·.rows) = R
 tbl:TblOk R
theorem i0G:∀ {lo:BL} {t:TabD} {ts:List TabD},a0X lo (t::ts)->t.span.lo = lo
 | lo,t,[],h=>by have:t.span = ⟨lo,[]⟩:=h;rw [this]
 | lo,t,u::ts,h=>h.1
theorem m0X {lo:BL} {t u:TabD} {ts:List TabD} (h:a0X lo (t::u::ts)):t.span.hi = u.span.lo:=(i0G h.2.2).symm
theorem A0Z {t:TabD} (h:SpT t) (hh:t.span.hi ≠ []):blt t.span.lo t.span.hi = true:=by
 have:=h.sp
 simp only [K4,oqd,Bool.or_eq_true,beq_iff_eq] at this
 rcases this.2 with e | e
 ·exact absurd e hh
 ·exact e
theorem m0Z (a b c:TabD) (h1:tlt a b = true) (h2:tlt b c = true):tlt a c = true:=S1 _ _ _ h1 h2
theorem b0G:∀ {lo:BL} {ts:List TabD},a0X lo ts->(∀ t ∈ ts,SpT t)->J5 tlt ts = true
 | _,[],h,_=>h.elim
 | _,[_],_,_=>rfl
 | lo,t::u::ts,h,ok=>by
  simp only [J5,oqd]
  refine ⟨?_,b0G h.2.2 fun x hx=>ok x (by simp [hx])⟩
  have:=A0Z (ok t (by simp)) h.2.1
  rw [m0X h] at this;exact this
theorem contig_app:∀ {lo:BL} {l1:List TabD} {t:TabD} {l2:List TabD},a0X lo (l1++t::l2) ↔ a0X t.span.lo (t::l2)/\(match l1 with | []=>t.span.lo = lo | _=>a0X lo (l1++[⟨⟨t.span.lo,[]⟩,0,false,[],[]⟩]))
 | lo,[],t,l2=>by
  simp only [oql]
  constructor
  ·intro h
   have:=i0G h
   subst this;exact ⟨h,rfl⟩
  ·rintro ⟨h,rfl⟩;exact h
 | lo,[a],t,l2=>by
  simp only [oqm,oql,a0X]
  constructor
  ·rintro ⟨h1,h2,h3⟩
   have:=i0G h3
   rw [this]
   exact ⟨h3,h1,h2,rfl⟩
  ·rintro ⟨h3,h1,h2,h4⟩
   simp only [Span.mk.injEq,and_true] at h4
   rw [h4] at h3;exact ⟨h1,h2,h3⟩
 | lo,a::b::l1,t,l2=>by
  have ih:=contig_app (lo:=a.span.hi) (l1:=b::l1) (t:=t) (l2:=l2)
  simp only [oqm,a0X] at ih |-
  rw [ih]
  constructor
  ·rintro ⟨h1,h2,h3,h4⟩;exact ⟨h3,h1,h2,h4⟩
  ·rintro ⟨h3,h1,h2,h4⟩;exact ⟨h1,h2,h3,h4⟩
theorem s0r {A B C:List Named} (h:TblOk (A++(B++C))):TblOk B:=by
 refine ⟨c0N (b0k h.srt),fun x hx=>h.nm x (by simp [hx]),fun x hx=>h.row x (by simp [hx]), ?_⟩
 have:=h.len
 simp only [oqa] at this;omega
theorem d0D {lo:BL} {l1:List TabD} {t:TabD} {l2:List TabD} (h:a0X lo (l1++t::l2)) (ok:∀ x ∈ l1++t::l2,SpT x):(∀ y ∈ l2,t.span.hi ≠ []/\blt y.span.lo t.span.hi = false)/\∀ y ∈ l1,y.span.hi ≠ []/\blt t.span.lo y.span.hi = false:=by
 have key:∀ {lo:BL} {t:TabD} {l2:List TabD},a0X lo (t::l2)->(∀ x ∈ t::l2,SpT x)->∀ y ∈ l2,t.span.hi ≠ []/\blt y.span.lo t.span.hi = false:=by
  intro lo t l2 h ok y hy
  cases l2 with
  | nil=>cases hy
  | cons u ts =>
   refine ⟨h.2.1, ?_⟩
   have hc:=b0G h.2.2 fun x hx=>ok x (by simp [hx])
   rw [m0X h]
   rcases oqf.1 hy with rfl | hy
   ·exact X1 _
   ·exact a0c (c0b m0Z hc y hy)
 refine ⟨key ((contig_app.1 h).1) fun x hx=>ok x (by simp only [oqe];exact .inr hx),fun y hy=>?_⟩
 obtain ⟨a,b,rfl⟩:=List.append_of_mem hy
 have h2:a0X lo (a++y::(b++t::l2)):=by simpa using h
 have:=key ((contig_app.1 h2).1) (fun x hx=>ok x (by simp at hx |-;rcases hx with e | e | e | e <;> simp [e])) t (by simp)
 exact this
theorem t0h {lo k:BL} {l1:List TabD} {t:TabD} {l2:List TabD} (h:a0X lo (l1++t::l2)) (ok:∀ x ∈ l1++t::l2,SpT x) (hk:G9 t.span k = true):∀ y ∈ l1++l2,G9 y.span k = false/\y.span.lo ≠ k:=by
 obtain ⟨h1,h2⟩:=d0D h ok
 simp only [G9,oqd,Bool.not_eq_true',Bool.or_eq_true,beq_iff_eq] at hk
 intro y hy
 rcases oqe.1 hy with hy | hy
 ·obtain ⟨g1,g2⟩:=h2 y hy
  have e:blt k y.span.hi = false:=by
   cases hc:blt k y.span.hi with
   | false=>rfl
   | true =>
    exfalso
    cases hd:blt t.span.lo k with
    | true=>rw [S1 _ _ _ hd hc] at g2;cases g2
    | false=>rw [a0a hd hk.1,hc] at g2;cases g2
  refine ⟨by simp [G9,e,g1],fun e2=>?_⟩
  have hy3:=A0Z (ok y (by simp [hy])) g1
  rw [e2,e] at hy3;cases hy3
 ·obtain ⟨g1,g2⟩:=h1 y hy
  have hkh:blt k t.span.hi = true:=by
   rcases hk.2 with e | e
   ·exact absurd e g1
   ·exact e
  have e:blt k y.span.lo = true:=by
   cases hd:blt t.span.hi y.span.lo with
   | true=>exact S1 _ _ _ hkh hd
   | false=>rw [<- a0a hd g2];exact hkh
  refine ⟨by simp [G9,e],fun e2=>?_⟩
  rw [e2,blt,X1] at e;cases e
section
variable {α:Type} {lt:α->α->Bool}
theorem k0v {s:List α} {x:α} (h:∀ y ∈ s,lt x y = false):ins lt x s = s++[x]:=by
 rcases g0X s with rfl | ⟨a,y,rfl⟩
 ·rfl
 ·rw [g0a,h y (by simp)];simp
theorem h0p {l:List α} (h:∀ a x b,l = a++x::b->∀ y ∈ a,lt x y = false):Z5 lt l = l:=by
 have key:∀ (n:Nat),n <= l.length->Z5 lt (l.take n) = l.take n:=by
  intro n
  induction n with
  | zero=>intro _;simp
  | succ n ih =>
   intro hn
   have hs:=c0o (l:=l) (i:=n) (by omega)
   have ht:l.take (n + 1) = l.take n++[l[n]]:=by simp
   rw [ht,c0e,ih (by omega),k0v fun y hy=>h _ _ _ hs y hy]
 have:=key l.length (oqg _)
 rwa [List.take_length] at this
end
theorem f0h {l a b:List TabD} {x y:TabD} (hc:J5 tlt l = true) (e:l = a++x::b) (hy:y ∈ a):tlt y x = true:=by
 subst e
 obtain ⟨a1,a2,rfl⟩:=List.append_of_mem hy
 have h2:J5 tlt (y::(a2++x::b)) = true:=b0k (l:=a1) (by simpa using hc)
 exact c0b m0Z h2 x (by simp)
def ta (t:TabD) (k:BL) (g:Int):TabD:=⟨⟨t.span.lo,k⟩,g,false,t.rows.take (tix t.rows k),t.cache⟩
def tb (t:TabD) (k:BL) (g:Int):TabD:=⟨⟨k,t.span.hi⟩,g,false,t.rows.drop (tix t.rows k),t.cache⟩
theorem g0d {s:Span} {k:BL} (h:G9 s k = true) (hne:s.lo ≠ k):blt s.lo k = true/\(s.hi = [] \/ blt k s.hi = true):=by
 simp only [G9,oqd,Bool.not_eq_true',Bool.or_eq_true,beq_iff_eq] at h
 refine ⟨?_,h.2⟩
 cases hb:blt s.lo k with
 | true=>rfl
 | false=>exact absurd (a0a hb h.1) hne
theorem r0z {s:Span} {k:BL} (os:K4 s = true) (hk:k.length <= 16) (h:G9 s k = true) (hne:s.lo ≠ k):a0S s k = true:=by
 obtain ⟨h1,h2⟩:=g0d h hne
 have h3:=os
 simp only [K4,oqd,oqj] at h3
 have h4:K4 ⟨s.lo,k⟩ = true:=by simp only [K4,oqd,oqj,Bool.or_eq_true];exact ⟨⟨h3.1.1,hk⟩,.inr h1⟩
 simp only [a0S,os,h1,h4,Bool.true_and,Bool.and_true,Bool.or_eq_true,beq_iff_eq]
 exact h2
theorem j0m {l1 l2:List TabD} {t:TabD} {R:List Named} (I:SpI (l1++t::l2) R) {k:BL} (hk:k.length <= 16) (hk0:k ≠ []) (h:G9 t.span k = true) (hne:t.span.lo ≠ k) (g:Int):SpI (l1++ta t k g::tb t k g::l2) R:=by
 have ht:=I.ok t (by simp)
 obtain ⟨h1,h2⟩:=g0d h hne
 have h3:=ht.sp
 simp only [K4,oqd,oqj] at h3
 have htd:t.rows.take (tix t.rows k)++t.rows.drop (tix t.rows k) = t.rows:=List.take_append_drop _ _
 have htbl:=ht.rows
 refine ⟨?_,fun x hx=>?_, ?_,I.tbl⟩
 ·obtain ⟨c1,c2⟩:=contig_app.1 I.con
  refine contig_app.2 ⟨?_,c2⟩
  refine ⟨rfl,hk0, ?_⟩
  cases l2 with
  | nil =>
   have:t.span = ⟨t.span.lo,[]⟩:=c1
   show (tb t k g).span = ⟨k,[]⟩
   unfold tb
   rw [this]
  | cons u ts=>exact ⟨rfl,c1.2.1,c1.2.2⟩
 ·simp only [oqe,oqf] at hx
  rcases hx with hx | rfl | rfl | hx
  ·exact I.ok x (by simp [hx])
  ·refine ⟨?_,rfl, ?_,ht.cache,fun x hx=>?_⟩
   ·show K4 ⟨t.span.lo,k⟩ = true
    simp only [K4,oqd,oqj,Bool.or_eq_true];exact ⟨⟨h3.1.1,hk⟩,.inr h1⟩
   ·exact s0r (A:=[]) (C:=t.rows.drop (tix t.rows k)) (by simpa [ta] using htbl)
   ·have hx2:=ht.inn x (List.mem_of_mem_take hx)
    have hx3:=r0y (p:=fun c:Named=>blt c.name k) hx
    simp only [G9,oqd,Bool.not_eq_true'] at hx2 |-
    exact ⟨hx2.1,by rw [show (ta t k g).span.hi = k from rfl,hx3];simp⟩
  ·refine ⟨?_,rfl, ?_,ht.cache,fun x hx=>?_⟩
   ·show K4 ⟨k,t.span.hi⟩ = true
    simp only [K4,oqd,oqj,Bool.or_eq_true,beq_iff_eq]
    exact ⟨⟨hk,h3.1.2⟩,h2⟩
   ·exact s0r (A:=t.rows.take (tix t.rows k)) (C:=[]) (by simpa [tb] using htbl)
   ·have hx2:=ht.inn x (List.mem_of_mem_drop hx)
    have hx3:=k0a (lt:=f0A) (p:=fun c=>blt c.name k) b0b (fun a b h1 h2=>S1 _ _ _ h1 h2) htbl.srt hx
    simp only [G9,oqd,Bool.not_eq_true'] at hx2 |-
    exact ⟨hx3,hx2.2⟩
  ·exact I.ok x (by simp [hx])
 ·rw [<- I.rows]
  simp only [List.flatMap_append,List.flatMap_cons,ta,tb]
  rw [<- oqh (t.rows.take _),htd]
end Wm
namespace Go.Proofs.YtiagcnfmgigllaaGreat
open Go Go.Ab Wm NumPlain
set_option maxRecDepth 10000
set_option maxHeartbeats 4000000
theorem c0E {h h3:H} {s:Nat} {sp sp':AS} {ps ps':List Pt} {last code last' code':Int} {B:Blk} (w:StAt h s sp ps last code) (w3:StAt h3 s sp' ps' last' code') (g:Fp ((h.new B).new R9) h3 (fpS s sp ps) (fpS s sp' ps')) :
  h3.f (h.next + 1) = some R9/\∀ k,StAt (h3.set (h.next + 1) k) s sp' ps' last' code'/\Fp h (h3.set (h.next + 1) k) (fpS s sp ps) (fpS s sp' ps'):=by
 have wl:=w.fp_lt
 have o1:h.next + 1 ∉ fpS s sp ps:=fun e=>by have:=wl _ e;omega
 refine ⟨by rw [g.keep _ (by simp) o1];simp,fun k=>⟨w3.out (fun e=>?_) k,g.new.new.seto (by omega) k⟩⟩
 rcases g.own _ e with e | e
 ·exact o1 e
 ·simp at e;omega
theorem q0S {h:H} {s:Nat} {sp:AS} {l1 l2:List Pt} {p:Pt} {last code:Int} (w:StAt h s sp (l1++p::l2) last code) (hn:(l1++p::l2).length < 1000) (client seq:Int) (C7:Int) (D5:BL) (L3:BL) (r9:Bool) (l9:Bool) (s8:BL) (c9:Int) (p4:Option BL) (s7:Nat) (o_l:Option (List Change)) (C5:Int) (oo:h0X ⟨C7,D5,L3,⟨r9,l9,s8,⟨c9,p4,s7⟩⟩,o_l,C5⟩ = true) (ol:(ls o_l).length < 9223372036854775807)
  (ocv:(ls p4).length <= 1099511627776) (hf:b0O D5 none (l1++p::l2) = some p) (hin:G9 p.t.span D5 = true) (hfr:p.t.fr = false) (os:K4 p.t.span = true) (ok:TblOk p.t.rows) (okc:CchOk p.t.cache) (hlk:a0D p.t.cache client seq = (none,1)) (hc:0 <= client/\client <= 255) (hs:seq <= 1073741824) :
  ∃ h' p',W K 12 [.one (.ptr s 0 0),.one (ii client),.one (ii seq),.agg [ii 1,ii C7,.str D5,.str L3,.bool r9,.bool l9,.str s8,ii c9,bs p4,.flt s7,sl 6 l8 o_l,ii C5,.str [],.str [],ii 0,.str [],ii 0,ii 0,.nilslc]] h = some (.ret (.agg (c6 (opT p.t.span p.t.rows ⟨C7,D5,L3,⟨r9,l9,s8,⟨c9,p4,s7⟩⟩,o_l,C5⟩).1)) h')/\p'.d = p.d /\
   p'.t = ⟨p.t.span,p.t.gen,false,(opT p.t.span p.t.rows ⟨C7,D5,L3,⟨r9,l9,s8,⟨c9,p4,s7⟩⟩,o_l,C5⟩).2,(a0v p.t.cache client seq (some (b0I (opT p.t.span p.t.rows ⟨C7,D5,L3,⟨r9,l9,s8,⟨c9,p4,s7⟩⟩,o_l,C5⟩).1))).1⟩/\StAt h' s sp (l1++p'::l2) last code/\Fp h h' (fpS s sp (l1++p::l2)) (fpS s sp (l1++p'::l2)):=by
 obtain ⟨q1,q2,q3⟩:=r0m ok os oo hin
 obtain ⟨q4,q5⟩:=s0e ok os oo hin
 have w2:=(w.new ⟨0,[19],true,[ii 1,ii C7,.str D5,.str L3,.bool r9,.bool l9,.str s8,ii c9,bs p4,.flt s7,sl 6 l8 o_l,ii C5,.str [],.str [],ii 0,.str [],ii 0,ii 0,.nilslc]⟩).new R9
 obtain ⟨h3,p',e3,d3,t3,w3,g3⟩:=q0l w2 hn client seq C7 D5 L3 r9 l9 s8 c9 p4 s7 o_l C5 hf hfr ok okc hlk hc hs (fun _=>ocv) q1 (fun x hx=>by have:=(q2 x hx).1;omega) (by omega) (by omega)
 obtain ⟨hz,hk⟩:=c0E w w3 g3
 have e:=s0o (B7:=1) client seq C7 D5 L3 r9 l9 s8 c9 p4 s7 o_l C5 [] [] 0 [] 0 0 none rfl (by simp only [c0j,if_true];exact oo) ol (by simpa only [C9] using e3) hz
 simp only [C9] at e
 exact ⟨_,p',e,d3,t3,(hk _).1,(hk _).2⟩
abbrev g0V (kind g:Int) (lo hi at_:BL):List AS:=[ii kind,ii 0,.str [],.str [],.bool false,.bool false,.str [],ii 0,.nilslc,.flt 0,.nilslc,ii 0,.str lo,.str hi,ii g,.str at_,ii 0,ii 0,.nilslc]
theorem w0F {ps:List Pt} {R:List Named} (I:SpI (ps.map (·.t)) R):∀ a x b,ps = a++x::b->∀ y ∈ a,pLt y x = true/\pLt x y = false:=fun a x b e y hy=>by
 have hc:=b0G I.con I.ok
 have h1:tlt y.t x.t = true:=f0h hc (a:=a.map (·.t)) (x:=x.t) (b:=b.map (·.t)) (by rw [e];simp) (List.mem_map.2 ⟨y,hy,rfl⟩)
 exact ⟨h1,a0c h1⟩
theorem p0N {x y:Span} {t:TabD} (h:blt t.span.lo x.lo = true):d0w x t = false:=by
 unfold d0w
 have:t.span ≠ x:=fun e=>by rw [e,blt,X1] at h;cases h
 simp [this]
theorem r0g {h:H} {s:Nat} {sp:AS} {l1 l2:List Pt} {p:Pt} {last code:Int} {R:List Named} (w:StAt h s sp (l1++p::l2) last code) (hn:(l1++p::l2).length < 16) (I:SpI ((l1++p::l2).map (·.t)) R) (client seq:Int) {k:BL} (hk:k.length <= 16) (hk0:k ≠ [])
  (hh:G9 p.t.span k = true) (hne:p.t.span.lo ≠ k) {g:Int} (hg:last < g) (hg1:1 <= g/\g <= 1073741824) :
  ∃ h' sp' pa pb,W K 12 [.one (.ptr s 0 0),.one (ii client),.one (ii seq),.agg (g0V 5 g p.t.span.lo p.t.span.hi k)] h = some (.ret (.agg (c6 (noA 0))) h')/\StAt h' s sp' (l1++pa::pb::l2) g 0/\SpI ((l1++pa::pb::l2).map (·.t)) R/\pa.t = ta p.t k g/\pb.t = tb p.t k g/\Fp h h' (fpS s sp (l1++p::l2)) (fpS s sp' (l1++pa::pb::l2)):=by
 have hpo:=I.ok p.t (by simp)
 have hso:=r0z hpo.sp hk hh hne
 have hc:=w0F I
 have hi:idx (fun q:Pt=>d0w ⟨p.t.span.lo,p.t.span.hi⟩ q.t) (l1++p::l2) = l1.length:=f0i (fun y hy=>p0N (y:=p.t.span) (hc l1 p l2 rfl y hy).1) (by simp [d0w,hpo.fr])
 have I2:=j0m (l1:=l1.map (·.t)) (l2:=l2.map (·.t)) (t:=p.t) (by simpa using I) hk hk0 hh hne g
 obtain ⟨B,hB⟩:∃ B:Blk,B = ⟨0,[19],true,g0V 5 g p.t.span.lo p.t.span.hi k⟩:=⟨_,rfl⟩
 have w2:=(w.new B).new R9
 obtain ⟨h3,sp',ps',r,e3,w3,g3,hR⟩:=l0H 5 0 [] [] false false [] 0 none 0 none 0 p.t.span.lo p.t.span.hi g k 0 0 none w2 hg 81 (.inr (.inl ⟨rfl,rfl⟩)) (fun ps' r=>r = 0/\∃ pa pb,ps' = l1++pa::l2++[pb]/\pa.t = ta p.t k g/\pb.t = tb p.t k g)
  fun h2 wh gh=>by
   obtain ⟨h3,sp',pa,pb,e,tA,tB,w3,g3⟩:=p0B 5 0 [] [] false false [] 0 none 0 none 0 p.t.span.lo p.t.span.hi g k 0 0 none wh hn hpo.rows hpo.cache hi hso
   exact ⟨h3,sp',_,0,e,w3,g3,by simp at hn |-;omega,rfl,pa,pb,rfl,tA,tB⟩
 obtain ⟨rfl,pa,pb,rfl,tA,tB⟩:=hR
 have hs:Z5 pLt (l1++pa::l2++[pb]) = l1++pa::pb::l2:=by
  have hX:Z5 pLt (l1++pa::l2) = l1++pa::l2:=h0p fun a x b e y hy=>by
   have hm:(l1++pa::l2).map (fun z=>z.t.span.lo) = (l1++p::l2).map (fun z=>z.t.span.lo):=by simp [tA,ta]
   have hal:a.length < (l1++p::l2).length:=by
    have:=congrArg List.length e
    simp at this |-;omega
   have h1:=c0o hal
   have h2:((l1++p::l2)[a.length]).t.span.lo = x.t.span.lo:=by
    have h3:((l1++pa::l2).map fun z=>z.t.span.lo)[a.length]? = some x.t.span.lo:=by rw [e];simp
    rw [hm] at h3
    simp only [List.getElem?_map,List.getElem?_eq_getElem hal,Option.map_some,oqI] at h3
    exact h3
   obtain ⟨j,hj,rfl⟩:=List.getElem_of_mem hy
   have h4:((l1++p::l2)[j]'(by omega)).t.span.lo = (a[j]).t.span.lo:=by
    have h3:((l1++pa::l2).map fun z=>z.t.span.lo)[j]? = some (a[j]).t.span.lo:=by rw [e,List.map_append,List.getElem?_append_left (by simpa using hj)];simp [hj]
    rw [hm] at h3
    have hj2:j < (l1++p::l2).length:=by omega
    simp only [List.getElem?_map,List.getElem?_eq_getElem hj2,Option.map_some,oqI] at h3
    exact h3
   have h5:=(hc _ _ _ h1 ((l1++p::l2)[j]'(by omega)) (by rw [List.mem_iff_getElem];exact ⟨j,by simp;simp at hal;omega,by simp⟩)).2
   unfold pLt at h5 |-
   rw [h2,h4] at h5;exact h5
  rw [c0e,hX]
  have hb2:∀ y ∈ l2,pLt pb y = true:=fun y hy=>by
   have h7:=(d0D (l1:=l1.map (·.t)) (t:=p.t) (l2:=l2.map (·.t)) (by simpa using I.con) (by simpa using I.ok)).1 y.t (List.mem_map.2 ⟨y,hy,rfl⟩)
   have h8:=(g0d hh hne).2
   unfold pLt
   rw [tB]
   have h9:blt k p.t.span.hi = true:=by
    rcases h8 with e | e
    ·exact absurd e h7.1
    ·exact e
   cases hd:blt p.t.span.hi y.t.span.lo with
   | true=>exact S1 _ _ _ h9 hd
   | false=>rw [show y.t.span.lo = p.t.span.hi from (a0a hd h7.2).symm];exact h9
  have hb1:∀ y ∈ l1++[pa],pLt pb y = false:=fun y hy=>by
   have h8:=(g0d hh hne).1
   unfold pLt
   rw [tB]
   rcases oqe.1 hy with hy | hy
   ·exact a0c (S1 _ _ _ (hc l1 p l2 rfl y hy).1 h8)
   ·rw [List.mem_singleton.1 hy,tA];exact a0c h8
  rw [show l1++pa::l2 = (l1++[pa])++l2 by simp,j0L _ _ _ _ hb2,k0v hb1];simp
 rw [hs] at w3 g3
 rw [hB] at e3 g3
 obtain ⟨hz,hk'⟩:=c0E w w3 g3
 have e:=i0A client seq 5 0 [] [] false false [] 0 none 0 none 0 p.t.span.lo p.t.span.hi g k 0 0 none (.inr (.inl rfl)) (by simp only [c0j,Int.reduceEq,if_false,or_self,or_false,if_true];rw [show ({ lo:=p.t.span.lo,hi:=p.t.span.hi }:Span) = p.t.span from rfl,hso];simp [f0q];omega) (by simp) e3 hz
 exact ⟨_,sp',pa,pb,e,(hk' _).1,by simp only [List.map_append,List.map_cons,tA,tB];exact I2,tA,tB,(hk' _).2⟩
end Go.Proofs.YtiagcnfmgigllaaGreat
