/- A part of a proof over the abstract machine. No conditions. -/
import Derived.Test.YtiagcnfmgigllaaGreatC15t
import Derived.Test.YtiagcnfmgigllaaGreatAb5
import Derived.Test.YtiagcnfmgigllaaGreatT37
set_option linter.all false
namespace Wm
open Go Go.Ab
theorem s0v {v:Value} (h:Q0 v = true):(a0r v).length ≤ 21:=by
 unfold Q0 at h
 unfold a0r
 split
 ·rename_i h1
  simp only [h1,d0E] at h
  simp at h
  simp [D7,g9];omega
 ·split
  ·simp [g9]
  ·simp
theorem i0n {α:Type} {f:α→BL} {n:Nat}:∀ {l:List α},(∀ x ∈ l,(f x).length ≤ n)→(l.flatMap f).length ≤ n * l.length
 | [],_=>by simp
 | a::l,h=>by
  have:=i0n (l:=l) (fun x hx=>h x (by simp [hx]))
  have h1:=h a (by simp)
  simp only [List.flatMap_cons,oqa,oqb]
  rw [Nat.mul_add];omega
theorem s0U {c:Column} (h:a0t c = true):(b0a c).length ≤ 100:=by
 simp only [a0t,oqd,oqj,oqn] at h
 have hv:((ls c.l).flatMap a0p).length ≤ 29 * (ls c.l).length:=i0n fun x hx=>by
  have:=h.2.1 x hx
  simp only [a0Y,oqd] at this
  have:=s0v this.2.2
  simp [a0p,a0Z,g9];omega
 have hn:=a0B h.1.1
 have h2:=h.1.2.2
 simp only [b0a,D7,oqa,g9,oqb]
 omega
theorem t0k (o:Row):(g0a o).length ≤ 401:=by
 have h:=L5 o
 unfold g0a f0m
 generalize rowCopy o = r at *
 simp only [P3,oqd,oqj,oqn] at h
 have:=i0n (f:=b0a) (n:=100) (l:=ls r) fun c hc=>s0U (h.1.1 c hc)
 simp only [oqb];omega
theorem i0z {x:Named} (h:I6 x.name = true):(I1 x).length ≤ 421:=by
 have:=t0k x.r
 have:=a0B h
 simp only [I1,D7,oqa,g9];omega
theorem y0P {n:Int} (h:n = 0 ∨ n = 1 ∨ n = 3 ∨ n = 13 ∨ n = 24 ∨ n = 25):h0T n 255 = true:=by
 rcases h with rfl | rfl | rfl | rfl | rfl | rfl <;> rfl
theorem o0T (o:Row) (n:BL) (t:Int) (v:Value):(S8 o n t v).2 = 0 ∨ (S8 o n t v).2 = 1 ∨ (S8 o n t v).2 = 13:=by
 unfold S8
 split
 ·simp
 ·dsimp only
  split <;> simp
theorem u0R (o:Row) (c:Change):(W8 o c).2 = 0 ∨ (W8 o c).2 = 1 ∨ (W8 o c).2 = 13 ∨ (W8 o c).2 = 24:=by
 unfold W8
 split
 ·have:=o0T o c.col c.time c.v;omega
 split
 ·simp
 split
 ·simp
 split
 ·simp
 dsimp only
 generalize (if (M4 o c.col).2 = true then (M4 o c.col).1 else ⟨2,none,9223372036854775808⟩:Value) = w
 by_cases hp:(N8 w c.v).2 = 0
 ·rw [if_pos hp]
  have:=o0T o c.col c.time (N8 w c.v).1
  omega
 ·rw [if_neg hp]
  dsimp only
  unfold N8 at hp ⊢
  split
  ·rename_i h2
   rw [if_pos h2] at hp;exact absurd rfl hp
  ·simp
theorem n0Y:∀ (l:List Change) (o:Row),(W9 o l).2 = 0 ∨ (W9 o l).2 = 1 ∨ (W9 o l).2 = 13 ∨ (W9 o l).2 = 24
 | [],o=>by simp [W9]
 | c::l,o=>by
  simp only [W9]
  split
  ·exact n0Y l _
  ·have:=u0R o c;simpa using this
theorem w0Y (c:Change):F0 c = 0 ∨ F0 c = 1 ∨ F0 c = 24:=by
 unfold F0
 dsimp only
 split
 ·simp
 split
 ·simp
 split
 ·simp
 ·simp
theorem q0q (o:Row) (l:List Change):(apply o l).2 = 0 ∨ (apply o l).2 = 1 ∨ (apply o l).2 = 3 ∨ (apply o l).2 = 13 ∨ (apply o l).2 = 24:=by
 unfold apply
 split
 ·simp
 cases l.find? fun c=>F0 c != 0 with
 | none=>have:=n0Y l (rowCopy o);simp only [f0w];omega
 | some c=>have:=w0Y c;simp only [f0w];omega
theorem w0k (l:List Named) (n:BL) (r:Row):(f0k l n r).2 = 0 ∨ (f0k l n r).2 = 1 ∨ (f0k l n r).2 = 13:=by
 unfold f0k
 split
 ·simp
 split
 ·simp
 split
 ·simp
 split <;> simp
theorem v0Q (l:List Named) (o:Op):h0T (c0t l o).2 255 = true:=by
 apply y0P
 unfold c0t
 dsimp only
 split
 ·simp
 split
 ·have:=w0k l o.row (apply (W7 l o.row).1 (ls o.l)).1;omega
 ·have:=q0q (W7 l o.row).1 (ls o.l);dsimp only;omega
theorem v0T {l:List Named} (ok:TblOk l) (o:Op):TblOk (c0t l o).1:=by
 unfold c0t
 dsimp only
 split
 ·exact ok
 split
 ·exact z0N ok _ _
 ·exact ok
theorem l0H {l:List Named} (ok:TblOk l) (sp:Span) (o:Op):TblOk (opT sp l o).2:=by
 unfold opT
 split
 ·exact ok
 split
 ·exact v0T ok o
 ·exact ok
theorem range_mem {l:List Named} {lo hi:BL} {m:Int}:(∀ x ∈ (T8 l lo hi m).1,x ∈ l)∧(T8 l lo hi m).1.length ≤ 16:=by
 unfold T8
 dsimp only
 have hm:(max 0 (min m 16)).toNat ≤ 16:=by omega
 generalize (if hi = [] then l.length else tix l hi) = e
 split
 ·simp
 split
 ·rename_i h
  exact ⟨fun x hx=>List.mem_of_mem_take (List.mem_of_mem_drop hx),by dsimp only;omega⟩
 ·exact ⟨fun x hx=>List.mem_of_mem_take (List.mem_of_mem_drop (List.mem_of_mem_take hx)),by simp;omega⟩
theorem q0k {l:List Named} (ok:TblOk l) {lo hi:BL} {m:Int} (h1:1 ≤ m) (hn:(T8 l lo hi m).2 ≠ []):I6 (T8 l lo hi m).2 = true∧blt lo (T8 l lo hi m).2 = true:=by
 unfold T8 at hn ⊢
 dsimp only at hn ⊢
 have hm:1 ≤ (max 0 (min m 16)).toNat:=by omega
 generalize (max 0 (min m 16)).toNat = M at *
 generalize he:(if hi = [] then l.length else tix l hi) = e at *
 have hel:e ≤ l.length:=by rw [← he];split;exact oqg _;exact d0e _ _
 split at hn
 ·simp at hn
 rename_i hc
 rw [if_neg hc]
 split at hn
 ·simp at hn
 rename_i hc2
 rw [if_neg hc2]
 have hM:M < ((l.take e).drop (tix l lo)).length:=by omega
 simp only [List.getElem?_eq_getElem hM]
 have hM2:tix l lo + M < l.length:=by simp at hM;omega
 have hx:((l.take e).drop (tix l lo))[M] = l[tix l lo + M]:=by simp
 rw [hx]
 refine ⟨ok.nm _ (List.getElem_mem _), ?_⟩
 have h0:=m0T ok.srt lo (tix l lo) (by omega)
 have h3:d0G l[tix l lo] l[tix l lo + M] = true:=(P4 a0u).1 ok.srt _ _ (by omega) hM2
 have h4:¬ X6 l[tix l lo].name lo < 0:=fun e=>by have:=h0.2 e;omega
 rw [d0n] at h4
 simp only [d0G] at h3
 cases hb:blt lo l[tix l lo + M].name with
 | true=>rfl
 | false =>
  exfalso
  apply h4
  have h5:blt l[tix l lo + M].name lo = true ∨ l[tix l lo + M].name = lo:=by
   cases hc:blt l[tix l lo + M].name lo with
   | true=>exact .inl rfl
   | false=>exact .inr (a0F hc hb)
  rcases h5 with h5 | h5
  ·exact U0 _ _ _ h3 h5
  ·rw [h5] at h3;exact h3
theorem k0M {l:List Named} (ok:TblOk l) {sp:Span} (os:H5 sp = true) {o:Op} (oo:g0N o = true) (hi:K8 sp o.row = true):c0B (opT sp l o).1 = true∧(∀ x ∈ ls (opT sp l o).1.rows,(ls x.r).length ≤ 4∧I6 x.name = true)∧(ls (opT sp l o).1.rows).length ≤ 16:=by
 have hz:H5 ⟨[],[]⟩ = true:=rfl
 have hno:∀ n,h0T n 255 = true→c0B (noA n) = true:=fun n h=>by
  simp only [c0B,noA,h];rfl
 have rw4:∀ x ∈ l,P3 x.r = true:=fun x hx=>by have:=L5 x.r;rwa [(ok.row x hx).1] at this
 have len4:∀ r:Row,P3 r = true→(ls r).length ≤ 4:=fun r h=>by simp only [P3,oqd,oqj] at h;exact h.2
 unfold opT
 unfold g0N at oo
 split at oo
 ·rename_i k1
  rw [if_pos k1]
  split
  ·have hr:P3 (W7 l o.row).1 = true:=by
    unfold W7
    split
    ·exact L5 _
    ·rfl
   refine ⟨?_,fun x hx=>?_,by simp⟩
   ·simp only [c0B,H1,List.all_cons,List.all_nil,oo,hr,hz];rfl
   ·simp at hx;subst hx;exact ⟨len4 _ hr,oo⟩
  ·exact ⟨hno 0 rfl,by simp [noA],by simp [noA]⟩
 split at oo
 ·rename_i k1 k2
  rw [if_neg k1,if_pos k2]
  exact ⟨hno _ (v0Q l o),by simp [noA],by simp [noA]⟩
 split at oo
 ·rename_i k1 k2 k3
  rw [if_neg k1,if_neg k2]
  simp only [oqd,oqj] at oo
  obtain ⟨o1,o2,o3⟩:=oo
  obtain ⟨m1,m2⟩:=range_mem (l:=l) (lo:=o.row) (hi:=hiT sp o.hi) (m:=o.most)
  have hsp:H5 ⟨o.row,if (T8 l o.row (hiT sp o.hi) o.most).2 = [] then hiT sp o.hi else (T8 l o.row (hiT sp o.hi) o.most).2⟩ = true:=by
   simp only [H5,oqd,oqj] at o1 os ⊢
   split
   ·unfold hiT
    split
    ·exact o1
    ·refine ⟨⟨o1.1.1,os.1.2⟩, ?_⟩
     simp only [K8,oqd] at hi
     exact hi.2
   ·rename_i hn
    obtain ⟨g1,g2⟩:=q0k ok o2 hn
    exact ⟨⟨o1.1.1,a0B g1⟩,by rw [g2];simp⟩
  refine ⟨?_,fun x hx=>?_,by simpa using m2⟩
  ·have hall:((T8 l o.row (hiT sp o.hi) o.most).1.all fun x=>I6 x.name && P3 x.r) = true:=oqn.2 fun x hx=>by rw [ok.nm x (m1 x hx),rw4 x (m1 x hx)];rfl
   simp only [c0B,a0d,hall,hsp,decide_eq_true m2];rfl
  ·simp only [a0d] at hx
   exact ⟨len4 _ (rw4 x (m1 x hx)),ok.nm x (m1 x hx)⟩
 ·cases oo
theorem r0K {l:List Named} (ok:TblOk l) {sp:Span} (os:H5 sp = true) {o:Op} (oo:g0N o = true) (hi:K8 sp o.row = true):((ls (opT sp l o).1.rows).flatMap I1).length ≤ 6736∧(c0Q (opT sp l o).1).length ≤ 1100000:=by
 obtain ⟨h1,h2,h3⟩:=k0M ok os oo hi
 have h4:=i0n (f:=I1) (n:=421) (l:=ls (opT sp l o).1.rows) fun x hx=>i0z (h2 x hx).2
 refine ⟨by omega, ?_⟩
 simp only [c0B,H5,oqd,oqj] at h1
 obtain ⟨_,_,_,_,⟨⟨o1,o2⟩,_⟩,o3,o4⟩:=h1
 simp only [d0E] at o4
 simp only [c0Q,I9,D7,L7,g9,oqa,oqb];omega
theorem v0O {l:List Tld} {c s:Int} (h1:1 ≤ s) (h:∀ x ∈ l,x.client = c→x.seq < s):b0V l c s = (none,1):=by
 unfold b0V
 dsimp only
 cases hT:g0B l c with
 | false=>simp;omega
 | true =>
  obtain ⟨hi,hc⟩:=j0f hT
  have:=h _ (List.getElem_mem hi) hc
  simp only [List.getElem?_eq_getElem hi,Option.getD_some]
  rw [if_neg (by simp;omega),if_neg (by simp;omega)]
theorem j0N {l:List Tld} {c s:Int} {b:Option BL}:∀ x ∈ (X4 l c s b).1,x ∈ l ∨ x = ⟨c,s,b⟩:=by
 intro x hx
 unfold X4 at hx
 split at hx
 ·exact .inl hx
 split at hx
 ·exact List.mem_or_eq_of_mem_set hx
 ·rw [a0E (m0N _ _)] at hx
  rcases oqe.1 hx with h | h
  ·exact .inl (List.mem_of_mem_take h)
  ·rcases oqf.1 h with h | h
   ·exact .inr h
   ·exact .inl (List.mem_of_mem_drop h)
def b0o:BL→List TabD→Prop
 | _,[]=>False
 | lo,[t]=>t.span = ⟨lo,[]⟩
 | lo,t::u::ts=>t.span.lo = lo∧t.span.hi ≠ []∧b0o t.span.hi (u::ts)
structure SpT (t:TabD):Prop where
 sp:H5 t.span = true
 fr:t.fr = false
 rows:TblOk t.rows
 cache:CchOk t.cache
 inn:∀ x ∈ t.rows,K8 t.span x.name = true
structure SpI (ts:List TabD) (R:List Named):Prop where
 con:b0o [] ts
 ok:∀ t ∈ ts,SpT t
 rows:ts.flatMap (·.rows) = R
 tbl:TblOk R
theorem h0J:∀ {lo:BL} {t:TabD} {ts:List TabD},b0o lo (t::ts)→t.span.lo = lo
 | lo,t,[],h=>by have:t.span = ⟨lo,[]⟩:=h;rw [this]
 | lo,t,u::ts,h=>h.1
theorem m0p {lo:BL} {t u:TabD} {ts:List TabD} (h:b0o lo (t::u::ts)):t.span.hi = u.span.lo:=(h0J h.2.2).symm
theorem F0s {t:TabD} (h:SpT t) (hh:t.span.hi ≠ []):blt t.span.lo t.span.hi = true:=by
 have:=h.sp
 simp only [H5,oqd,Bool.or_eq_true,beq_iff_eq] at this
 rcases this.2 with e | e
 ·exact absurd e hh
 ·exact e
theorem l0M (a b c:TabD) (h1:tlt a b = true) (h2:tlt b c = true):tlt a c = true:=U0 _ _ _ h1 h2
theorem d0w:∀ {lo:BL} {ts:List TabD},b0o lo ts→(∀ t ∈ ts,SpT t)→F9 tlt ts = true
 | _,[],h,_=>h.elim
 | _,[_],_,_=>rfl
 | lo,t::u::ts,h,ok=>by
  simp only [F9,oqd]
  refine ⟨?_,d0w h.2.2 fun x hx=>ok x (by simp [hx])⟩
  have:=F0s (ok t (by simp)) h.2.1
  rw [m0p h] at this;exact this
theorem contig_app:∀ {lo:BL} {l1:List TabD} {t:TabD} {l2:List TabD},b0o lo (l1++t::l2) ↔ b0o t.span.lo (t::l2)∧(match l1 with | []=>t.span.lo = lo | _=>b0o lo (l1++[⟨⟨t.span.lo,[]⟩,0,false,[],[]⟩]))
 | lo,[],t,l2=>by
  simp only [oql]
  constructor
  ·intro h
   have:=h0J h
   subst this;exact ⟨h,rfl⟩
  ·rintro ⟨h,rfl⟩;exact h
 | lo,[a],t,l2=>by
  simp only [oqm,oql,b0o]
  constructor
  ·rintro ⟨h1,h2,h3⟩
   have:=h0J h3
   rw [this]
   exact ⟨h3,h1,h2,rfl⟩
  ·rintro ⟨h3,h1,h2,h4⟩
   simp only [Span.mk.injEq,and_true] at h4
   rw [h4] at h3;exact ⟨h1,h2,h3⟩
 | lo,a::b::l1,t,l2=>by
  have ih:=contig_app (lo:=a.span.hi) (l1:=b::l1) (t:=t) (l2:=l2)
  simp only [oqm,b0o] at ih ⊢
  rw [ih]
  constructor
  ·rintro ⟨h1,h2,h3,h4⟩;exact ⟨h3,h1,h2,h4⟩
  ·rintro ⟨h3,h1,h2,h4⟩;exact ⟨h1,h2,h3,h4⟩
theorem r0R {A B C:List Named} (h:TblOk (A++(B++C))):TblOk B:=by
 refine ⟨c0r (a0C h.srt),fun x hx=>h.nm x (by simp [hx]),fun x hx=>h.row x (by simp [hx]), ?_⟩
 have:=h.len
 simp only [oqa] at this;omega
theorem l0f {lo:BL} {l1:List TabD} {t:TabD} {l2:List TabD} (h:b0o lo (l1++t::l2)) (ok:∀ x ∈ l1++t::l2,SpT x):(∀ y ∈ l2,t.span.hi ≠ []∧blt y.span.lo t.span.hi = false)∧∀ y ∈ l1,y.span.hi ≠ []∧blt t.span.lo y.span.hi = false:=by
 have key:∀ {lo:BL} {t:TabD} {l2:List TabD},b0o lo (t::l2)→(∀ x ∈ t::l2,SpT x)→∀ y ∈ l2,t.span.hi ≠ []∧blt y.span.lo t.span.hi = false:=by
  intro lo t l2 h ok y hy
  cases l2 with
  | nil=>cases hy
  | cons u ts =>
   refine ⟨h.2.1, ?_⟩
   have hc:=d0w h.2.2 fun x hx=>ok x (by simp [hx])
   rw [m0p h]
   rcases oqf.1 hy with rfl | hy
   ·exact X9 _
   ·exact b0j (b0m l0M hc y hy)
 refine ⟨key ((contig_app.1 h).1) fun x hx=>ok x (by simp only [oqe];exact .inr hx),fun y hy=>?_⟩
 obtain ⟨a,b,rfl⟩:=List.append_of_mem hy
 have h2:b0o lo (a++y::(b++t::l2)):=by simpa using h
 have:=key ((contig_app.1 h2).1) (fun x hx=>ok x (by simp at hx ⊢;rcases hx with e | e | e | e <;> simp [e])) t (by simp)
 exact this
section
variable {α:Type} {lt:α→α→Bool}
theorem n0S {s:List α} {x:α} (h:∀ y ∈ s,lt x y = false):ins lt x s = s++[x]:=by
 rcases g0q s with rfl | ⟨a,y,rfl⟩
 ·rfl
 ·rw [d0N,h y (by simp)];simp
theorem q0z {l:List α} (h:∀ a x b,l = a++x::b→∀ y ∈ a,lt x y = false):X0 lt l = l:=by
 have key:∀ (n:Nat),n ≤ l.length→X0 lt (l.take n) = l.take n:=by
  intro n
  induction n with
  | zero=>intro _;simp
  | succ n ih =>
   intro hn
   have hs:=b0Y (l:=l) (i:=n) (by omega)
   have ht:l.take (n + 1) = l.take n++[l[n]]:=by simp
   rw [ht,b0Q,ih (by omega),n0S fun y hy=>h _ _ _ hs y hy]
 have:=key l.length (oqg _)
 rwa [List.take_length] at this
end
theorem m0W {l a b:List TabD} {x y:TabD} (hc:F9 tlt l = true) (e:l = a++x::b) (hy:y ∈ a):tlt y x = true:=by
 subst e
 obtain ⟨a1,a2,rfl⟩:=List.append_of_mem hy
 have h2:F9 tlt (y::(a2++x::b)) = true:=a0C (l:=a1) (by simpa using hc)
 exact b0m l0M h2 x (by simp)
def ta (t:TabD) (k:BL) (g:Int):TabD:=⟨⟨t.span.lo,k⟩,g,false,t.rows.take (tix t.rows k),t.cache⟩
def tb (t:TabD) (k:BL) (g:Int):TabD:=⟨⟨k,t.span.hi⟩,g,false,t.rows.drop (tix t.rows k),t.cache⟩
theorem j0j {s:Span} {k:BL} (h:K8 s k = true) (hne:s.lo ≠ k):blt s.lo k = true∧(s.hi = [] ∨ blt k s.hi = true):=by
 simp only [K8,oqd,Bool.not_eq_true',Bool.or_eq_true,beq_iff_eq] at h
 refine ⟨?_,h.2⟩
 cases hb:blt s.lo k with
 | true=>rfl
 | false=>exact absurd (a0F hb h.1) hne
theorem q0a {s:Span} {k:BL} (os:H5 s = true) (hk:k.length ≤ 16) (h:K8 s k = true) (hne:s.lo ≠ k):b0s s k = true:=by
 obtain ⟨h1,h2⟩:=j0j h hne
 have h3:=os
 simp only [H5,oqd,oqj] at h3
 have h4:H5 ⟨s.lo,k⟩ = true:=by simp only [H5,oqd,oqj,Bool.or_eq_true];exact ⟨⟨h3.1.1,hk⟩,.inr h1⟩
 simp only [b0s,os,h1,h4,Bool.true_and,Bool.and_true,Bool.or_eq_true,beq_iff_eq]
 exact h2
theorem o0u {l1 l2:List TabD} {t:TabD} {R:List Named} (I:SpI (l1++t::l2) R) {k:BL} (hk:k.length ≤ 16) (hk0:k ≠ []) (h:K8 t.span k = true) (hne:t.span.lo ≠ k) (g:Int):SpI (l1++ta t k g::tb t k g::l2) R:=by
 have ht:=I.ok t (by simp)
 obtain ⟨h1,h2⟩:=j0j h hne
 have h3:=ht.sp
 simp only [H5,oqd,oqj] at h3
 have htd:t.rows.take (tix t.rows k)++t.rows.drop (tix t.rows k) = t.rows:=List.take_append_drop _ _
 have htbl:=ht.rows
 refine ⟨?_,fun x hx=>?_, ?_,I.tbl⟩
 ·obtain ⟨c1,c2⟩:=contig_app.1 I.con
  refine contig_app.2 ⟨?_,c2⟩
  refine ⟨rfl,hk0, ?_⟩
  cases l2 with
  | nil =>
   have:t.span = ⟨t.span.lo,[]⟩:=c1
   show (tb t k g).span = ⟨k,[]⟩
   unfold tb
   rw [this]
  | cons u ts=>exact ⟨rfl,c1.2.1,c1.2.2⟩
 ·simp only [oqe,oqf] at hx
  rcases hx with hx | rfl | rfl | hx
  ·exact I.ok x (by simp [hx])
  ·refine ⟨?_,rfl, ?_,ht.cache,fun x hx=>?_⟩
   ·show H5 ⟨t.span.lo,k⟩ = true
    simp only [H5,oqd,oqj,Bool.or_eq_true];exact ⟨⟨h3.1.1,hk⟩,.inr h1⟩
   ·exact r0R (A:=[]) (C:=t.rows.drop (tix t.rows k)) (by simpa [ta] using htbl)
   ·have hx2:=ht.inn x (List.mem_of_mem_take hx)
    have hx3:=q0f (p:=fun c:Named=>blt c.name k) hx
    simp only [K8,oqd,Bool.not_eq_true'] at hx2 ⊢
    exact ⟨hx2.1,by rw [show (ta t k g).span.hi = k from rfl,hx3];simp⟩
  ·refine ⟨?_,rfl, ?_,ht.cache,fun x hx=>?_⟩
   ·show H5 ⟨k,t.span.hi⟩ = true
    simp only [H5,oqd,oqj,Bool.or_eq_true,beq_iff_eq]
    exact ⟨⟨hk,h3.1.2⟩,h2⟩
   ·exact r0R (A:=t.rows.take (tix t.rows k)) (C:=[]) (by simpa [tb] using htbl)
   ·have hx2:=ht.inn x (List.mem_of_mem_drop hx)
    have hx3:=k0Y (lt:=d0G) (p:=fun c=>blt c.name k) a0u (fun a b h1 h2=>U0 _ _ _ h1 h2) htbl.srt hx
    simp only [K8,oqd,Bool.not_eq_true'] at hx2 ⊢
    exact ⟨hx3,hx2.2⟩
  ·exact I.ok x (by simp [hx])
 ·rw [← I.rows]
  simp only [List.flatMap_append,List.flatMap_cons,ta,tb]
  rw [← oqh (t.rows.take _),htd]
end Wm
namespace Go.Proofs.YtiagcnfmgigllaaGreat
open Go Go.Ab Wm NumPlain
set_option maxRecDepth 10000
set_option maxHeartbeats 4000000
theorem f0q {h h3:H} {s:Nat} {sp sp':AS} {ps ps':List Pt} {last code last' code':Int} {B:Blk} (w:StAt h s sp ps last code) (w3:StAt h3 s sp' ps' last' code') (g:Fp ((h.new B).new a0w) h3 (fpS s sp ps) (fpS s sp' ps')) :
  h3.f (h.next + 1) = some a0w∧∀ k,StAt (h3.set (h.next + 1) k) s sp' ps' last' code'∧Fp h (h3.set (h.next + 1) k) (fpS s sp ps) (fpS s sp' ps'):=by
 have wl:=w.fp_lt
 have o1:h.next + 1 ∉ fpS s sp ps:=fun e=>by have:=wl _ e;omega
 refine ⟨by rw [g.keep _ (by simp) o1];simp,fun k=>⟨w3.out (fun e=>?_) k,g.new.new.seto (by omega) k⟩⟩
 rcases g.own _ e with e | e
 ·exact o1 e
 ·simp at e;omega
theorem x0u {h:H} {s:Nat} {sp:AS} {l1 l2:List Pt} {p:Pt} {last code:Int} (w:StAt h s sp (l1++p::l2) last code) (hn:(l1++p::l2).length < 1000) (client seq:Int) (B5:Int) (C7:BL) (I0:BL) (p5:Bool) (l6:Bool) (p4:BL) (i9:Int) (l9:Option BL) (p6:Nat) (o_l:Option (List Change)) (A7:Int) (oo:g0N ⟨B5,C7,I0,⟨p5,l6,p4,⟨i9,l9,p6⟩⟩,o_l,A7⟩ = true) (ol:(ls o_l).length < 9223372036854775807)
  (ocv:(ls l9).length ≤ 1099511627776) (hf:d0C C7 none (l1++p::l2) = some p) (hin:K8 p.t.span C7 = true) (hfr:p.t.fr = false) (os:H5 p.t.span = true) (ok:TblOk p.t.rows) (okc:CchOk p.t.cache) (hlk:b0V p.t.cache client seq = (none,1)) (hc:0 ≤ client∧client ≤ 255) (hs:seq ≤ 1073741824) :
  ∃ h' p',W K 12 [.one (.ptr s 0 0),.one (ii client),.one (ii seq),.agg [ii 1,ii B5,.str C7,.str I0,.bool p5,.bool l6,.str p4,ii i9,bs l9,.flt p6,sl 6 l7 o_l,ii A7,.str [],.str [],ii 0,.str [],ii 0,ii 0,.nilslc]] h = some (.ret (.agg (l8 (opT p.t.span p.t.rows ⟨B5,C7,I0,⟨p5,l6,p4,⟨i9,l9,p6⟩⟩,o_l,A7⟩).1)) h')∧p'.d = p.d ∧
   p'.t = ⟨p.t.span,p.t.gen,false,(opT p.t.span p.t.rows ⟨B5,C7,I0,⟨p5,l6,p4,⟨i9,l9,p6⟩⟩,o_l,A7⟩).2,(X4 p.t.cache client seq (some (c0Q (opT p.t.span p.t.rows ⟨B5,C7,I0,⟨p5,l6,p4,⟨i9,l9,p6⟩⟩,o_l,A7⟩).1))).1⟩∧StAt h' s sp (l1++p'::l2) last code∧Fp h h' (fpS s sp (l1++p::l2)) (fpS s sp (l1++p'::l2)):=by
 obtain ⟨q1,q2,q3⟩:=k0M ok os oo hin
 obtain ⟨q4,q5⟩:=r0K ok os oo hin
 have w2:=(w.new ⟨0,[19],true,[ii 1,ii B5,.str C7,.str I0,.bool p5,.bool l6,.str p4,ii i9,bs l9,.flt p6,sl 6 l7 o_l,ii A7,.str [],.str [],ii 0,.str [],ii 0,ii 0,.nilslc]⟩).new a0w
 obtain ⟨h3,p',e3,d3,t3,w3,g3⟩:=o0Z w2 hn client seq B5 C7 I0 p5 l6 p4 i9 l9 p6 o_l A7 hf hfr ok okc hlk hc hs (fun _=>ocv) q1 (fun x hx=>by have:=(q2 x hx).1;omega) (by omega) (by omega)
 obtain ⟨hz,hk⟩:=f0q w w3 g3
 have e:=A0v (B6:=1) client seq B5 C7 I0 p5 l6 p4 i9 l9 p6 o_l A7 [] [] 0 [] 0 0 none rfl (by simp only [g0U,if_true];exact oo) ol (by simpa only [C4] using e3) hz
 simp only [C4] at e
 exact ⟨_,p',e,d3,t3,(hk _).1,(hk _).2⟩
abbrev v0B (kind g:Int) (lo hi at_:BL):List AS:=[ii kind,ii 0,.str [],.str [],.bool false,.bool false,.str [],ii 0,.nilslc,.flt 0,.nilslc,ii 0,.str lo,.str hi,ii g,.str at_,ii 0,ii 0,.nilslc]
theorem w0s {ps:List Pt} {R:List Named} (I:SpI (ps.map (·.t)) R):∀ a x b,ps = a++x::b→∀ y ∈ a,pLt y x = true∧pLt x y = false:=fun a x b e y hy=>by
 have hc:=d0w I.con I.ok
 have h1:tlt y.t x.t = true:=m0W hc (a:=a.map (·.t)) (x:=x.t) (b:=b.map (·.t)) (by rw [e];simp) (List.mem_map.2 ⟨y,hy,rfl⟩)
 exact ⟨h1,b0j h1⟩
theorem x0r {x y:Span} {t:TabD} (h:blt t.span.lo x.lo = true):d0O x t = false:=by
 unfold d0O
 have:t.span ≠ x:=fun e=>by rw [e,blt,X9] at h;cases h
 simp [this]
theorem q0V {h:H} {s:Nat} {sp:AS} {l1 l2:List Pt} {p:Pt} {last code:Int} {R:List Named} (w:StAt h s sp (l1++p::l2) last code) (hn:(l1++p::l2).length < 16) (I:SpI ((l1++p::l2).map (·.t)) R) (client seq:Int) {k:BL} (hk:k.length ≤ 16) (hk0:k ≠ [])
  (hh:K8 p.t.span k = true) (hne:p.t.span.lo ≠ k) {g:Int} (hg:last < g) (hg1:1 ≤ g∧g ≤ 1073741824) :
  ∃ h' sp' pa pb,W K 12 [.one (.ptr s 0 0),.one (ii client),.one (ii seq),.agg (v0B 5 g p.t.span.lo p.t.span.hi k)] h = some (.ret (.agg (l8 (noA 0))) h')∧StAt h' s sp' (l1++pa::pb::l2) g 0∧SpI ((l1++pa::pb::l2).map (·.t)) R∧pa.t = ta p.t k g∧pb.t = tb p.t k g∧Fp h h' (fpS s sp (l1++p::l2)) (fpS s sp' (l1++pa::pb::l2)):=by
 have hpo:=I.ok p.t (by simp)
 have hso:=q0a hpo.sp hk hh hne
 have hc:=w0s I
 have hi:idx (fun q:Pt=>d0O ⟨p.t.span.lo,p.t.span.hi⟩ q.t) (l1++p::l2) = l1.length:=f0u (fun y hy=>x0r (y:=p.t.span) (hc l1 p l2 rfl y hy).1) (by simp [d0O,hpo.fr])
 have I2:=o0u (l1:=l1.map (·.t)) (l2:=l2.map (·.t)) (t:=p.t) (by simpa using I) hk hk0 hh hne g
 obtain ⟨B,hB⟩:∃ B:Blk,B = ⟨0,[19],true,v0B 5 g p.t.span.lo p.t.span.hi k⟩:=⟨_,rfl⟩
 have w2:=(w.new B).new a0w
 obtain ⟨h3,sp',ps',r,e3,w3,g3,hR⟩:=p0c 5 0 [] [] false false [] 0 none 0 none 0 p.t.span.lo p.t.span.hi g k 0 0 none w2 hg 81 (.inr (.inl ⟨rfl,rfl⟩)) (fun ps' r=>r = 0∧∃ pa pb,ps' = l1++pa::l2++[pb]∧pa.t = ta p.t k g∧pb.t = tb p.t k g)
  fun h2 wh gh=>by
   obtain ⟨h3,sp',pa,pb,e,tA,tB,w3,g3⟩:=w0R 5 0 [] [] false false [] 0 none 0 none 0 p.t.span.lo p.t.span.hi g k 0 0 none wh hn hpo.rows hpo.cache hi hso
   exact ⟨h3,sp',_,0,e,w3,g3,by simp at hn ⊢;omega,rfl,pa,pb,rfl,tA,tB⟩
 obtain ⟨rfl,pa,pb,rfl,tA,tB⟩:=hR
 have hs:X0 pLt (l1++pa::l2++[pb]) = l1++pa::pb::l2:=by
  have hX:X0 pLt (l1++pa::l2) = l1++pa::l2:=q0z fun a x b e y hy=>by
   have hm:(l1++pa::l2).map (fun z=>z.t.span.lo) = (l1++p::l2).map (fun z=>z.t.span.lo):=by simp [tA,ta]
   have hal:a.length < (l1++p::l2).length:=by
    have:=congrArg List.length e
    simp at this ⊢;omega
   have h1:=b0Y hal
   have h2:((l1++p::l2)[a.length]).t.span.lo = x.t.span.lo:=by
    have h3:((l1++pa::l2).map fun z=>z.t.span.lo)[a.length]? = some x.t.span.lo:=by rw [e];simp
    rw [hm] at h3
    simp only [List.getElem?_map,List.getElem?_eq_getElem hal,Option.map_some,oqI] at h3
    exact h3
   obtain ⟨j,hj,rfl⟩:=List.getElem_of_mem hy
   have h4:((l1++p::l2)[j]'(by omega)).t.span.lo = (a[j]).t.span.lo:=by
    have h3:((l1++pa::l2).map fun z=>z.t.span.lo)[j]? = some (a[j]).t.span.lo:=by rw [e,List.map_append,List.getElem?_append_left (by simpa using hj)];simp [hj]
    rw [hm] at h3
    have hj2:j < (l1++p::l2).length:=by omega
    simp only [List.getElem?_map,List.getElem?_eq_getElem hj2,Option.map_some,oqI] at h3
    exact h3
   have h5:=(hc _ _ _ h1 ((l1++p::l2)[j]'(by omega)) (by rw [List.mem_iff_getElem];exact ⟨j,by simp;simp at hal;omega,by simp⟩)).2
   unfold pLt at h5 ⊢
   rw [h2,h4] at h5;exact h5
  rw [b0Q,hX]
  have hb2:∀ y ∈ l2,pLt pb y = true:=fun y hy=>by
   have h7:=(l0f (l1:=l1.map (·.t)) (t:=p.t) (l2:=l2.map (·.t)) (by simpa using I.con) (by simpa using I.ok)).1 y.t (List.mem_map.2 ⟨y,hy,rfl⟩)
   have h8:=(j0j hh hne).2
   unfold pLt
   rw [tB]
   have h9:blt k p.t.span.hi = true:=by
    rcases h8 with e | e
    ·exact absurd e h7.1
    ·exact e
   cases hd:blt p.t.span.hi y.t.span.lo with
   | true=>exact U0 _ _ _ h9 hd
   | false=>rw [show y.t.span.lo = p.t.span.hi from (a0F hd h7.2).symm];exact h9
  have hb1:∀ y ∈ l1++[pa],pLt pb y = false:=fun y hy=>by
   have h8:=(j0j hh hne).1
   unfold pLt
   rw [tB]
   rcases oqe.1 hy with hy | hy
   ·exact b0j (U0 _ _ _ (hc l1 p l2 rfl y hy).1 h8)
   ·rw [List.mem_singleton.1 hy,tA];exact b0j h8
  rw [show l1++pa::l2 = (l1++[pa])++l2 by simp,n0s _ _ _ _ hb2,n0S hb1];simp
 rw [hs] at w3 g3
 rw [hB] at e3 g3
 obtain ⟨hz,hk'⟩:=f0q w w3 g3
 have e:=l0T client seq 5 0 [] [] false false [] 0 none 0 none 0 p.t.span.lo p.t.span.hi g k 0 0 none (.inr (.inl rfl)) (by simp only [g0U,Int.reduceEq,if_false,or_self,or_false,if_true];rw [show ({ lo:=p.t.span.lo,hi:=p.t.span.hi }:Span) = p.t.span from rfl,hso];simp [g0X];omega) (by simp) e3 hz
 exact ⟨_,sp',pa,pb,e,(hk' _).1,by simp only [List.map_append,List.map_cons,tA,tB];exact I2,tA,tB,(hk' _).2⟩
end Go.Proofs.YtiagcnfmgigllaaGreat
