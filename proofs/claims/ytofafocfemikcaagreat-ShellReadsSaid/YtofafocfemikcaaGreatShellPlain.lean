/- A part of a proof over the abstract machine. No conditions. -/
namespace ShellPlain
abbrev BL:=List UInt8
structure It where
 k:Int
 g:Int
 n:Int
 c:Int
 b:BL
structure Sc where
 g:Int
 n:Int
 c:Int
 l:List It
def small (n:Int):Bool:=decide (0 ≤ n) && decide (n ≤ 255)
def num (n:Int):Bool:=decide (0 ≤ n) && decide (n ≤ 65535)
def okI (x:It):Bool :=
 if x.k = 1 then small x.g && small x.c && num x.n
 else if x.k = 2 ∨ x.k = 3 ∨ x.k = 4 then num x.n
 else if x.k = 5 then small x.g && num x.n
 else if x.k = 6 then small x.c && decide (x.b.length ≤ 65535)
 else if x.k = 7 then decide (x.b.length ≤ 65535)
 else decide (x.k = 8)
def okS (s:Sc):Bool:=decide (s.l.length ≤ 256) && (small s.g && small s.n && small s.c) && s.l.all okI
def by1 (n:Int):UInt8:=UInt8.ofNat (n % 256).toNat
def two (n:Int):BL:=[by1 (n / 256),by1 n]
def itB (x:It):BL :=
 by1 x.k ::
 (if x.k = 1 then [by1 x.g,by1 x.c]++two x.n
 else if x.k = 2 ∨ x.k = 3 ∨ x.k = 4 then two x.n
 else if x.k = 5 then [by1 x.g]++two x.n
 else if x.k = 6 then [by1 x.c]++(two x.b.length++x.b)
 else if x.k = 7 then two x.b.length++x.b
 else [])
def scB (s:Sc):BL:=[by1 s.g,by1 s.n,by1 s.c]++s.l.flatMap itB
def int2 (a b:UInt8):Int:=(a.toNat * 256 + b.toNat:Nat)
def item (k:Nat) (r:BL):Option (It × BL) :=
 if k = 1 then match r with
  | g::c::a::b::r=>some (⟨1,g.toNat,int2 a b,c.toNat,[]⟩,r)
  | _=>none
 else if k = 2 ∨ k = 3 ∨ k = 4 then match r with
  | a::b::r=>some (⟨k,0,int2 a b,0,[]⟩,r)
  | _=>none
 else if k = 5 then match r with
  | g::a::b::r=>some (⟨5,g.toNat,int2 a b,0,[]⟩,r)
  | _=>none
 else if k = 6 then match r with
  | c::a::b::r=>if a.toNat * 256 + b.toNat ≤ r.length then some (⟨6,0,0,c.toNat,r.take (a.toNat * 256 + b.toNat)⟩,r.drop (a.toNat * 256 + b.toNat)) else none
  | _=>none
 else if k = 7 then match r with
  | a::b::r=>if a.toNat * 256 + b.toNat ≤ r.length then some (⟨7,0,0,0,r.take (a.toNat * 256 + b.toNat)⟩,r.drop (a.toNat * 256 + b.toNat)) else none
  | _=>none
 else some (⟨k,0,0,0,[]⟩,r)
theorem item_le {k:Nat} {r r':BL} {x:It} (h:item k r = some (x,r')):r'.length ≤ r.length:=by
 unfold item at h
 split at h
 ·split at h
  ·simp only [Option.some.injEq,Prod.mk.injEq] at h;obtain ⟨_,rfl⟩:=h;simp;omega
  ·cases h
 split at h
 ·split at h
  ·simp only [Option.some.injEq,Prod.mk.injEq] at h;obtain ⟨_,rfl⟩:=h;simp;omega
  ·cases h
 split at h
 ·split at h
  ·simp only [Option.some.injEq,Prod.mk.injEq] at h;obtain ⟨_,rfl⟩:=h;simp;omega
  ·cases h
 split at h
 ·split at h
  ·split at h
   ·simp only [Option.some.injEq,Prod.mk.injEq] at h;obtain ⟨_,rfl⟩:=h;simp;omega
   ·cases h
  ·cases h
 split at h
 ·split at h
  ·split at h
   ·simp only [Option.some.injEq,Prod.mk.injEq] at h;obtain ⟨_,rfl⟩:=h;simp;omega
   ·cases h
  ·cases h
 ·simp only [Option.some.injEq,Prod.mk.injEq] at h;obtain ⟨_,rfl⟩:=h;exact Nat.le_refl _
def items:Nat→Nat→BL→List It
 | 0,_,_=>[]
 | _ + 1,_,[]=>[]
 | _ + 1,0,_::_=>[]
 | f + 1,m + 1,k::r =>
  if k.toNat < 1 ∨ 8 < k.toNat then items f (m + 1) r
  else match item k.toNat r with
   | some (x,r')=>x::items f m r'
   | none=>[]
def parse (b:BL):Option Sc:=match b with
 | g::n::c::r=>some ⟨g.toNat,n.toNat,c.toNat,items (r.length + 1) 256 r⟩
 | _=>none
def asked (x:It):It :=
 if x.k = 1 then ⟨x.k,x.g,x.n,x.c,[]⟩
 else if x.k = 2 ∨ x.k = 3 ∨ x.k = 4 then ⟨x.k,0,x.n,0,[]⟩
 else if x.k = 5 then ⟨x.k,x.g,x.n,0,[]⟩
 else if x.k = 6 then ⟨x.k,0,0,x.c,x.b⟩
 else if x.k = 7 then ⟨x.k,0,0,0,x.b⟩
 else ⟨x.k,0,0,0,[]⟩
theorem ok_kind {x:It} (h:okI x = true):1 ≤ x.k∧x.k ≤ 8:=by
 unfold okI at h
 split at h
 ·omega
 split at h
 ·omega
 split at h
 ·omega
 split at h
 ·omega
 split at h
 ·omega
 ·simp at h;omega
theorem item_app {k:Nat} {q q' t:BL} {y:It} (hi:item k q = some (y,q')):item k (q++t) = some (y,q'++t):=by
 unfold item at hi ⊢
 split at hi
 ·rename_i e;rw [if_pos e]
  split at hi
  ·simp only [Option.some.injEq,Prod.mk.injEq] at hi;obtain ⟨rfl,rfl⟩:=hi;simp
  ·cases hi
 ·rename_i e;rw [if_neg e]
  split at hi
  ·rename_i e;rw [if_pos e]
   split at hi
   ·simp only [Option.some.injEq,Prod.mk.injEq] at hi;obtain ⟨rfl,rfl⟩:=hi;simp
   ·cases hi
  ·rename_i e;rw [if_neg e]
   split at hi
   ·rename_i e;rw [if_pos e]
    split at hi
    ·simp only [Option.some.injEq,Prod.mk.injEq] at hi;obtain ⟨rfl,rfl⟩:=hi;simp
    ·cases hi
   ·rename_i e;rw [if_neg e]
    split at hi
    ·rename_i e;rw [if_pos e]
     split at hi
     ·split at hi
      ·rename_i hl
       simp only [Option.some.injEq,Prod.mk.injEq] at hi;obtain ⟨rfl,rfl⟩:=hi
       simp only [List.cons_append]
       rw [if_pos (by simp;omega),List.take_append_of_le_length hl,List.drop_append_of_le_length hl]
      ·cases hi
     ·cases hi
    ·rename_i e;rw [if_neg e]
     split at hi
     ·rename_i e;rw [if_pos e]
      split at hi
      ·split at hi
       ·rename_i hl
        simp only [Option.some.injEq,Prod.mk.injEq] at hi;obtain ⟨rfl,rfl⟩:=hi
        simp only [List.cons_append]
        rw [if_pos (by simp;omega),List.take_append_of_le_length hl,List.drop_append_of_le_length hl]
       ·cases hi
      ·cases hi
     ·rename_i e;rw [if_neg e]
      simp only [Option.some.injEq,Prod.mk.injEq] at hi;obtain ⟨rfl,rfl⟩:=hi;rfl
theorem item_cut {k:Nat} {r r' q:BL} {x:It} (h:item k r = some (x,r')) (hq:q <+: r):(item k q = none) ∨ ∃ q',item k q = some (x,q')∧q' <+: r':=by
 obtain ⟨t,rfl⟩:=hq
 cases hi:item k q with
 | none=>exact .inl rfl
 | some p =>
  right
  obtain ⟨y,q'⟩:=p
  rw [item_app hi] at h
  simp only [Option.some.injEq,Prod.mk.injEq] at h
  obtain ⟨rfl,rfl⟩:=h
  exact ⟨q',rfl,t,rfl⟩
theorem items_cut:∀ (f f' m:Nat) (q r:BL),q <+: r→r.length < f→q.length < f'→items f' m q <+: items f m r
 | 0,_,_,_,_,_,h,_=>by omega
 | _ + 1,0,_,_,_,_,_,h=>by omega
 | f + 1,f' + 1,m,[],r,_,_,_=>by simp [items]
 | f + 1,f' + 1,0,a::q,[],hq,_,_=>by simp at hq
 | f + 1,f' + 1,m,a::q,[],hq,_,_=>by simp at hq
 | f + 1,f' + 1,0,a::q,b::r,hq,_,_=>by simp [items]
 | f + 1,f' + 1,m + 1,a::q,b::r,hq,h1,h2=>by
  rw [List.cons_prefix_cons] at hq
  obtain ⟨rfl,hq⟩:=hq
  simp only [List.length_cons] at h1 h2
  rw [items,items]
  split
  ·exact items_cut f f' (m + 1) q r hq (by omega) (by omega)
  ·cases hi:item a.toNat r with
   | none =>
    have:item a.toNat q = none:=by
     cases hj:item a.toNat q with
     | none=>rfl
     | some p =>
      exfalso
      obtain ⟨t,rfl⟩:=hq
      obtain ⟨x,q'⟩:=p
      rw [item_app hj] at hi;cases hi
    rw [this]
    exact List.prefix_refl _
   | some p =>
    obtain ⟨x,r'⟩:=p
    rcases item_cut hi hq with e | ⟨q',e,hp⟩
    ·rw [e];exact List.nil_prefix
    ·rw [e]
     simp only
     rw [List.cons_prefix_cons]
     exact ⟨rfl,items_cut f f' m q' r' hp (by have:=item_le hi;omega) (by have:=item_le e;omega)⟩
end ShellPlain
