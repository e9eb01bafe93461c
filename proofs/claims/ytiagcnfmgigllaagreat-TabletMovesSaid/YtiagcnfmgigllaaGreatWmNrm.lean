/- A part of a proof over the abstract machine. No conditions. -/
import Derived.Test.YtiagcnfmgigllaaGreatT43
import Derived.Test.YtiagcnfmgigllaaGreatT53
set_option linter.all false
namespace Wm
open Go Go.Ab
theorem t0m (v:Value):a0s (a0s v) = a0s v:=by
 unfold a0s
 by_cases h:v.kind = 1
 ·simp [h]
 ·simp [h]
theorem m0t (v:Value):(a0s v).kind = v.kind:=by
 unfold a0s;split
 ·rename_i h;exact h.symm
 ·rfl
theorem B0d (v:Value):ls (a0s v).b = ls v.b:=by unfold a0s;split <;> simp
theorem v0E {v:Value} (h:v.kind ≠ 1):a0s v = v:=by unfold a0s;rw [if_neg h]
theorem n0V (x:Version):H3 (H3 x) = H3 x:=by simp [H3,t0m]
theorem k0k {α:Type} {f:α→α} (h:∀ x,f (f x) = f x) (l:List α):(l.map f).map f = l.map f:=by
 rw [List.map_map];exact List.map_congr_left fun x _=>h x
theorem o0n (c:Column):F5 (F5 c) = F5 c:=by simp only [F5,a0d,k0k n0V]
theorem o0H (r:Row):J0 (J0 r) = J0 r:=by simp only [J0,a0d,k0k o0n]
theorem l0m (x:Named):C8 (C8 x) = C8 x:=by simp only [C8,o0H]
theorem d0s (v:Value):J4 (a0s v) = a0s (J4 v):=by
 unfold J4 a0s
 by_cases h1:v.kind = 1
 ·simp [h1]
 ·by_cases h2:v.kind = 2
  ·simp [h2]
  ·simp [h1,h2]
theorem q0d (c:Column):S3 (F5 c) = F5 (S3 c):=by
 simp only [S3,F5,a0d,List.map_map]
 congr 2
 refine List.map_congr_left fun x _=>?_
 simp [Function.comp,X7,H3,d0s]
theorem Y4 (o:Row):rowCopy (J0 o) = J0 (rowCopy o):=by
 unfold rowCopy
 rw [d0R]
 split
 ·simp only [J0,a0d,List.map_map]
  congr 1
  exact List.map_congr_left fun c _=>q0d c
 ·rfl
theorem j0A {α β:Type} (f:α→β) (p:β→Bool):∀ l:List α,((l.map f).takeWhile p).length = (l.takeWhile (fun x=>p (f x))).length
 | []=>rfl
 | a::l=>by
  simp only [List.map_cons,List.takeWhile_cons]
  split <;> simp [j0A f p l]
theorem f0I (l:List Column) (n:BL):L6 (l.map F5) n = L6 l n:=by unfold L6;rw [j0A];rfl
theorem h0O (l:List Column) (n:BL):Z3 (l.map F5) n = Z3 l n:=by
 unfold Z3
 rw [f0I,List.getElem?_map]
 cases l[L6 l n]? <;> rfl
theorem c0N (l:List Column) (i:Nat):ls (((l.map F5)[i]?).bind (·.l)) = (ls ((l[i]?).bind (·.l))).map H3:=by
 rw [List.getElem?_map]
 cases l[i]? with
 | none=>rfl
 | some c=>simp [F5]
theorem h0u {X Y:List Column} (h:X.map F5 = Y.map F5):J0 (rowCopy (some X)) = J0 (rowCopy (some Y)):=by
 rw [← Y4,← Y4]
 simp only [J0,H1,h]
theorem p0O {l m:List Column} (hlm:l.map F5 = m.map F5) (i:Nat) (n:BL) {f:List Version→List Version} (hf:∀ L M:List Version,L.map H3 = M.map H3→(f L).map H3 = (f M).map H3):(b0B l i n f).map F5 = (b0B m i n f).map F5:=by
 have h1:(l.take i).map F5 = (m.take i).map F5:=by rw [List.map_take,List.map_take,hlm]
 have h2:(l.drop (i + 1)).map F5 = (m.drop (i + 1)).map F5:=by rw [List.map_drop,List.map_drop,hlm]
 have h3:(ls ((l[i]?).bind (·.l))).map H3 = (ls ((m[i]?).bind (·.l))).map H3:=by rw [← c0N,← c0N,hlm]
 unfold b0B
 simp only [List.map_append,List.map_cons,h1,h2]
 congr 2
 simp only [F5,H1,hf _ _ h3]
theorem k0K {L M:List Version} (h:L.map H3 = M.map H3) (p:Int→Bool):(L.filter fun x=>p x.time).map H3 = (M.filter fun x=>p x.time).map H3:=by
 have key:∀ L:List Version,(L.filter fun x=>p x.time).map H3 = (L.map H3).filter fun x=>p x.time:=fun L=>by
  rw [List.filter_map];rfl
 rw [key,key,h]
theorem r0C {α:Type} {f:α→α} {L M:List α} (h:L.map f = M.map f) {x y:α} (hx:f x = f y) {i:Nat} (hi:i ≤ L.length):(L.insertIdx i x).map f = (M.insertIdx i y).map f:=by
 have hl:M.length = L.length:=by have:=congrArg List.length h;simpa using this.symm
 rw [a0E hi,a0E (by omega)]
 simp only [List.map_append,List.map_cons,List.map_take,List.map_drop,h,hx]
theorem q0L {L M:List Version} (h:L.map H3 = M.map H3) (t:Int) (v:Value):(d0L L t v).map H3 = (d0L M t v).map H3:=by
 unfold d0L
 dsimp only
 have hf:=k0K h fun z=>!(z == t)
 have htw:∀ L:List Version,(L.takeWhile fun x=>decide (t < x.time)).length = ((L.map H3).takeWhile fun x=>decide (t < x.time)).length:=fun L=>by rw [j0A];rfl
 rw [List.map_take,List.map_take,htw,htw (M.filter fun x=>!(x.time == t)),hf]
 congr 1
 refine r0C hf rfl ?_
 rw [← hf,j0A]
 exact k0A _ _
def RR (r s:Row):Prop:=J0 r = J0 s
theorem RR.copy {r s:Row} (h:RR r s):RR (rowCopy r) (rowCopy s):=by
 unfold RR at *;rw [← Y4,← Y4,h]
theorem p0G {α:Type} {a b:List α} (h:nz a = nz b):a = b:=by have:=congrArg ls h;simpa using this
theorem RR.cols {r s:Row} (h:RR r s):(ls r).map F5 = (ls s).map F5:=p0G h
theorem RR.at {r s:Row} (h:RR r s) (n:BL):L6 (ls r) n = L6 (ls s) n∧Z3 (ls r) n = Z3 (ls s) n∧(ls r).length = (ls s).length:=by
 have hc:=h.cols
 refine ⟨by rw [← f0I,hc,f0I],by rw [← h0O,hc,h0O],by have:=congrArg List.length hc;simpa using this⟩
theorem r0F {r s:Row} (h:RR r s) (n:BL) (t:Int) (v:Value):RR (S8 r n t v).1 (S8 s n t v).1∧(S8 r n t v).2 = (S8 s n t v).2:=by
 obtain ⟨h1,h2,h3⟩:=h.copy.at n
 have hc:=h.copy.cols
 unfold S8
 split
 ·exact ⟨rfl,rfl⟩
 dsimp only
 rw [← h2,← h3,← h1]
 split
 ·exact ⟨rfl,rfl⟩
 refine ⟨h0u (p0O ?_ _ _ fun L M hlm=>q0L hlm t v),rfl⟩
 split
 ·exact hc
 ·exact r0C hc rfl (d0U _ _)
theorem v0X {r s:Row} (h:RR r s) (n:BL) (t:Int):RR (a0T r n t) (a0T s n t):=by
 obtain ⟨h1,h2,h3⟩:=h.copy.at n
 have hc:=h.copy.cols
 have hv:(ls (((ls (rowCopy r))[L6 (ls (rowCopy r)) n]?).bind (·.l))).map H3 = (ls (((ls (rowCopy s))[L6 (ls (rowCopy r)) n]?).bind (·.l))).map H3:=by rw [← c0N,← c0N,hc]
 have hf:=k0K hv fun z=>!(z == t)
 unfold a0T
 dsimp only
 rw [← h2,← h1]
 split
 ·exact h.copy
 have he:((ls (((ls (rowCopy r))[L6 (ls (rowCopy r)) n]?).bind (·.l))).filter fun x=>!(x.time == t)) = [] ↔ ((ls (((ls (rowCopy s))[L6 (ls (rowCopy r)) n]?).bind (·.l))).filter fun x=>!(x.time == t)) = []:=by
  constructor
  ·intro e;rw [e] at hf;exact List.map_eq_nil_iff.1 hf.symm
  ·intro e;rw [e] at hf;exact List.map_eq_nil_iff.1 hf
 by_cases e:((ls (((ls (rowCopy r))[L6 (ls (rowCopy r)) n]?).bind (·.l))).filter fun x=>!(x.time == t)) = []
 ·rw [if_pos e,if_pos (he.1 e)]
  refine h0u ?_
  have key:∀ (l:List Column) (i:Nat),(l.eraseIdx i).map F5 = (l.map F5).eraseIdx i:=fun l i=>by simp [List.eraseIdx_eq_take_drop_succ]
  rw [key,key,hc]
 ·rw [if_neg e,if_neg (fun e2=>e (he.2 e2))]
  refine h0u ?_
  have h1':((ls (rowCopy r)).take (L6 (ls (rowCopy r)) n)).map F5 = ((ls (rowCopy s)).take (L6 (ls (rowCopy r)) n)).map F5:=by rw [List.map_take,List.map_take,hc]
  have h2':((ls (rowCopy r)).drop (L6 (ls (rowCopy r)) n + 1)).map F5 = ((ls (rowCopy s)).drop (L6 (ls (rowCopy r)) n + 1)).map F5:=by rw [List.map_drop,List.map_drop,hc]
  unfold b0B
  simp only [List.map_append,List.map_cons,h1',h2']
  congr 2
  simp only [F5,H1,hf]
theorem p0d {r s:Row} (h:RR r s) (n:BL):RR (V0 r n) (V0 s n):=by
 obtain ⟨h1,h2,h3⟩:=h.copy.at n
 have hc:=h.copy.cols
 unfold V0
 dsimp only
 rw [← h2,← h1]
 split
 ·exact h.copy.copy
 ·refine h0u ?_
  have key:∀ (l:List Column) (i:Nat),(l.eraseIdx i).map F5 = (l.map F5).eraseIdx i:=fun l i=>by simp [List.eraseIdx_eq_take_drop_succ]
  rw [key,key,hc]
theorem u0N (o:Option Version):g0W (o.map H3) = (a0s (g0W o).1,(g0W o).2):=by cases o <;> rfl
theorem l0F (r:Row) (n:BL) (t:Int):f0d (J0 r) n t = (a0s (f0d r n t).1,(f0d r n t).2):=by
 have hl:ls (J0 (rowCopy r)) = (ls (rowCopy r)).map F5:=by simp [J0]
 unfold f0d
 rw [Y4]
 dsimp only
 rw [hl,h0O,f0I]
 split
 ·rfl
 ·rw [c0N,List.find?_map,u0N];rfl
theorem j0I {r s:Row} (h:RR r s) (n:BL):a0s (M4 r n).1 = a0s (M4 s n).1∧(M4 r n).2 = (M4 s n).2:=by
 have h1:=l0F r n 1099511627776
 have h2:=l0F s n 1099511627776
 unfold RR at h
 rw [h,h2] at h1
 simp only [oqM] at h1
 exact ⟨h1.1.symm,h1.2.symm⟩
theorem o0j (a b:Value):o0y (a0s a) b = o0y a b:=by
 unfold o0y
 rw [d0s]
 dsimp only
 rw [m0t,B0d]
 by_cases h:(J4 a).kind = 1
 ·simp only [h];split <;> simp
 ·rw [v0E h]
theorem s0O {r s:Row} (h:RR r s) (c:Cond):holds r c = holds s c:=by
 obtain ⟨h1,h2⟩:=j0I h c.col
 unfold holds
 rw [h2,← o0j (M4 r c.col).1,h1,o0j]
theorem o0C (a b:Value):N8 (a0s a) b = N8 a b:=by
 by_cases h:a.kind = 1
 ·unfold N8;rw [m0t];simp [h]
 ·rw [v0E h]
theorem y0s {r s:Row} (h:RR r s) (c:Change):RR (W8 r c).1 (W8 s c).1∧(W8 r c).2 = (W8 s c).2:=by
 unfold W8
 split
 ·exact r0F h _ _ _
 split
 ·exact ⟨v0X h _ _,rfl⟩
 split
 ·exact ⟨p0d h _,rfl⟩
 split
 ·exact ⟨rfl,rfl⟩
 dsimp only
 obtain ⟨h1,h2⟩:=j0I h c.col
 have hp:N8 (if (M4 r c.col).2 = true then (M4 r c.col).1 else ⟨2,none,9223372036854775808⟩) c.v = N8 (if (M4 s c.col).2 = true then (M4 s c.col).1 else ⟨2,none,9223372036854775808⟩) c.v:=by
  rw [h2]
  split
  ·rw [← o0C,h1,o0C]
  ·rfl
 generalize (if (M4 r c.col).2 = true then (M4 r c.col).1 else ⟨2,none,9223372036854775808⟩) = x at hp ⊢
 generalize (if (M4 s c.col).2 = true then (M4 s c.col).1 else ⟨2,none,9223372036854775808⟩) = y at hp ⊢
 rw [hp]
 by_cases hz:(N8 y c.v).2 = 0
 ·rw [if_pos hz,if_pos hz];exact r0F h _ _ _
 ·rw [if_neg hz,if_neg hz];exact ⟨rfl,rfl⟩
theorem s0e:∀ {l:List Change} {r s:Row},RR r s→RR (W9 r l).1 (W9 s l).1∧(W9 r l).2 = (W9 s l).2
 | [],r,s,h=>⟨h,rfl⟩
 | c::l,r,s,h=>by
  obtain ⟨h1,h2⟩:=y0s h c
  simp only [W9]
  rw [h2]
  split
  ·exact s0e h1
  ·exact ⟨rfl,rfl⟩
theorem s0x {r s:Row} (h:RR r s) (l:List Change):RR (apply r l).1 (apply s l).1∧(apply r l).2 = (apply s l).2:=by
 unfold apply
 split
 ·exact ⟨rfl,rfl⟩
 cases l.find? fun c=>F0 c != 0 with
 | none=>exact s0e h.copy
 | some c=>exact ⟨rfl,rfl⟩
def TN (l:List Named):List Named:=l.map C8
theorem j0a (l:List Named) (n:BL):tix (TN l) n = tix l n:=by unfold tix TN;rw [j0A];rfl
theorem s0m (l:List Named) (n:BL):tat (TN l) n = tat l n:=by
 unfold tat
 rw [j0a]
 unfold TN
 rw [List.getElem?_map]
 cases l[tix l n]? <;> rfl
theorem f0K (l:List Named) (n:BL):W7 (TN l) n = (J0 (W7 l n).1,(W7 l n).2):=by
 unfold W7
 rw [s0m,j0a]
 split
 ·unfold TN
  rw [List.getElem?_map]
  cases l[tix l n]? with
  | none=>simp [n0q];rfl
  | some x=>simp [C8,Y4]
 ·rfl
theorem q0o (r:Row):(ls (J0 r) = []) = (ls r = []):=by simp [J0]
theorem p0p (l:List Named) (n:BL) (r:Row):f0k (TN l) n (J0 r) = (TN (f0k l n r).1,(f0k l n r).2):=by
 have hx:(⟨n,rowCopy (J0 r)⟩:Named) = C8 ⟨n,rowCopy r⟩:=by simp [C8,Y4]
 have hlen:(TN l).length = l.length:=by simp [TN]
 unfold f0k
 simp only [d0R,q0o,s0m,j0a,hx,hlen]
 split
 ·rfl
 split
 ·split
  ·simp [TN,List.eraseIdx_eq_take_drop_succ]
  ·rfl
 split
 ·simp [TN]
 split
 ·rfl
 ·have hi:=d0e l n
  simp only [TN]
  rw [a0E (by simpa using hi),a0E hi]
  simp
theorem m0z (l:List Named) (lo hi:BL) (m:Int):T8 (TN l) lo hi m = (TN (T8 l lo hi m).1,(T8 l lo hi m).2):=by
 have hlen:(TN l).length = l.length:=by simp [TN]
 unfold T8
 simp only [j0a,hlen]
 generalize (max 0 (min m 16)).toNat = M
 generalize (if hi = [] then l.length else tix l hi) = e
 have hs:((TN l).take e).drop (tix l lo) = TN ((l.take e).drop (tix l lo)):=by simp [TN,List.map_take,List.map_drop]
 rw [hs]
 have hsl:(TN ((l.take e).drop (tix l lo))).length = ((l.take e).drop (tix l lo)).length:=by simp [TN]
 rw [hsl]
 split
 ·rfl
 split
 ·rfl
 ·simp only [TN,List.map_take,List.getElem?_map]
  cases ((l.take e).drop (tix l lo))[M]? <;> rfl
structure AR (a b:Answer):Prop where
 rows:TN (ls a.rows) = TN (ls b.rows)
 rest:b = ⟨a.code,b.rows,a.span,a.group,a.gen,a.old,a.to,a.do_,a.at_,a.state⟩
theorem z0u {l m:List Named} (h:TN l = TN m) (o:Op):TN (c0t l o).1 = TN (c0t m o).1∧(c0t l o).2 = (c0t m o).2:=by
 have hf:RR (W7 l o.row).1 (W7 m o.row).1:=by
  have h1:=f0K l o.row
  rw [h,f0K] at h1
  simp only [oqM] at h1
  exact h1.1.symm
 obtain ⟨h2,h3⟩:=s0x hf (ls o.l)
 unfold c0t
 dsimp only
 rw [s0O hf,h3]
 split
 ·exact ⟨h,rfl⟩
 split
 ·have k1:=p0p l o.row (apply (W7 l o.row).1 (ls o.l)).1
  have k2:=p0p m o.row (apply (W7 m o.row).1 (ls o.l)).1
  rw [h,show J0 _ = J0 _ from h2,k2] at k1
  simp only [oqM] at k1
  exact ⟨k1.1.symm,k1.2.symm⟩
 ·exact ⟨h,rfl⟩
theorem A0W {l m:List Named} (h:TN l = TN m) (sp:Span) (o:Op):AR (opT sp l o).1 (opT sp m o).1∧TN (opT sp l o).2 = TN (opT sp m o).2:=by
 have h1:=f0K l o.row
 rw [h,f0K] at h1
 simp only [oqM] at h1
 unfold opT
 split
 ·rw [h1.2]
  refine ⟨?_,h⟩
  split
  ·exact ⟨by simp [TN,C8,h1.1],rfl⟩
  ·exact ⟨rfl,rfl⟩
 split
 ·obtain ⟨h2,h3⟩:=z0u h o
  refine ⟨?_,h2⟩
  rw [h3];exact ⟨rfl,rfl⟩
 ·have k1:=m0z l o.row (hiT sp o.hi) o.most
  rw [h,m0z] at k1
  simp only [oqM] at k1
  refine ⟨⟨by simp [k1.1], ?_⟩,h⟩
  dsimp only
  rw [k1.2]
end Wm
namespace Go.Proofs.YtiagcnfmgigllaaGreat
open Go Go.Ab Wm NumPlain
set_option maxRecDepth 10000
set_option maxHeartbeats 4000000
theorem n0d {h:H} {s:Nat} {last code:Int} (B6:Int) (D4:Int) (F7:BL) (I5:BL) (y8:Bool) (v9:Bool) (y7:BL) (p8:Int) (y6:Option BL) (y9:Nat) (J1:Option (List Change)) (D0:Int) (u7:BL) (y0:BL) (F8:Int) (L3:BL) (a0j:Int) (a0k:Int) (I7:Option BL) (w:StAt h s .nilslc [] last code) {gen:Int} {l:List Named} {ca:List Tld} (os:H5 ⟨u7,y0⟩ = true) (og:1 ≤ gen∧gen ≤ 1073741824) (ok:TblOk l) (okr:∀ x ∈ l,RowRd x.r) (okc:CchOk ca) (hin:∀ x ∈ l,K8 ⟨u7,y0⟩ x.name = true)
  (hst:I7 = some (Z7 ⟨u7,y0⟩ gen l ca)) (hroom:(Z7 ⟨u7,y0⟩ gen l ca).length ≤ 1099511627776) :
  ∃ h' sp' p,W K 80 [.one (.ptr s 0 0),.agg [ii B6,ii D4,.str F7,.str I5,.bool y8,.bool v9,.str y7,ii p8,bs y6,.flt y9,sl 6 l7 J1,ii D0,.str u7,.str y0,ii F8,.str L3,ii a0j,ii a0k,bs I7]] h = some (.ret (.one (ii 0)) h')∧p.t = ⟨⟨u7,y0⟩,F8,false,l.map C8,ca.map V5⟩∧StAt h' s sp' [p] last code∧Fp h h' (fpS s .nilslc []) (fpS s sp' [p]):=by
 obtain ⟨B0,hB0⟩:∃ B:Blk,B = ⟨0,[19],true,[ii B6,ii D4,.str F7,.str I5,.bool y8,.bool v9,.str y7,ii p8,bs y6,.flt y9,sl 6 l7 J1,ii D0,.str u7,.str y0,ii F8,.str L3,ii a0j,ii a0k,bs I7]⟩:=⟨_,rfl⟩
 obtain ⟨h2,hh2⟩:∃ h2,(h.new B0).new ⟨0,[1],true,[.nilptr]⟩ = h2:=⟨_,rfl⟩
 have n2:h2.next = h.next + 1 + 1:=by rw [← hh2];simp
 have hsn:=w.lt
 have k2:∀ b,b < h.next→h2.f b = h.f b:=fun b hb=>by rw [← hh2,u4 (by simp;omega),u4 (by omega)]
 obtain ⟨TB,hTB⟩:∃ TB,Z7 ⟨u7,y0⟩ gen l ca = TB:=⟨_,rfl⟩
 have hbytes:I9 ⟨u7,y0⟩++(L7 gen++(c0q l++(b0C ca++[]))) = TB:=by rw [← hTB];simp [Z7]
 rw [hTB] at hst hroom
 have hq:h2.next + 1 < (rdH h2 (some TB)).next:=by simp
 have hf:(rdH h2 (some TB)).f (h2.next + 1) = some (rdB (some (I9 ⟨u7,y0⟩++(L7 gen++(c0q l++(b0C ca++[])))))):=by rw [hbytes];simp [K9]
 obtain ⟨_,e3,h3,d,pr,pc,qr,qc,rfl,v1,v2,v4,v5,v6,v7⟩:=t0M (h:=rdH h2 (some TB)) (q:=h2.next + 1) (rest:=[]) os og ok okr okc hin hq hf (by rw [hbytes];exact hroom)
 have hnn:h2.next + 1 + 1 + 1 ≤ d∧d < h3.next:=by have:=v7.2 d (by simp);simp at this;omega
 have hpr:h2.next + 1 + 1 + 1 ≤ pr∧pr < h3.next:=by have:=v7.2 pr (by simp);simp at this;omega
 have hpc:h2.next + 1 + 1 + 1 ≤ pc∧pc < h3.next:=by have:=v7.2 pc (by simp);simp at this;omega
 have hqr:∀ x,qr = some x→h2.next + 1 + 1 + 1 ≤ x∧x < h3.next:=fun x hx=>by have:=v7.2 x (by simp [hx]);simp at this;omega
 have hqc:∀ x,qc = some x→h2.next + 1 + 1 + 1 ≤ x∧x < h3.next:=fun x hx=>by have:=v7.2 x (by simp [hx]);simp at this;omega
 have z3:h3.f (h.next + 1) = some ⟨0,[1],true,[.nilptr]⟩:=by
  rw [v2 _ (by simp;omega) (by omega)]
  rw [u4 (by simp;omega),u4 (by simp;omega),u4 (by omega),← hh2];simp
 have hc:W K 129 (.one (.ptr (h2.next + 1) 0 0)::[AS.ptr (h.next + 1) 0 0].map AV.one) (rdH h2 (some TB)) = some (.ret (.tup []) (h3.set (h.next + 1) ⟨0,[1],true,[.ptr d 0 0]⟩)):=by
  simp only [List.map_cons,List.map_nil]
  generalize rdH h2 (some TB) = H0 at *
  refine A9 hp rfl rfl rfl Tryz.func129 rfl (by simp [Tryz.f129]) ?_
  simp only [Tryz.f129]
  refine c7 ?_;intro Q1 hQ1
  repeat' (first
   | (replace hQ1:=hQ1;simp [e3,z3])
   | refine hQ1 _ _ _ ?_)
 have hr:=u0v (h:=h2) (o:=some TB) (g:=129) (caps:=[.ptr (h.next + 1) 0 0]) hc (l:=some []) (by
   rw [p0,if_neg (by omega),v2 _ (by simp;omega) (by omega)];simp [K9])
  (by rw [p0,if_neg (by omega)];exact v1) (by rw [p0,if_neg (by omega),v2 _ (by simp) (by omega)];simp [K9])
 simp only [H1,oqc,decide_true] at hr
 obtain ⟨h4,hh4⟩:∃ h4,(h3.set (h.next + 1) ⟨0,[1],true,[.ptr d 0 0]⟩).set h2.next ⟨0,[1],true,[.bool true]⟩ = h4:=⟨_,rfl⟩
 rw [hh4] at hr
 have n4:h4.next = h3.next:=by rw [← hh4];simp
 have k4:∀ b,b ≠ h.next + 1→b ≠ h2.next→h4.f b = h3.f b:=fun b h1 h2'=>by rw [← hh4,p0,if_neg h2',p0,if_neg h1]
 have kk4:∀ b,b < h.next→h4.f b = h.f b:=fun b hb=>by
  rw [k4 b (by omega) (by omega),v2 b (by simp;omega) (by omega),u4 (by simp;omega),u4 (by simp;omega),u4 (by omega),k2 b hb]
 have d4:h4.f d = some (a0l ⟨u7,y0⟩ gen false (.ptr pr 0 0) (.ptr pc 0 0)):=by rw [k4 d (by omega) (by omega)];exact v4
 have z4:h4.f (h.next + 1) = some ⟨0,[1],true,[.ptr d 0 0]⟩:=by rw [← hh4,p0,if_neg (by omega)];simp
 have b4:h4.f h.next = some B0:=by
  rw [k4 _ (by omega) (by omega),v2 _ (by simp;omega) (by omega),u4 (by simp;omega),u4 (by simp;omega),u4 (by omega),← hh2,u4 (by simp)];simp
 have b2:h2.f h.next = some B0:=by rw [← hh2,u4 (by simp)];simp
 have z2:h2.f (h.next + 1) = some ⟨0,[1],true,[.nilptr]⟩:=by rw [← hh2];simp
 have s4:h4.f s = some ⟨0,[3],true,[.nilslc,ii last,ii code]⟩:=by rw [kk4 s hsn];exact w.blk
 obtain ⟨fp,hfp⟩:∃ f,f = d::pr::pc::(qr.toList++qc.toList):=⟨_,rfl⟩
 obtain ⟨T,hT⟩:∃ T:TabD,T = ⟨⟨u7,y0⟩,F8,false,l.map C8,ca.map V5⟩:=⟨_,rfl⟩
 obtain ⟨h5,hh5⟩:∃ h5,h4.set d (a0l ⟨u7,y0⟩ F8 false (.ptr pr 0 0) (.ptr pc 0 0)) = h5:=⟨_,rfl⟩
 have n5:h5.next = h3.next:=by rw [← hh5];simp;exact n4
 obtain ⟨sp',h6,e6,⟨b6,v6',z6,hs6,ar6⟩,k6,k62,k63⟩:=N9 (P:=Tryz.prog) (h:=h5.new ⟨0,[1],true,[.ptr d 0 0]⟩) (s:=.nilslc) (l:=[]) (t:=95) Tryz.underlying95 (by simp) (by simp) Tryz.bytes98 (by omega) d0l (a:=.slc h5.next 0 0 1 1 none) (m:=[(⟨d,T,fp⟩:Pt)]) (.inl ⟨rfl,rfl⟩) rfl (by simp [B8,cat,sub,Z5]) (by simp) (by simp [J6])
 simp only [oql,oqb,oqc,Nat.zero_add] at hs6 ar6
 simp only [A1] at k6 k62 k63
 have own6:∀ x,z0 sp' = some x→h5.next + 1 ≤ x:=fun x hx=>by
  rcases k63 x hx with e | e
  ·cases e
  ·exact e
 have kb6:∀ b,b < h5.next→h6.f b = h5.f b:=fun b hb=>by rw [k62 b (by omega) (by simp [z0]),u4 (by omega)]
 have hs6':∀ b,b < h5.next→b ≠ s→b ≠ d→(h6.set s ⟨0,[3],true,[sp',ii last,ii code]⟩).f b = h4.f b:=fun b hb hbs hbd=>by rw [p0,if_neg hbs,kb6 b hb,← hh5,p0,if_neg hbd]
 have hnd:fp.Nodup:=by rw [hfp];exact v7.1
 have hd2:=hnd
 rw [hfp] at hd2
 simp only [List.nodup_cons,oqf,oqe,Option.mem_toList,not_or] at hd2
 obtain ⟨⟨x1,x2,x3,x4⟩,_⟩:=hd2
 have tb:TabAt (h6.set s ⟨0,[3],true,[sp',ii last,ii code]⟩) d T fp:=by
  rw [hT]
  refine ⟨pr,pc,qr,qc,by simp;omega, ?_,v5.keep (by simp;omega) ?_ fun b hb=>?_,v6.keep (by simp;omega) ?_ fun b hb=>?_,hfp⟩
  ·rw [p0,if_neg (by omega),kb6 _ (by omega),← hh5];simp
  ·rw [hs6' _ (by omega) (by omega) (Ne.symm x1),k4 _ (by omega) (by omega)]
  ·have:=hqr b hb
   rw [hs6' _ (by omega) (by omega) (fun e=>x3 (by rw [← e];exact hb)),k4 _ (by omega) (by omega)]
  ·rw [hs6' _ (by omega) (by omega) (Ne.symm x2),k4 _ (by omega) (by omega)]
  ·have:=hqc b hb
   rw [hs6' _ (by omega) (by omega) (fun e=>x4 (by rw [← e];exact hb)),k4 _ (by omega) (by omega)]
 have lowF:∀ x ∈ fp,h.next ≤ x∧x < h5.next:=fun x hx=>by
  have:=v7.2 x (by rw [← hfp];exact hx)
  simp at this;omega
 obtain ⟨st,g⟩:=StAt.of (h':=h6.set s ⟨0,[3],true,[sp',ii last,ii code]⟩) (sp':=sp') (ps':=[(⟨d,T,fp⟩:Pt)]) (last':=last) (code':=code) w (by simp;omega) (by simp)
  (.inr ⟨b6,v6',z6,hs6,ar6.keep (by simp) (by rw [p0,if_neg (fun e=>by have:=own6 b6 (by rw [hs6];rfl);omega)])⟩)
  (fun x hx=>by
   have:=own6 x hx
   right;exact ⟨by omega,fun hc=>by simp at hc;have:=lowF x hc;omega⟩)
  (fun q hq=>by simp at hq;subst hq;right;exact ⟨tb,fun x hx=>(lowF x hx).1⟩)
  (fun x hx hxs _=>by rw [hs6' x (by omega) hxs (by omega)];exact kk4 x hx) (by simpa using hnd)
 refine ⟨_,sp',⟨d,T,fp⟩, ?_,hT,st,g⟩
 have hne:=s0h u7 y0 u7 y0
 simp only [decide_true,Bool.and_self,Bool.not_true] at hne
 have m0:¬ s = h.next:=by omega
 have m1:¬ s = h.next + 1:=by omega
 have m2:¬ d = h.next:=by omega
 have m3:¬ d = h.next + 1:=by omega
 have m4:¬ h.next = d:=by omega
 have m5:¬ h.next + 1 = d:=by omega
 have m6:¬ s = d:=by omega
 have s5:h5.f s = some ⟨0,[3],true,[.nilslc,ii last,ii code]⟩:=by rw [← hh5,p0,if_neg (by omega)];exact s4
 have z5:h5.f (h.next + 1) = some ⟨0,[1],true,[.ptr d 0 0]⟩:=by rw [← hh5,p0,if_neg (by omega)];exact z4
 have s6:h6.f s = some ⟨0,[3],true,[.nilslc,ii last,ii code]⟩:=by rw [kb6 _ (by omega)];exact s5
 simp only [a0l] at d4 hh5
 subst hst
 rw [hB0] at hh2 b4 b2
 suffices key:∃ r,W K 80 [.one (.ptr s 0 0),.agg [ii B6,ii D4,.str F7,.str I5,.bool y8,.bool v9,.str y7,ii p8,bs y6,.flt y9,sl 6 l7 J1,ii D0,.str u7,.str y0,ii F8,.str L3,ii a0j,ii a0k,bs (some TB)]] h = some r∧r = .ret (.one (ii 0)) (h6.set s ⟨0,[3],true,[sp',ii last,ii code]⟩) by
  obtain ⟨r,e,rfl⟩:=key
  exact e
 refine H6 hp rfl rfl rfl Tryz.func80 rfl (by simp [Tryz.f80]) ?_
 simp only [Tryz.f80]
 refine c7 ?_;intro Q2 hQ2
 repeat' (first
  | (replace hQ2:=hQ2;simp [-lay,hh2,b2,hr,b4,z4,d4,hne,s4])
  | refine hQ2 _ _ _ ?_
  | (first | refine dF (id:=2) [0,1,2,3,4,5,6,7,8,9,10,11,12,13] [] ?_ | refine dF (id:=8) [0,1,2,3,4,5,6,7] [] ?_ | refine dF (id:=9) [0,1,2,3,4,5,6,7,8,9,10,11,12,13,14,15,16] [] ?_))
 refine N7 hp 0 (fun i fr hh=>hh = h4∧∃ j:Nat→AV,fr = ((.one (.ptr s 0 0))::j 1::j 2::(.one (.ptr h.next 0 0))::j 4::(.one (.ptr (h.next + 1) 0 0))::(.one .nilslc)::j 7::j 8::j 9::j 10::j 11::j 12::j 13::j 14::j 15::j 16::j 17::j 18::j 19::j 20::j 21::j 22::j 23::j 24::j 25::j 26::(.one .nilslc)::(.one (ii 0))::(.one (ii 0))::j 30::j 31::j 32::j 33::j 34::j 35::j 36::j 37::j 38::j 39::j 40::j 41::j 42::j 43::j 44::j 45::j 46::j 47::j 48::j 49::j 50::j 51::j 52::j 53::j 54::j 55::j 56::j 57::j 58::j 59::j 60::j 61::j 62::j 63::j 64::j 65::j 66::j 67::j 68::j 69::j 70::j 71::j 72::j 73::j 74::j 75::j 76::j 77::j 78::[])) ?_ ?_ _ _ ?_
 rotate_left 2
 ·exact ⟨rfl,s9 (by simp)⟩
 ·intro i fr hh hi;omega
 ·rintro fr hh ⟨rfl,j,rfl⟩
  first | (refine c7 ?_;intro Q3 hQ3) | have hQ3:=oqk
  repeat' (first
   | (replace hQ3:=hQ3;simp [-lay,N3,N5,U8,b4,z4,d4,hh5,z5,e6,s6])
   | (refine hQ3 _ _ _ ?_;clear hQ3 Q3;first | simp only [] | simp [-lay,N3,N5,U8,b4,z4,d4,m0,m1,m2,m3,m4,m5,m6,hh5,s5,z5,e6,s6] | skip)
   | (refine C5 (by assumption) ?_;(try clear hQ3);first | simp only [] | simp [-lay] | skip)
   | ((fail_if_success replace hQ3:=hQ3);(first | refine c7 ?_ | refine y5 ?_ | refine y3 ?_);intro Q3 hQ3)
   | (first | refine dF (id:=2) [0,1,2,3,4,5,6,7,8,9,10,11,12,13] [] ?_ | refine dF (id:=8) [0,1,2,3,4,5,6,7] [] ?_ | refine dF (id:=9) [0,1,2,3,4,5,6,7,8,9,10,11,12,13,14,15,16] [] ?_))
theorem f0b {α β:Type} {f:α→β}:∀ {l m:List α},l.map f = m.map f→l = (l.zip m).map (·.1)∧m = (l.zip m).map (·.2)∧∀ x ∈ l.zip m,x.1 ∈ l∧x.2 ∈ m∧f x.1 = f x.2
 | [],[],_=>⟨rfl,rfl,by simp⟩
 | [],_::_,h=>by cases h
 | _::_,[],h=>by cases h
 | a::l,b::m,h=>by
  simp only [List.map_cons,List.cons.injEq] at h
  obtain ⟨i1,i2,i3⟩:=f0b h.2
  refine ⟨congrArg (List.cons a) i1,congrArg (List.cons b) i2,fun x hx=>?_⟩
  simp only [List.zip_cons_cons,oqf] at hx
  rcases hx with rfl | hx
  ·exact ⟨by simp,by simp,h.1⟩
  ·have:=i3 x hx;exact ⟨by simp [this.1],by simp [this.2.1],this.2.2⟩
theorem y0y {v w:Wm.Value} (h:a0s v = a0s w):EqV v w:=by
 have a:=r0s v
 have b:=r0s w
 rw [h] at a
 have hk:w.kind = v.kind:=by rw [← b.k,a.k]
 exact ⟨hk,fun e=>by rw [← b.b (by rw [hk];exact e),a.b e],fun e=>by rw [← b.n (by rw [hk];exact e),a.n e]⟩
theorem r0G {x y:Named} (hx:P3 x.r = true) (hy:P3 y.r = true) (h:C8 x = C8 y):EqN x y:=by
 have h1:(C8 x).name = (C8 y).name:=by rw [h]
 have h0:(C8 x).r = (C8 y).r:=by rw [h]
 have h2:(ls x.r).map F5 = (ls y.r).map F5:=p0G h0
 obtain ⟨i1,i2,i3⟩:=f0b h2
 refine ⟨h1.symm,fun h=>q0Z (L:=(ls x.r).zip (ls y.r)) (·.1) (·.2) (fun c=>(ls c.1.l).zip (ls c.2.l)) (·.1) (·.2) i1 i2 (fun c hc=>?_) ?_ h⟩
 ·obtain ⟨k1,k2,k3⟩:=i3 c hc
  have k4:(F5 c.1).name = (F5 c.2).name:=by rw [k3]
  have k5:(F5 c.1).l = (F5 c.2).l:=by rw [k3]
  have h3:(ls c.1.l).map H3 = (ls c.2.l).map H3:=p0G k5
  obtain ⟨j1,j2,j3⟩:=f0b h3
  refine ⟨k4.symm,j1,j2, ?_,fun v hv=>?_⟩
  ·have:=(h0j hx).2 _ k1
   rw [List.length_zip];omega
  ·obtain ⟨_,_,m3⟩:=j3 v hv
   have m4:(H3 v.1).time = (H3 v.2).time:=by rw [m3]
   have m5:(H3 v.1).v = (H3 v.2).v:=by rw [m3]
   exact ⟨m4.symm,y0y m5⟩
 ·have:=(h0j hx).1
  rw [List.length_zip];omega
theorem v0i {A B:Answer} (r:AR A B) (oA:∀ x ∈ ls A.rows,P3 x.r = true) (oB:∀ x ∈ ls B.rows,P3 x.r = true) (hl:(ls A.rows).length < 1000000) (h:H):W K 11 [.agg (l8 A),.agg (l8 B)] h = some (.ret (.one (.bool true)) h):=by
 obtain ⟨r1,r2⟩:=r
 obtain ⟨i1,i2,i3⟩:=f0b r1
 rw [r2]
 obtain ⟨code,rows,⟨lo,hi⟩,group,gen,old,to,dd,at_,st⟩:=A
 exact q0M code rows B.rows (L:=(ls rows).zip (ls B.rows)) (·.1) (·.2) i1 i2 (fun x hx=>r0G (oA _ (i3 x hx).1) (oB _ (i3 x hx).2.1) (i3 x hx).2.2) (by rw [List.length_zip];simp only at hl;omega) lo hi group gen old to dd at_ st st rfl h
theorem h0t {l m:List Named} (r:TN l = TN m) (ol:TblOk l) (om:TblOk m) (h:H):W K 13 [.one (sl 2 c8 (nz l)),.one (sl 2 c8 (nz m))] h = some (.ret (.one (.bool true)) h):=by
 obtain ⟨i1,i2,i3⟩:=f0b r
 exact t0v (L:=l.zip m) (·.1) (·.2) (by rw [a0d];exact i1) (by rw [a0d];exact i2) (fun x hx=>r0G (w0G ol (i3 x hx).1) (w0G om (i3 x hx).2.1) (i3 x hx).2.2) (by rw [List.length_zip];have:=ol.len;omega) h
theorem D0R (l:List Named):TN (TN l) = TN l:=by unfold TN;rw [k0k l0m]
theorem z0z {l:List Named} (ok:TblOk l) {sp:Span} (os:H5 sp = true) {o:Wm.Op} (oo:g0N o = true) (hi:K8 sp o.row = true):(c0Q (opT sp l o).1).length ≤ 20000:=by
 have h1:=(r0K ok os oo hi).1
 have h2:=(k0M ok os oo hi).1
 have h3:d0E (opT sp l o).1.state = 0:=by
  unfold opT
  split
  ·split <;> simp [noA]
  split
  ·simp [noA]
  ·simp
 simp only [c0B,H5,oqd,oqj] at h2
 obtain ⟨_,_,_,_,⟨⟨o1,o2⟩,_⟩,o3,o4⟩:=h2
 simp only [d0E] at h3
 simp only [c0Q,I9,D7,L7,g9,oqa,oqb];omega
theorem u0D (l:List Tld) (c s:Int) (b:Option BL):(X4 l c s b).1.length ≤ l.length + 1:=by
 unfold X4
 split
 ·simp
 split
 ·simp
 ·exact List.length_insertIdx_le_succ ..
def Dj (F G:List Nat):Prop:=∀ x ∈ F,x ∉ G
theorem Dj.symm {F G:List Nat} (d:Dj F G):Dj G F:=fun x hx hc=>d x hc hx
theorem Dj.step {F F' G:List Nat} {h h':H} (d:Dj F G) (g:Fp h h' F F') (lt:∀ x ∈ G,x < h.next):Dj F' G:=fun x hx hc=>by
 rcases g.own x hx with e | e
 ·exact d x e hc
 ·have:=lt x hc;omega
structure Two (p q:Pt) (n:Int):Prop where
 one:One p
 two:One q
 rel:TN p.t.rows = TN q.t.rows
 lt:∀ x ∈ p.t.cache,x.seq < n
 lt2:∀ x ∈ q.t.cache,x.seq < n
theorem v0j {h:H} {sa sb:Nat} {pa pb:AS} {p q:Pt} {la ca lb cb:Int} (wa:StAt h sa pa [p] la ca) (wb:StAt h sb pb [q] lb cb) (dd:Dj (fpS sa pa [p]) (fpS sb pb [q])) (client seq:Int) (T:Two p q seq) (B5:Int) (C7:BL) (I0:BL) (p5:Bool) (l6:Bool) (p4:BL) (i9:Int) (l9:Option BL) (p6:Nat) (o_l:Option (List Change)) (A7:Int) (oi:OpIs ⟨B5,C7,I0,⟨p5,l6,p4,⟨i9,l9,p6⟩⟩,o_l,A7⟩) (hc:0 ≤ client∧client ≤ 255) (hs:1 ≤ seq∧seq ≤ 1073741824) :
  ∃ h1 h2 p' q' A B,W K 12 [.one (.ptr sa 0 0),.one (ii client),.one (ii seq),.agg [ii 1,ii B5,.str C7,.str I0,.bool p5,.bool l6,.str p4,ii i9,bs l9,.flt p6,sl 6 l7 o_l,ii A7,.str [],.str [],ii 0,.str [],ii 0,ii 0,.nilslc]] h = some (.ret (.agg (l8 A)) h1) ∧
   W K 12 [.one (.ptr sb 0 0),.one (ii client),.one (ii seq),.agg [ii 1,ii B5,.str C7,.str I0,.bool p5,.bool l6,.str p4,ii i9,bs l9,.flt p6,sl 6 l7 o_l,ii A7,.str [],.str [],ii 0,.str [],ii 0,ii 0,.nilslc]] h1 = some (.ret (.agg (l8 B)) h2) ∧
   (∀ h,W K 11 [.agg (l8 A),.agg (l8 B)] h = some (.ret (.one (.bool true)) h))∧StAt h2 sa pa [p'] la ca∧StAt h2 sb pb [q'] lb cb∧Dj (fpS sa pa [p']) (fpS sb pb [q'])∧Two p' q' (seq + 1) ∧
   Fp h h1 (fpS sa pa [p]) (fpS sa pa [p'])∧Fp h1 h2 (fpS sb pb [q]) (fpS sb pb [q']) ∧
   q'.t = ⟨⟨[],[]⟩,q.t.gen,false,(opT ⟨[],[]⟩ q.t.rows ⟨B5,C7,I0,⟨p5,l6,p4,⟨i9,l9,p6⟩⟩,o_l,A7⟩).2,(X4 q.t.cache client seq (some (c0Q (opT ⟨[],[]⟩ q.t.rows ⟨B5,C7,I0,⟨p5,l6,p4,⟨i9,l9,p6⟩⟩,o_l,A7⟩).1))).1⟩:=by
 have hz:H5 ⟨[],[]⟩ = true:=rfl
 obtain ⟨h1,p',e1,e2,o1,w1,g1⟩:=x0v wa T.one client seq B5 C7 I0 p5 l6 p4 i9 l9 p6 o_l A7 oi hc hs fun x hx _=>T.lt x hx
 have wb1:=wb.fp g1 dd.symm
 obtain ⟨h2,q',e3,e4,o2,w2,g2⟩:=x0v wb1 T.two client seq B5 C7 I0 p5 l6 p4 i9 l9 p6 o_l A7 oi hc hs fun x hx _=>T.lt2 x hx
 have d1:Dj (fpS sa pa [p']) (fpS sb pb [q]):=dd.step g1 wb.fp_lt
 have d2:Dj (fpS sb pb [q']) (fpS sa pa [p']):=d1.symm.step g2 w1.fp_lt
 obtain ⟨r1,r2⟩:=A0W T.rel ⟨[],[]⟩ ⟨B5,C7,I0,⟨p5,l6,p4,⟨i9,l9,p6⟩⟩,o_l,A7⟩
 have okA:=k0M T.one.rows hz oi.ok (c0z _)
 have okB:=k0M T.two.rows hz oi.ok (c0z _)
 have hA:=okA.1
 have hB:=okB.1
 simp only [c0B,oqd,oqj,oqn] at hA hB
 obtain ⟨_,_,a1,a2,_⟩:=hA
 obtain ⟨_,_,b1,b2,_⟩:=hB
 refine ⟨h1,h2,p',q',_,_,e1,e3,fun h=>v0i r1 (fun x hx=>(a1 x hx).2) (fun x hx=>(b1 x hx).2) (by omega) h,w1.fp g2 d1,w2,d2.symm,⟨o1,o2,by rw [e2,e4];exact r2,fun x hx=>?_,fun x hx=>?_⟩,g1,g2,e4⟩
 ·rw [e2] at hx
  rcases j0N x hx with h | h
  ·have:=T.lt x h;omega
  ·subst h;simp only;omega
 ·rw [e4] at hx
  rcases j0N x hx with h | h
  ·have:=T.lt2 x h;omega
  ·subst h;simp only;omega
structure Bk (q:Pt) (n:Nat):Prop where
 gen:q.t.gen = 1
 num:l0i q.t.rows
 len:q.t.cache.length ≤ n
 small:∀ x ∈ q.t.cache,(ls x.b).length ≤ 20000
theorem y0R {q q':Pt} {n:Nat} (o:One q) (B:Bk q n) {o':Wm.Op} (oi:OpIs o') (hon:opN o') {client seq:Int} (e:q'.t = ⟨⟨[],[]⟩,q.t.gen,false,(opT ⟨[],[]⟩ q.t.rows o').2,(X4 q.t.cache client seq (some (c0Q (opT ⟨[],[]⟩ q.t.rows o').1))).1⟩):Bk q' (n + 1):=by
 refine ⟨by rw [e];exact B.gen,by rw [e];exact (H0N B.num hon).1, ?_,fun x hx=>?_⟩
 ·rw [e]
  have:=u0D q.t.cache client seq (some (c0Q (opT ⟨[],[]⟩ q.t.rows o').1))
  have:=B.len
  simp only;omega
 ·rw [e] at hx
  rcases j0N x hx with h | h
  ·exact B.small x h
  ·subst h;exact z0z o.rows rfl oi.ok (c0z _)
abbrev D0X (g:Int) (st:Option BL):List AS:=[ii 3,ii 0,.str [],.str [],.bool false,.bool false,.str [],ii 0,.nilslc,.flt 0,.nilslc,ii 0,.str [],.str [],ii g,.str [],ii 0,ii 0,bs st]
theorem q0Q {h:H} {s:Nat} {last code:Int} (w:StAt h s .nilslc [] last code) {gen:Int} {l:List Named} {ca:List Tld} (og:1 ≤ gen∧gen ≤ 1073741824) (ok:TblOk l) (okr:∀ x ∈ l,RowRd x.r) (okc:CchOk ca) (client seq:Int) {g:Int} (hg:last < g) (hg1:1 ≤ g∧g ≤ 1073741824)
  (hlen:(Z7 ⟨[],[]⟩ gen l ca).length ≤ 1048576) :
  ∃ h' sp' p,W K 12 [.one (.ptr s 0 0),.one (ii client),.one (ii seq),.agg (D0X g (some (Z7 ⟨[],[]⟩ gen l ca)))] h = some (.ret (.agg (l8 (noA 0))) h')∧p.t = ⟨⟨[],[]⟩,g,false,l.map C8,ca.map V5⟩∧StAt h' s sp' [p] g 0∧Fp h h' (fpS s .nilslc []) (fpS s sp' [p]):=by
 obtain ⟨TB,hTB⟩:∃ TB,Z7 ⟨[],[]⟩ gen l ca = TB:=⟨_,rfl⟩
 obtain ⟨B,hB⟩:∃ B:Blk,B = ⟨0,[19],true,D0X g (some TB)⟩:=⟨_,rfl⟩
 have w2:=(w.new B).new a0w
 obtain ⟨h3,sp',ps',r,e3,w3,g3,hR⟩:=p0c 3 0 [] [] false false [] 0 none 0 none 0 [] [] g [] 0 0 (some TB) w2 hg 80 (.inl ⟨rfl,rfl⟩) (fun ps' r=>r = 0∧∃ p,ps' = [p]∧p.t = ⟨⟨[],[]⟩,g,false,l.map C8,ca.map V5⟩)
  fun h2 wh gh=>by
   obtain ⟨h3,sp',p,e,tp,w3,g3⟩:=n0d 3 0 [] [] false false [] 0 none 0 none 0 [] [] g [] 0 0 (some TB) wh (by rfl) og ok okr okc (fun x _=>c0z _) (by rw [hTB]) (by rw [hTB] at hlen ⊢;omega)
   exact ⟨h3,sp',[p],0,e,w3,g3,by simp,rfl,p,rfl,tp⟩
 obtain ⟨rfl,p,rfl,tp⟩:=hR
 have hs:X0 pLt [p] = [p]:=rfl
 rw [hs] at w3 g3
 rw [hB] at g3 e3
 obtain ⟨hz,hk'⟩:=f0q w w3 g3
 have e:=l0T client seq 3 0 [] [] false false [] 0 none 0 none 0 [] [] g [] 0 0 (some TB) (.inl rfl) (by rw [hTB] at hlen;simp [g0U,H5,g0X,d0E,hg1,hlen]) (by simp) e3 hz
 exact ⟨_,sp',p,by rw [hTB];exact e,tp,(hk' _).1,(hk' _).2⟩
end Go.Proofs.YtiagcnfmgigllaaGreat
