/- A part of a proof over the abstract machine. No conditions. -/
import Derived.Test.YtiagcnfmgigllaaGreatT50
set_option linter.all false
namespace Go.Proofs.YtiagcnfmgigllaaGreat
open Go Go.Ab Wm NumPlain
set_option maxRecDepth 10000
set_option maxHeartbeats 4000000
theorem t0K (h:H) (a b c d k:Blk):Kept h (((((h.new a).new b).new c).new d).set (h.next + 1) k):=⟨by simp;omega,fun x hx=>by rw [l0,if_neg (by omega),p0 (by simp;omega),p0 (by simp;omega),p0 (by simp;omega),p0 (by omega)]⟩
theorem u0v (h:H) (a b c d e k:Blk):Kept h ((((((h.new a).new b).new c).new d).new e).set (h.next + 1) k):=⟨by simp;omega,fun x hx=>by rw [l0,if_neg (by omega),p0 (by simp;omega),p0 (by simp;omega),p0 (by simp;omega),p0 (by simp;omega),p0 (by omega)]⟩
theorem n0N {α:Type} {f:α->α}:∀ {l:List α},l.map f = l->∀ x ∈ l,f x = x
 | [],_,x,hx=>by cases hx
 | a::l,h,x,hx=>by
  simp only [List.map_cons,List.cons.injEq] at h
  rcases oqf.1 hx with rfl | hx
  ·exact h.1
  ·exact n0N h.2 x hx
theorem v0S {r:Row} (hb:V5 r = true) (hc:rowCopy r = r) (hn:F0v r):RowRd r:=by
 have hcols:(ls r).map W7 = ls r:=by
  have:ls (rowCopy r) = ls r:=by rw [hc]
  unfold rowCopy at this
  rw [if_pos hb,c0u] at this
  exact this
 have hb2:=hb
 simp only [V5,oqd,oqj,oqn] at hb2
 refine ⟨hb,hb2.2,fun c hcm=>?_⟩
 have h1:=hb2.1.1 c hcm
 simp only [a0H,oqd,oqj,oqn] at h1
 have h2:=n0N hcols c hcm
 have hvs:(ls c.l).map a0e = ls c.l:=by
  have:ls (W7 c).l = ls c.l:=by rw [h2]
  simpa [W7] using this
 refine ⟨h1.1.1,h1.1.2.2,fun e=>by have:=h1.1.2.1;rw [e] at this;simp at this,fun x hx=>?_⟩
 have h3:=h1.2.1 x hx
 simp only [b0B,oqd,Bool.not_eq_true',decide_eq_false_iff_not] at h3
 have h4:=n0N hvs x hx
 refine ⟨by omega,h3.2.2, ?_,fun hk=>?_⟩
 ·have:(a0e x).v = x.v:=by rw [h4]
  exact this
 ·have:=hn c hcm x hx hk;omega
theorem F0R {l:List Named} (ok:TblOk l) (hn:B0Q l):∀ x ∈ l,RowRd x.r:=fun x hx=>v0S (G0c ok hx) (ok.row x hx).1 (hn x hx)
structure ToldI (p:Pt) (told:List Answer):Prop where
 one:One p
 gen:p.t.gen = 1
 num:B0Q p.t.rows
 has:∀ k (hk:k < told.length),(⟨k,1,some (b0I told[k])⟩:Tld) ∈ p.t.cache
 lt:∀ x ∈ p.t.cache,x.client < told.length
 rd:∀ A ∈ told,AnsRd A/\(b0I A).length <= 1048576
end Go.Proofs.YtiagcnfmgigllaaGreat
