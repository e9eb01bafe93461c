/- A part of a proof over the abstract machine. No conditions. -/
import Derived.Test.YtiagcnfmgigllaaGreatT50
set_option linter.all false
namespace Go.Proofs.YtiagcnfmgigllaaGreat
open Go Go.Ab Wm NumPlain
set_option maxRecDepth 10000
set_option maxHeartbeats 4000000
theorem m0Q {α:Type} {f:α→α}:∀ {l:List α},l.map f = l→∀ x ∈ l,f x = x
 | [],_,x,hx=>by cases hx
 | a::l,h,x,hx=>by
  simp only [List.map_cons,List.cons.injEq] at h
  rcases oqf.1 hx with rfl | hx
  ·exact h.1
  ·exact m0Q h.2 x hx
theorem w0V {r:Row} (hb:P3 r = true) (hc:rowCopy r = r) (hn:c0W r):RowRd r:=by
 have hcols:(ls r).map S3 = ls r:=by
  have:ls (rowCopy r) = ls r:=by rw [hc]
  unfold rowCopy at this
  rw [if_pos hb,a0d] at this
  exact this
 have hb2:=hb
 simp only [P3,oqd,oqj,oqn] at hb2
 refine ⟨hb,hb2.2,fun c hcm=>?_⟩
 have h1:=hb2.1.1 c hcm
 simp only [a0t,oqd,oqj,oqn] at h1
 have h2:=m0Q hcols c hcm
 have hvs:(ls c.l).map X7 = ls c.l:=by
  have:ls (S3 c).l = ls c.l:=by rw [h2]
  simpa [S3] using this
 refine ⟨h1.1.1,h1.1.2.2,fun e=>by have:=h1.1.2.1;rw [e] at this;simp at this,fun x hx=>?_⟩
 have h3:=h1.2.1 x hx
 simp only [a0Y,oqd,Bool.not_eq_true',decide_eq_false_iff_not] at h3
 have h4:=m0Q hvs x hx
 refine ⟨by omega,h3.2.2, ?_,fun hk=>?_⟩
 ·have:(X7 x).v = x.v:=by rw [h4]
  exact this
 ·have:=hn c hcm x hx hk;omega
theorem A0g {l:List Named} (ok:TblOk l) (hn:l0i l):∀ x ∈ l,RowRd x.r:=fun x hx=>w0V (w0G ok hx) (ok.row x hx).1 (hn x hx)
theorem p0W {h:H} {s:Nat} {sp:AS} {p:Pt} {last code:Int} (w:StAt h s sp [p] last code) (hsp:p.t.span = ⟨[],[]⟩) (hg:p.t.gen = 1) (ok:TblOk p.t.rows) (okc:CchOk p.t.cache) (client seq:Int) :
  ∃ h',W K 12 [.one (.ptr s 0 0),.one (ii client),.one (ii seq),.agg (v0B 2 1 [] [] [])] h = some (.ret (.agg (l8 (stA (Z7 ⟨[],[]⟩ 1 p.t.rows p.t.cache)))) h') ∧
   StAt h' s sp [⟨p.d,{ p.t with fr:=true },p.fp⟩] last code∧Fp h h' (fpS s sp [p]) (fpS s sp [⟨p.d,{ p.t with fr:=true },p.fp⟩]):=by
 have w2:StAt ((h.new ⟨0,[19],true,v0B 2 1 [] [] []⟩).new a0w) s sp ([]++p::[]) last code:=(w.new _).new _
 obtain ⟨h3,e3,w3,g3⟩:=x0i 2 0 [] [] false false [] 0 none 0 none 0 [] [] 1 [] 0 0 none w2 (by simp) (by
  have:(fun q:Pt=>d0h ⟨[],[]⟩ 1 q.t) p = true:=by simp [d0h,hsp,hg]
  simpa using f0u (a:=([]:List Pt)) (r:=[]) (by simp) this) (by rw [hsp];rfl) ok okc
 rw [hsp,hg] at e3
 obtain ⟨hz,hk⟩:=f0q (ps:=[p]) w w3 g3
 have e:=B0n client seq 2 0 [] [] false false [] 0 none 0 none 0 [] [] 1 [] 0 0 none rfl rfl (by simp) e3 hz
 exact ⟨_,e,(hk _).1,(hk _).2⟩
structure ToldI (p:Pt) (told:List Answer):Prop where
 one:One p
 gen:p.t.gen = 1
 num:l0i p.t.rows
 has:∀ k (hk:k < told.length),(⟨k,1,some (c0Q told[k])⟩:Tld) ∈ p.t.cache
 lt:∀ x ∈ p.t.cache,x.client < told.length
 rd:∀ A ∈ told,AnsRd A∧(c0Q A).length ≤ 1048576
end Go.Proofs.YtiagcnfmgigllaaGreat
