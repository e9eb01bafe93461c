/- A part of a proof over the abstract machine. No conditions. -/
import Derived.Test.YtiagcnfmgigllaaGreatT50
set_option linter.unusedSimpArgs false
set_option linter.unnecessarySimpa false
set_option linter.unusedVariables false
namespace Go.Proofs.YtiagcnfmgigllaaGreat
open Go Go.Ab Wm NumPlain
set_option maxRecDepth 10000
set_option maxHeartbeats 4000000
theorem t0s (h:H) (a b c d k:Blk):Kept h (((((h.new a).new b).new c).new d).set (h.next + 1) k):=⟨by simp;omega,fun x hx=>by rw [p4,if_neg (by omega),p8 (by simp;omega),p8 (by simp;omega),p8 (by simp;omega),p8 (by omega)]⟩
theorem s0s (h:H) (a b c d e k:Blk):Kept h ((((((h.new a).new b).new c).new d).new e).set (h.next + 1) k):=⟨by simp;omega,fun x hx=>by rw [p4,if_neg (by omega),p8 (by simp;omega),p8 (by simp;omega),p8 (by simp;omega),p8 (by simp;omega),p8 (by omega)]⟩
theorem u0e {h:H} {s:Nat} {sp:AS} {l1 l2:List Pt} {p:Pt} {last code:Int} (w:StAt h s sp (l1++p::l2) last code) (hn:(l1++p::l2).length < 1000) (client seq:Int) (z9:Int) (B6:BL) (I0:BL) (l7:Bool) (i9:Bool) (l9:BL) (c7:Int) (l0:Option BL) (l8:Nat) (o_l:Option (List Change)) (u9:Int) (oo:f0R ⟨z9,B6,I0,⟨l7,i9,l9,⟨c7,l0,l8⟩⟩,o_l,u9⟩ = true) (ol:(ls o_l).length < 9223372036854775807)
  (hf:b0Q B6 none (l1++p::l2) = some p) (okc:CchOk p.t.cache) {A:Answer} (hA:AnsRd A) (hAl:(b0j A).length ≤ 1099511627776) (hlk:a0C p.t.cache client seq = (some (b0j A),2)) :
  ∃ h',W K 12 [.one (.ptr s 0 0),.one (ii client),.one (ii seq),.agg [ii 1,ii z9,.str B6,.str I0,.bool l7,.bool i9,.str l9,ii c7,bs l0,.flt l8,sl 6 l6 o_l,ii u9,.str [],.str [],ii 0,.str [],ii 0,ii 0,.nilslc]] h = some (.ret (.agg (l5 (l0g A))) h')∧Kept h h':=by
 obtain ⟨B,hB⟩:∃ B:Blk,B = ⟨0,[19],true,[ii 1,ii z9,.str B6,.str I0,.bool l7,.bool i9,.str l9,ii c7,bs l0,.flt l8,sl 6 l6 o_l,ii u9,.str [],.str [],ii 0,.str [],ii 0,ii 0,.nilslc]⟩:=⟨_,rfl⟩
 obtain ⟨a1,a2,a3⟩:=w.at
 obtain ⟨pr,pc,qr,qc,t1,t2,t3,t4,t5⟩:=a1
 have w4:=((((w.new B).new P7).new ⟨0,[11],true,[ii z9,.str B6,.str I0,.bool l7,.bool i9,.str l9,ii c7,bs l0,.flt l8,sl 6 l6 o_l,ii u9]⟩).new P7)
 have e1:=n0d w4 (by omega) B6
 rw [hf] at e1
 simp only [i0P] at e1
 have e2:=n0g ((((t4.new B).new P7).new ⟨0,[11],true,[ii z9,.str B6,.str I0,.bool l7,.bool i9,.str l9,ii c7,bs l0,.flt l8,sl 6 l6 o_l,ii u9]⟩).new P7) okc client seq
 rw [hlk] at e2
 have d2:((h.new B).new P7).f p.d = some (a0u p.t.span p.t.gen p.t.fr (.ptr pr 0 0) (.ptr pc 0 0)):=by rw [p8 (by simp;omega),p8 (by omega)];exact t2
 have e3:=t0G hA hAl
 obtain ⟨C,hC⟩:∃ C,l5 (l0g A) = C:=⟨_,rfl⟩
 have hCl:C.length = 11:=by rw [← hC];rfl
 have hCs:sub C 0 11 = some C:=J2 hCl
 rw [hC] at e3
 generalize some (b0j A) = X at *
 obtain ⟨h2,hh2⟩:∃ h2,(h.new B).new P7 = h2:=⟨_,rfl⟩
 have n2:h2.next = h.next + 1 + 1:=by rw [← hh2];simp
 have eo:W K 39 [.one (.ptr s 0 0),.one (ii client),.one (ii seq),.agg [ii z9,.str B6,.str I0,.bool l7,.bool i9,.str l9,ii c7,bs l0,.flt l8,sl 6 l6 o_l,ii u9]] ((h.new B).new P7) = some (.ret (.agg C) ((((((h.new B).new P7).new ⟨0,[11],true,[ii z9,.str B6,.str I0,.bool l7,.bool i9,.str l9,ii c7,bs l0,.flt l8,sl 6 l6 o_l,ii u9]⟩).new ⟨0,[11],true,C⟩).new ⟨0,[11],true,C⟩))):=by
  rw [hh2] at e1 e2 d2 ⊢
  simp only [a0u] at d2
  have hsw:∀ k:Blk,((((h2.new ⟨0,[11],true,[ii z9,.str B6,.str I0,.bool l7,.bool i9,.str l9,ii c7,bs l0,.flt l8,sl 6 l6 o_l,ii u9]⟩).new P7).new k).set (h2.next + 1) k) = ((h2.new ⟨0,[11],true,[ii z9,.str B6,.str I0,.bool l7,.bool i9,.str l9,ii c7,bs l0,.flt l8,sl 6 l6 o_l,ii u9]⟩).new k).new k:=fun k=>by
   have hne:¬ h2.next = h2.next + 1:=by omega
   simp only [H.new,H.set]
   congr 1
   funext x
   by_cases hx:x = h2.next + 1
   ·subst hx;simp
   ·simp [hx]
  have m0:¬ p.d = h2.next:=by omega
  have m1:¬ p.d = h2.next + 1:=by omega
  refine A5 hp rfl rfl rfl Tryz.func39 rfl (by simp [Tryz.f39]) ?_
  simp only [Tryz.f39]
  refine hide ?_;intro Q1 hQ1
  repeat' (first
   | (replace hQ1:=hQ1;simp [-lay,K6,hCl,hCs,v0y,e1,d2,m0,m1,e2,e3,h0M,hsw])
   | refine hQ1 _ _ _ ?_)
 rw [hB] at eo
 rw [← hC] at eo
 have e:=q0Q (B8:=1) client seq z9 B6 I0 l7 i9 l9 c7 l0 l8 o_l u9 [] [] 0 [] 0 0 none rfl (by simp only [f0Y,if_true];exact oo) ol (by simpa only [B7] using eo) (by simp [K7])
 simp only [B7] at e
 exact ⟨_,e,s0s _ _ _ _ _ _ _⟩
theorem x0M {h:H} {s:Nat} {sp:AS} {l1 l2:List Pt} {p:Pt} {last code:Int} (w:StAt h s sp (l1++p::l2) last code) (hn:(l1++p::l2).length < 1000) (client seq:Int) (z9:Int) (B6:BL) (I0:BL) (l7:Bool) (i9:Bool) (l9:BL) (c7:Int) (l0:Option BL) (l8:Nat) (o_l:Option (List Change)) (u9:Int) (oo:f0R ⟨z9,B6,I0,⟨l7,i9,l9,⟨c7,l0,l8⟩⟩,o_l,u9⟩ = true) (ol:(ls o_l).length < 9223372036854775807)
  (hf:b0Q B6 none (l1++p::l2) = some p) (hfr:p.t.fr = true) (okc:CchOk p.t.cache) (hlk:a0C p.t.cache client seq = (none,1)) (hc:0 ≤ client∧client ≤ 255) (hs:seq ≤ 1073741824) :
  ∃ h',W K 12 [.one (.ptr s 0 0),.one (ii client),.one (ii seq),.agg [ii 1,ii z9,.str B6,.str I0,.bool l7,.bool i9,.str l9,ii c7,bs l0,.flt l8,sl 6 l6 o_l,ii u9,.str [],.str [],ii 0,.str [],ii 0,ii 0,.nilslc]] h = some (.ret (.agg (l5 (noA 4))) h')∧Kept h h':=by
 obtain ⟨B,hB⟩:∃ B:Blk,B = ⟨0,[19],true,[ii 1,ii z9,.str B6,.str I0,.bool l7,.bool i9,.str l9,ii c7,bs l0,.flt l8,sl 6 l6 o_l,ii u9,.str [],.str [],ii 0,.str [],ii 0,ii 0,.nilslc]⟩:=⟨_,rfl⟩
 obtain ⟨a1,a2,a3⟩:=w.at
 obtain ⟨pr,pc,qr,qc,t1,t2,t3,t4,t5⟩:=a1
 rw [hfr] at t2
 have w4:=((((w.new B).new P7).new ⟨0,[11],true,[ii z9,.str B6,.str I0,.bool l7,.bool i9,.str l9,ii c7,bs l0,.flt l8,sl 6 l6 o_l,ii u9]⟩).new P7)
 have e1:=n0d w4 (by omega) B6
 rw [hf] at e1
 simp only [i0P] at e1
 have e2:=n0g ((((t4.new B).new P7).new ⟨0,[11],true,[ii z9,.str B6,.str I0,.bool l7,.bool i9,.str l9,ii c7,bs l0,.flt l8,sl 6 l6 o_l,ii u9]⟩).new P7) okc client seq
 rw [hlk] at e2
 simp only [B7] at e2
 have d2:((h.new B).new P7).f p.d = some (a0u p.t.span p.t.gen true (.ptr pr 0 0) (.ptr pc 0 0)):=by rw [p8 (by simp;omega),p8 (by omega)];exact t2
 have hno:=u0g 4
 obtain ⟨C,hC⟩:∃ C,l5 (noA 4) = C:=⟨_,rfl⟩
 have hCl:C.length = 11:=by rw [← hC];rfl
 have hCs:sub C 0 11 = some C:=J2 hCl
 rw [hC] at hno
 obtain ⟨h2,hh2⟩:∃ h2,(h.new B).new P7 = h2:=⟨_,rfl⟩
 have n2:h2.next = h.next + 1 + 1:=by rw [← hh2];simp
 have q1:decide (client < 0) = false:=by simp;omega
 have q2:¬ client < 0:=by omega
 have q3:decide (255 < client) = false:=by simp;omega
 have q4:¬ 255 < client:=by omega
 have q5:decide (1073741824 < seq) = false:=by simp;omega
 have q6:¬ 1073741824 < seq:=by omega
 have eo:W K 39 [.one (.ptr s 0 0),.one (ii client),.one (ii seq),.agg [ii z9,.str B6,.str I0,.bool l7,.bool i9,.str l9,ii c7,bs l0,.flt l8,sl 6 l6 o_l,ii u9]] ((h.new B).new P7) = some (.ret (.agg C) ((((h.new B).new P7).new ⟨0,[11],true,[ii z9,.str B6,.str I0,.bool l7,.bool i9,.str l9,ii c7,bs l0,.flt l8,sl 6 l6 o_l,ii u9]⟩).new ⟨0,[11],true,C⟩)):=by
  rw [hh2] at e1 e2 d2 ⊢
  simp only [a0u] at d2
  have m0:¬ p.d = h2.next:=by omega
  have m1:¬ p.d = h2.next + 1:=by omega
  refine A5 hp rfl rfl rfl Tryz.func39 rfl (by simp [Tryz.f39]) ?_
  simp only [Tryz.f39]
  refine hide ?_;intro Q2 hQ2
  repeat' (first
   | (replace hQ2:=hQ2;simp [-lay,K6,hCl,hCs,v0y,e1,d2,m0,m1,e2,q2,q4,q6,hno,P8])
   | refine hQ2 _ _ _ ?_)
 rw [hB] at eo
 rw [← hC] at eo
 have e:=q0Q (B8:=1) client seq z9 B6 I0 l7 i9 l9 c7 l0 l8 o_l u9 [] [] 0 [] 0 0 none rfl (by simp only [f0Y,if_true];exact oo) ol (by simpa only [B7] using eo) (by simp [K7])
 simp only [B7] at e
 exact ⟨_,e,t0s _ _ _ _ _ _⟩
theorem m0Z {α:Type} {f:α→α}:∀ {l:List α},l.map f = l→∀ x ∈ l,f x = x
 | [],_,x,hx=>by cases hx
 | a::l,h,x,hx=>by
  simp only [List.map_cons,List.cons.injEq] at h
  rcases List.mem_cons.1 hx with rfl | hx
  ·exact h.1
  ·exact m0Z h.2 x hx
theorem u0Q {r:Row} (hb:S1 r = true) (hc:rowCopy r = r) (hn:d0i r):RowRd r:=by
 have hcols:(ls r).map X7 = ls r:=by
  have:ls (rowCopy r) = ls r:=by rw [hc]
  unfold rowCopy at this
  rw [if_pos hb,b0G] at this
  exact this
 have hb2:=hb
 simp only [S1,Bool.and_eq_true,decide_eq_true_eq,List.all_eq_true] at hb2
 refine ⟨hb,hb2.2,fun c hcm=>?_⟩
 have h1:=hb2.1.1 c hcm
 simp only [a0w,Bool.and_eq_true,decide_eq_true_eq,List.all_eq_true] at h1
 have h2:=m0Z hcols c hcm
 have hvs:(ls c.l).map Z9 = ls c.l:=by
  have:ls (X7 c).l = ls c.l:=by rw [h2]
  simpa [X7] using this
 refine ⟨h1.1.1,h1.1.2.2,fun e=>by have:=h1.1.2.1;rw [e] at this;simp at this,fun x hx=>?_⟩
 have h3:=h1.2.1 x hx
 simp only [b0l,Bool.and_eq_true,Bool.not_eq_true',decide_eq_false_iff_not] at h3
 have h4:=m0Z hvs x hx
 refine ⟨by omega,h3.2.2, ?_,fun hk=>?_⟩
 ·have:(Z9 x).v = x.v:=by rw [h4]
  exact this
 ·have:=hn c hcm x hx hk;omega
theorem s0O {l:List Named} (n:BL):S1 (a0e l n).1 = true∧rowCopy (a0e l n).1 = (a0e l n).1:=by
 unfold a0e
 split
 ·exact ⟨M7 _,X3 _⟩
 ·exact ⟨rfl,m0R⟩
theorem v0P {l:List Named} (ok:TblOk l) (hn:n0a l) {sp:Span} (os:J5 sp = true) {o:Wm.Op} (oo:f0R o = true) (hi:N6 sp o.row = true) (hon:opN o):AnsRd (opT sp l o).1:=by
 refine ⟨(q0c ok os oo hi).1,fun x hx=>?_⟩
 have hN:=(F0d hn (sp:=sp) hon).2 x hx
 have key:S1 x.r = true∧rowCopy x.r = x.r:=by
  unfold opT at hx
  split at hx
  ·split at hx
   ·simp at hx;subst hx;exact s0O _
   ·simp [noA] at hx
  split at hx
  ·simp [noA] at hx
  ·simp only [b0G] at hx
   have:=range_mem.1 x hx
   exact ⟨F0v ok this,(ok.row x this).1⟩
 exact ⟨u0Q key.1 key.2 hN,key.2⟩
theorem t0S {A:Answer} (a:AnsRd A) (h:H):W K 11 [.agg (l5 (l0g A)),.agg (l5 A)] h = some (.ret (.one (.bool true)) h):=by
 have hok:=a.ok
 obtain ⟨code,rows,⟨lo,hi⟩,group,gen,old,to,dd,at_,st⟩:=A
 simp only [a0T,Bool.and_eq_true,decide_eq_true_eq,List.all_eq_true] at hok
 obtain ⟨_,_,oR,oN,_⟩:=hok
 exact p0H code (nz ((ls rows).map L9)) rows (L:=ls rows) L9 id (by simp) (by simp) (fun x hx=>(x0D x (oR x hx).2).2) (by omega) lo hi group gen old to dd at_ (some (ls st)) st rfl h
theorem j0N {h:H} {s:Nat} {sp:AS} {p:Pt} {last code:Int} (w:StAt h s sp [p] last code) (hsp:p.t.span = ⟨[],[]⟩) (hg:p.t.gen = 1) (ok:TblOk p.t.rows) (okc:CchOk p.t.cache) (client seq:Int) :
  ∃ h',W K 12 [.one (.ptr s 0 0),.one (ii client),.one (ii seq),.agg (w0L 2 1 [] [] [])] h = some (.ret (.agg (l5 (stA (b0J ⟨[],[]⟩ 1 p.t.rows p.t.cache)))) h') ∧
   StAt h' s sp [⟨p.d,{ p.t with fr:=true },p.fp⟩] last code∧Fp h h' (fpS s sp [p]) (fpS s sp [⟨p.d,{ p.t with fr:=true },p.fp⟩]):=by
 have w2:StAt ((h.new ⟨0,[19],true,w0L 2 1 [] [] []⟩).new P7) s sp ([]++p::[]) last code:=(w.new _).new _
 obtain ⟨h3,e3,w3,g3⟩:=v0q 2 0 [] [] false false [] 0 none 0 none 0 [] [] 1 [] 0 0 none w2 (by simp) (by
  have:(fun q:Pt=>d0o ⟨[],[]⟩ 1 q.t) p = true:=by simp [d0o,hsp,hg]
  simpa using f0O (a:=([]:List Pt)) (r:=[]) (by simp) this) (by rw [hsp];rfl) ok okc
 rw [hsp,hg] at e3
 obtain ⟨hz,hk⟩:=i0F (ps:=[p]) w w3 g3
 have e:=B0d client seq 2 0 [] [] false false [] 0 none 0 none 0 [] [] 1 [] 0 0 none rfl rfl (by simp) e3 hz
 exact ⟨_,e,(hk _).1,(hk _).2⟩
structure ToldI (p:Pt) (told:List Answer):Prop where
 one:One p
 gen:p.t.gen = 1
 num:n0a p.t.rows
 has:∀ k (hk:k < told.length),(⟨k,1,some (b0j told[k])⟩:Tld) ∈ p.t.cache
 lt:∀ x ∈ p.t.cache,x.client < told.length
 rd:∀ A ∈ told,AnsRd A∧(b0j A).length ≤ 1048576
theorem s0p {p p':Pt} {told:List Answer} (I:ToldI p told) (hl:told.length < 15) {o:Wm.Op} (oi:OpIs o) (hon:opN o) (ht:p'.t = ⟨⟨[],[]⟩,p.t.gen,false,(opT ⟨[],[]⟩ p.t.rows o).2,(a0d p.t.cache told.length 1 (some (b0j (opT ⟨[],[]⟩ p.t.rows o).1))).1⟩) (po:One p'):ToldI p' (told++[(opT ⟨[],[]⟩ p.t.rows o).1]):=by
 have hz:J5 ⟨[],[]⟩ = true:=rfl
 have hA:=v0P I.one.rows I.num hz oi.ok (d0z _) hon
 have hAl:(b0j (opT ⟨[],[]⟩ p.t.rows o).1).length ≤ 1048576:=by
  have h1:=(q0Z I.one.rows hz oi.ok (d0z _)).1
  have h2:=hA.ok
  have h3:d0K (opT ⟨[],[]⟩ p.t.rows o).1.state = 0:=by
   unfold opT
   split
   ·split <;> simp [noA]
   split
   ·simp [noA]
   ·simp
  simp only [a0T,J5,Bool.and_eq_true,decide_eq_true_eq] at h2
  obtain ⟨_,_,_,_,⟨⟨o1,o2⟩,_⟩,o3,o4⟩:=h2
  simp only [d0K] at h3
  simp only [b0j,J9,D5,O3,d0,List.length_append,List.length_cons];omega
 have hlk:a0C p.t.cache told.length 1 = (none,1):=k0v (by omega) fun x hx hc=>by have:=I.lt x hx;omega
 have hr:a0I told.length 1 (some (b0j (opT ⟨[],[]⟩ p.t.rows o).1)) = true:=by
  simp only [a0I,I6,Bool.and_eq_true,decide_eq_true_eq]
  exact ⟨by omega,by omega,by omega,by omega,decide_eq_true hAl⟩
 obtain ⟨k1,k2⟩:=v0Q (by rw [hlk]) hr
 refine ⟨po,by rw [ht];exact I.gen,by rw [ht];exact (F0d I.num hon).1,fun k hk=>?_,fun x hx=>?_,fun A hA2=>?_⟩
 ·rw [ht]
  simp only [List.length_append,List.length_cons,List.length_nil] at hk
  by_cases h1:k < told.length
  ·rw [List.getElem_append_left h1]
   exact k2 _ (I.has k h1) (by simp only;omega)
  ·have:k = told.length:=by omega
   subst this
   rw [List.getElem_append_right (Nat.le_refl _)]
   simpa using k1
 ·rw [ht] at hx
  rcases v0v x hx with h | h
  ·have:=I.lt x h;simp;omega
  ·subst h;simp;omega
 ·rcases List.mem_append.1 hA2 with h | h
  ·exact I.rd A h
  ·rw [List.mem_singleton.1 h];exact ⟨hA,hAl⟩
end Go.Proofs.YtiagcnfmgigllaaGreat
