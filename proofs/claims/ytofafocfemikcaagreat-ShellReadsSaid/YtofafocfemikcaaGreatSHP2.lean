/- A part of a proof over the abstract machine. No conditions. -/
import Derived.Test.YtofafocfemikcaaGreatSHP
set_option linter.unusedSimpArgs false
set_option linter.unnecessarySimpa false
set_option linter.unusedVariables false
namespace Go.Proofs.YtofafocfemikcaaGreat
open Go Go.Ab Wm NumPlain
set_option maxRecDepth 10000
set_option maxHeartbeats 4000000
def bOk (h:H) (p:Nat) (a:UInt8) (r:BL):H:=((h.new ⟨0,[0],true,[]⟩).new ⟨0,[1],false,[byteS a]⟩).set p (rdD (some r) false)
def bNo (h:H) (p:Nat):H:=(h.set p (rdD none true)).new ⟨0,[1],true,[.int .u8 0]⟩
@[simp] theorem bOk_next (h:H) (p:Nat) (a:UInt8) (r:BL):(bOk h p a r).next = h.next + 2:=rfl
@[simp] theorem bNo_next (h:H) (p:Nat):(bNo h p).next = h.next + 1:=rfl
theorem bOk_p (h:H) (p:Nat) (a:UInt8) (r:BL):(bOk h p a r).f p = some (rdD (some r) false):=by simp [bOk]
theorem bNo_p (h:H) (p:Nat) (hp:p < h.next):(bNo h p).f p = some (rdD none true):=by
 have:¬ p = h.next:=by omega
 simp [bNo,this]
theorem bOk_f {h:H} {p:Nat} {a:UInt8} {r:BL} {b:Nat} (hb:b < h.next) (hp:b ≠ p):(bOk h p a r).f b = h.f b:=by
 have h1:¬ b = h.next:=by omega
 have h2:¬ b = h.next + 1:=by omega
 simp [bOk,h1,h2,hp]
theorem bNo_f {h:H} {p:Nat} {b:Nat} (hb:b < h.next) (hp:b ≠ p):(bNo h p).f b = h.f b:=by
 have h1:¬ b = h.next:=by omega
 simp [bNo,h1,hp]
theorem cv8 (a:UInt8) (h:H):convA Tryz.prog 5 3 (byteS a) h = some (.val (.one (ii a.toNat)) h):=by
 have:IntKind.i64.wrap (a.toNat:Int) = a.toNat:=wrap_i64 (by omega) (by have:=a.toNat_lt;omega)
 simp [convA,byteS,this]
structure Fr1 (p:Nat) (h h':H):Prop where
 next:h.next ≤ h'.next
 f:∀ b,b < h.next→b ≠ p→h'.f b = h.f b
theorem pair_ok {h:H} {p:Nat} (a b:UInt8) (r:BL) (hpn:p < h.next) (hf:h.f p = some (rdD (some (a::b::r)) false)):∃ h',W K 48 [.one (.ptr p 0 0)] h = some (.ret (.one (ii (a.toNat * 256 + b.toNat:Nat))) h')∧h'.f p = some (rdD (some r) false)∧Fr1 p h h':=by
 refine ⟨bOk (bOk h p a (b::r)) p b r, ?_,bOk_p _ _ _ _,⟨by simp <;> omega,fun x hx hp=>by rw [bOk_f (by simp;omega) hp,bOk_f hx hp]⟩⟩
 have h1:W K 47 [.one (.ptr p 0 0)] h = some (.ret (.one (byteS a)) (bOk h p a (b::r))):=dbyte_ok a (b::r) hpn hf
 have h2:W K 47 [.one (.ptr p 0 0)] (bOk h p a (b::r)) = some (.ret (.one (byteS b)) (bOk (bOk h p a (b::r)) p b r)):=dbyte_ok b r (by simp;omega) (bOk_p _ _ _ _)
 generalize bOk (bOk h p a (b::r)) p b r = H2 at *
 generalize bOk h p a (b::r) = H1 at *
 have c1:=cv8 a
 have c2:=cv8 b
 have ha:=a.toNat_lt
 have hb:=b.toNat_lt
 have s1:=shl_byteI (a:=a.toNat) (by omega)
 have o1:=or_byteI (a:=a.toNat) (b:=b.toNat) (by omega) (by omega)
 refine W_does hp rfl rfl rfl Tryz.func48 rfl (by simp [Tryz.f48]) ?_
 simp only [Tryz.f48]
 refine hide ?_;intro Q1 hQ1
 repeat' (first
  | (replace hQ1:=hQ1;simp [h1,h2,c1,c2,s1,o1])
  | refine hQ1 _ _ _ ?_)
 all_goals trace_state
theorem pair_no {h:H} {p:Nat} {o:Option BL} {bad:Bool} (hb:bad = true ∨ (ls o).length < 2) (hpn:p < h.next) (hf:h.f p = some (rdD o bad)):∃ v h',W K 48 [.one (.ptr p 0 0)] h = some (.ret (.one (ii v)) h')∧h'.f p = some (rdD none true)∧Fr1 p h h':=by
 have c0:∀ h,convA Tryz.prog 5 3 (.int .u8 0) h = some (.val (.one (ii 0)) h):=fun h=>by
  have:IntKind.i64.wrap 0 = 0:=rfl
  simp [convA,this]
 have s0:=shl_byteI (a:=0) (by omega)
 have o0:=or_byteI (a:=0) (b:=0) (by omega) (by omega)
 by_cases he:bad = true ∨ ls o = []
 ·refine ⟨0,bNo (bNo h p) p, ?_,bNo_p _ _ (by simp;omega),⟨by simp;omega,fun x hx hp=>by rw [bNo_f (by simp;omega) hp,bNo_f hx hp]⟩⟩
  have h1:W K 47 [.one (.ptr p 0 0)] h = some (.ret (.one (.int .u8 0)) (bNo h p)):=dbyte_no he hpn hf
  have h2:W K 47 [.one (.ptr p 0 0)] (bNo h p) = some (.ret (.one (.int .u8 0)) (bNo (bNo h p) p)):=dbyte_no (.inl rfl) (by simp;omega) (bNo_p _ _ hpn)
  generalize bNo (bNo h p) p = H2 at *
  generalize bNo h p = H1 at *
  have s0:shiftI .shl .i64 0 8 = some (.int .i64 0):=by simpa using s0
  have o0:orI .i64 0 0 = 0:=by simpa using o0
  refine W_does hp rfl rfl rfl Tryz.func48 rfl (by simp [Tryz.f48]) ?_
  simp only [Tryz.f48]
  refine hide ?_;intro Q2 hQ2
  repeat' (first
   | (replace hQ2:=hQ2;simp [h1,h2,c0,s0,o0])
   | refine hQ2 _ _ _ ?_)
  all_goals trace_state
 ·have hb2:bad = false:=by cases bad <;> simp_all
  subst hb2
  obtain ⟨a,ha⟩:∃ a,ls o = [a]:=by
   rcases hl:ls o with _ | ⟨a,_ | ⟨b,r⟩⟩
   ·simp [hl] at he
   ·exact ⟨a,rfl⟩
   ·simp [hl] at hb;omega
  obtain rfl:=ls_cons (a:=[]) ha
  refine ⟨a.toNat * 256,bNo (bOk h p a []) p, ?_,bNo_p _ _ (by simp;omega),⟨by simp;omega,fun x hx hp=>by rw [bNo_f (by simp;omega) hp,bOk_f hx hp]⟩⟩
  have h1:W K 47 [.one (.ptr p 0 0)] h = some (.ret (.one (byteS a)) (bOk h p a [])):=dbyte_ok a [] hpn hf
  have h2:W K 47 [.one (.ptr p 0 0)] (bOk h p a []) = some (.ret (.one (.int .u8 0)) (bNo (bOk h p a []) p)):=dbyte_no (.inr rfl) (by simp;omega) (bOk_p _ _ _ _)
  generalize bNo (bOk h p a []) p = H2 at *
  generalize bOk h p a [] = H1 at *
  have c1:=cv8 a
  have haa:=a.toNat_lt
  have s1:=shl_byteI (a:=a.toNat) (by omega)
  have o1:=or_byteI (a:=a.toNat) (b:=0) (by omega) (by omega)
  have o1:orI .i64 ((a.toNat:Int) * 256) 0 = (a.toNat:Int) * 256:=by simpa using o1
  refine W_does hp rfl rfl rfl Tryz.func48 rfl (by simp [Tryz.f48]) ?_
  simp only [Tryz.f48]
  refine hide ?_;intro Q3 hQ3
  repeat' (first
   | (replace hQ3:=hQ3;simp [h1,h2,c0,c1,s1,o1])
   | refine hQ3 _ _ _ ?_)
  all_goals trace_state
theorem app_none (h:H) (b:Nat):appendA Tryz.prog 31 31 h (.slc b 0 0 0 1 none) (bs (some [])) = some (.slc b 0 0 0 1 none,h):=by
 rw [append_slice (x:=bs (some [])) (t:=31) (by simp) (by simp) Tryz.bytes5 Tryz.underlying31 (lenS_bs _) (elems_bs h (some []))]
 simp [appendL]
theorem byt_at {h:H} {b:Nat} {l:BL} {fx:Bool} (hb:b < h.next) (hf:h.f b = some ⟨0,[l.length],fx,l.map byteS⟩):Byt h (.slc b 0 0 l.length 1 none) l :=
 ⟨⟨rfl,rfl,rfl,by simp,hb,_,hf,rfl,by simp,by simp⟩,rfl⟩
theorem dsomeB_ok {h:H} {p:Nat} (a b:UInt8) (r:BL) (hn:a.toNat * 256 + b.toNat ≤ r.length) (hpn:p < h.next) (hf:h.f p = some (rdD (some (a::b::r)) false)) :
  ∃ s h',W K 49 [.one (.ptr p 0 0)] h = some (.ret (.one s) h')∧Byt h' s (r.take (a.toNat * 256 + b.toNat))∧(∀ x,ownB s = some x→h.next ≤ x)∧h'.f p = some (rdD (some (r.drop (a.toNat * 256 + b.toNat))) false)∧Fr1 p h h':=by
 obtain ⟨h1,e1,w1,f1⟩:=pair_ok a b r hpn hf
 have hm:a.toNat * 256 + b.toNat < 65536:=by have:=a.toNat_lt;have:=b.toNat_lt;omega
 generalize a.toNat * 256 + b.toNat = m at *
 have hn1:=f1.next
 have hs1:=fun h=>slice_to h r m hn
 have hs2:=fun h=>slice_from h r m hn
 have hL:∀ h,lenA (bs (some r)) (some (.slice 5)) h = some (one (ii r.length) h):=fun h=>lenA_bs _ _ _
 have d1:¬ (r.length:Int) < (m:Nat):=by omega
 have d2:decide ((r.length:Int) < (m:Nat)) = false:=by simp;omega
 have p0:¬ p = h1.next:=by omega
 have q0:¬ h1.next = p:=by omega
 have p1:¬ p = h1.next + 1:=by omega
 have q1:¬ h1.next + 1 = p:=by omega
 have hz:=bs_size (some r)
 have htl:(r.take m).length = m:=by rw [List.length_take];omega
 by_cases h0:m = 0
 ·subst h0
  have ha:=app_none
  simp only [List.take_zero,List.drop_zero] at hs1 hs2 ⊢
  have hs1:∀ h,sliceA h 1 (bs (some r)) none (some (.one (.int .i64 0))) none = some (bs (some [])):=hs1
  have hs2:∀ h,sliceA h 1 (bs (some r)) (some (.one (.int .i64 0))) none none = some (bs (some r)):=hs2
  have e1:W K 48 [.one (.ptr p 0 0)] h = some (.ret (.one (.int .i64 0)) h1):=e1
  have d1:¬ (r.length:Int) < 0:=d1
  have d2:decide ((r.length:Int) < 0) = false:=d2
  generalize (r.length:Int) = RL at *
  refine ⟨.slc h1.next 0 0 0 1 none,(h1.new ⟨0,[0],true,[]⟩).set p (rdD (some r) false), ?_,byt_at (fx:=true) (l:=[]) (by simp) (by simp [q0]),fun x hx=>by simp [ownB] at hx;omega,by simp,⟨by simp;omega,fun x hx hp=>?_⟩⟩
  ·refine W_does hp rfl rfl rfl Tryz.func49 rfl (by simp [Tryz.f49]) ?_
   simp only [Tryz.f49]
   refine hide ?_;intro Q4 hQ4
   repeat' (first
    | (replace hQ4:=hQ4;simp [e1,w1,hs1,hs2,hL,d1,d2,p0,q0,hz,ha])
    | refine hQ4 _ _ _ ?_
    | (first | apply cF | apply wN | apply wS) <;> intro hcnd <;> (try simp only [hcnd]) <;> (try simp [-List.isEmpty_iff,-List.isEmpty_eq_false_iff] at hcnd))
   all_goals trace_state
  ·have:¬ x = h1.next:=by omega
   simp [hp,this,f1.f x hx hp]
 ·have ha:=fun h b hb=>app_fresh h b (r.take m) (by intro e;rw [e] at htl;simp at htl;omega) (by omega) hb
  rw [htl] at ha
  refine ⟨.slc (h1.next + 1) 0 0 m 1 none,((h1.new ⟨0,[0],true,[]⟩).new ⟨0,[m],false,(r.take m).map byteS⟩).set p (rdD (some (r.drop m)) false), ?_, ?_,fun x hx=>by simp [ownB] at hx;omega,by simp,⟨by simp;omega,fun x hx hp=>?_⟩⟩
  ·refine W_does hp rfl rfl rfl Tryz.func49 rfl (by simp [Tryz.f49]) ?_
   simp only [Tryz.f49]
   refine hide ?_;intro Q5 hQ5
   repeat' (first
    | (replace hQ5:=hQ5;simp [e1,w1,hs1,hs2,hL,d1,d2,p0,q0,p1,q1,hz,ha])
    | refine hQ5 _ _ _ ?_
    | (first | apply cF | apply wN | apply wS) <;> intro hcnd <;> (try simp only [hcnd]) <;> (try simp [-List.isEmpty_iff,-List.isEmpty_eq_false_iff] at hcnd))
   all_goals trace_state
  ·have:=byt_at (h:=((h1.new ⟨0,[0],true,[]⟩).new ⟨0,[m],false,(r.take m).map byteS⟩).set p (rdD (some (r.drop m)) false)) (b:=h1.next + 1) (l:=r.take m) (fx:=false) (by simp) (by simp [q1,htl])
   rwa [htl] at this
  ·have t0:¬ x = h1.next:=by omega
   have t1:¬ x = h1.next + 1:=by omega
   simp [hp,t0,t1,f1.f x hx hp]
theorem dsomeB_no {h:H} {p:Nat} {o:Option BL} {bad:Bool} (hb:bad = true ∨ (ls o).length < 2) (hpn:p < h.next) (hf:h.f p = some (rdD o bad)) :
  ∃ h',W K 49 [.one (.ptr p 0 0)] h = some (.ret (.one .nilslc) h')∧h'.f p = some (rdD none true)∧Fr1 p h h':=by
 obtain ⟨v,h1,e1,w1,f1⟩:=pair_no hb hpn hf
 have hx:=dfail_c w1
 refine ⟨h1.set p (rdD none true), ?_,by simp,⟨by simpa using f1.next,fun x hx hp=>by rw [set_at,if_neg hp,f1.f x hx hp]⟩⟩
 refine W_does hp rfl rfl rfl Tryz.func49 rfl (by simp [Tryz.f49]) ?_
 simp only [Tryz.f49]
 refine hide ?_;intro Q6 hQ6
 repeat' (first
  | (replace hQ6:=hQ6;simp [e1,w1,hx])
  | refine hQ6 _ _ _ ?_
  | (first | apply cF | apply wN | apply wS) <;> intro hcnd <;> (try simp only [hcnd]) <;> (try simp [-List.isEmpty_iff,-List.isEmpty_eq_false_iff] at hcnd))
 all_goals trace_state
theorem dsomeB_few {h:H} {p:Nat} (a b:UInt8) (r:BL) (hn:r.length < a.toNat * 256 + b.toNat) (hpn:p < h.next) (hf:h.f p = some (rdD (some (a::b::r)) false)) :
  ∃ h',W K 49 [.one (.ptr p 0 0)] h = some (.ret (.one .nilslc) h')∧h'.f p = some (rdD none true)∧Fr1 p h h':=by
 obtain ⟨h1,e1,w1,f1⟩:=pair_ok a b r hpn hf
 generalize a.toNat * 256 + b.toNat = m at *
 have hx:=dfail_c w1
 have hL:∀ h,lenA (bs (some r)) (some (.slice 5)) h = some (one (ii r.length) h):=fun h=>lenA_bs _ _ _
 have d1:(r.length:Int) < (m:Nat):=by omega
 have d2:decide ((r.length:Int) < (m:Nat)) = true:=by simp;omega
 refine ⟨h1.set p (rdD none true), ?_,by simp,⟨by simpa using f1.next,fun x hx hp=>by rw [set_at,if_neg hp,f1.f x hx hp]⟩⟩
 generalize (r.length:Int) = RL at *
 refine W_does hp rfl rfl rfl Tryz.func49 rfl (by simp [Tryz.f49]) ?_
 simp only [Tryz.f49]
 refine hide ?_;intro Q7 hQ7
 repeat' (first
  | (replace hQ7:=hQ7;simp [e1,w1,hx,hL,d1,d2])
  | refine hQ7 _ _ _ ?_
  | (first | apply cF | apply wN | apply wS) <;> intro hcnd <;> (try simp only [hcnd]) <;> (try simp [-List.isEmpty_iff,-List.isEmpty_eq_false_iff] at hcnd))
 all_goals trace_state
end Go.Proofs.YtofafocfemikcaaGreat
