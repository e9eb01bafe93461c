/- A part of a proof over the abstract machine. No conditions. -/
import Derived.Test.YtiagcnfmgigllaaGreatC1
import Derived.Test.YtiagcnfmgigllaaGreatC5s
import Derived.Test.YtiagcnfmgigllaaGreatAb5
import Derived.Test.YtiagcnfmgigllaaGreatT6
import Derived.Test.YtiagcnfmgigllaaGreatT11
set_option linter.unusedSimpArgs false
set_option linter.unnecessarySimpa false
set_option linter.unusedVariables false
namespace Go.Proofs.YtiagcnfmgigllaaGreat
open Go Go.Ab Wm NumPlain
set_option maxRecDepth 10000
set_option maxHeartbeats 4000000
abbrev rT:Nat:=132
theorem w0a (h:H) (l:BL) (n:Nat) (hn:n ≤ l.length):K8 h 1 (bs (some l)) none (some (.one (ii n))) none = some (bs (some (l.take n))):=by
 rw [O9,O9]
 have hq:(l.map D9).length = l.length:=by simp
 simp [K8,P9,sub,hn,Nat.min_eq_left hn]
theorem q0j (h:H) (l:BL) (n:Nat) (hn:n ≤ l.length):K8 h 1 (bs (some l)) (some (.one (ii n))) none none = some (bs (some (l.drop n))):=by
 rw [O9,O9]
 have hq:(l.map D9).length = l.length:=by simp
 simp [K8,P9,sub,hn]
 exact List.take_of_length_le (by simp)
theorem t0M {h:H} {p:Nat} {l:BL} (n:Nat) (hn:n ≤ l.length) (hl:l.length ≤ 1099511627776) (hf:h.f p = some (rdB (some l))):W K 200 [.one (.ptr p 0 0),.one (ii n)] h = some (.ret (.one (bs (some (l.take n)))) (h.set p (rdB (some (l.drop n))))):=by
 have hc:=f0N (some (l.take n)) (by simp;omega)
 have hc':=fun h=>hc.pure hp h
 have h1:=fun h=>w0a h l n hn
 have h2:=fun h=>q0j h l n hn
 have hd:decide ((l.length:Int) < n) = false:=by simp;omega
 have hd2:¬ (l.length:Int) < n:=by omega
 refine A5 hp rfl rfl rfl Tryz.func200 rfl (by simp [Tryz.f200]) ?_
 simp only [Tryz.f200]
 refine hide ?_;intro Q1 hQ1
 repeat' (first
  | (replace hQ1:=hQ1;simp [hf,hc',h1,h2,hd2,r0a])
  | refine hQ1 _ _ _ ?_)
theorem w0k {l:BL} {i:Nat} (hi:i < l.length):U0 Tryz.prog 27 (bs (some l)) i = some (.rp (l.map D9) i):=by
 rw [O9];simp [U0,hi]
theorem A0m (a r:BL) (b:UInt8):sub ((a++b::r).map D9) a.length 1 = some [D9 b]:=by
 simp [sub]
theorem o0q {h:H} {p:Nat} {l:BL} (n:Nat) (hn8:n ≤ 8) (hn:n ≤ l.length) (hl:l.length ≤ 1099511627776) (hf:h.f p = some (rdB (some l))):W K 149 [.one (.ptr p 0 0),.one (ii n)] h = some (.ret (.one (.int .u64 (f0S (l.take n)))) (h.set p (rdB (some (l.drop n))))):=by
 have ht:=t0M n hn hl hf
 have htl:(l.take n).length = n:=by simp;omega
 generalize l.take n = x at *
 refine A5 hp rfl rfl rfl Tryz.func149 rfl (by simp [Tryz.f149]) ?_
 simp only [Tryz.f149]
 refine hide ?_;intro Q2 hQ2
 repeat' (first
  | (replace hQ2:=hQ2;simp [ht])
  | refine hQ2 _ _ _ ?_
  | (first | apply cF | apply wN | apply wS) <;> intro hcnd <;> (try simp only [hcnd]) <;> (try simp [-List.isEmpty_iff,-List.isEmpty_eq_false_iff] at hcnd))
 refine F5 hp x (fun a r fr hh=>∃ j,fr = (j 0::j 1::j 2::j 3::j 4::(.one (.int .u64 (f0S a)))::j 6::j 7::j 8::j 9::(.one (bs (some x)))::(.one (ii x.length))::(.one (ii a.length))::j 13::j 14::j 15::j 16::j 17::j 18::j 19::j 20::j 21::j 22::[])∧hh = h.set p (rdB (some (l.drop n)))) ?_ ?_ _ _ (Y6 (by simp) rfl)
 ·rintro a b r fr hh hx ⟨j,rfl,hh2⟩
  subst hx
  have hi:=w0k (l:=a++b::r) (i:=a.length) (by simp)
  have hr:=A0m a r b
  generalize (a++b::r).map D9 = M at hi hr
  have hw:IntKind.i64.wrap ((a.length:Int) + 1) = ((a++[b]).length:Int):=by rw [M9];exact F0 (by simp at htl;omega)
  have hb:b.toNat < 256:=b.toNat_lt
  have ha:f0S a < 72057594037927936:=by
   have h1:=r0O a
   have h2:256 ^ a.length ≤ 256 ^ 7:=Nat.pow_le_pow_right (by omega) (by simp at htl;omega)
   have h3:(256:Nat) ^ 7 = 72057594037927936:=by decide
   omega
  have hs:=u0R ha
  have ho:orI .u64 ((f0S a:Int) * 256) b.toNat = (f0S a:Int) * 256 + b.toNat:=by have:=y0k ha hb;simpa using this
  have hc:IntKind.u64.wrap (b.toNat:Int) = b.toNat:=c0y (by omega) (by omega)
  have hlt:decide ((a.length:Int) < (a++b::r).length) = true:=by simp;omega
  first | (refine hide ?_;intro Q3 hQ3) | have hQ3:=True.intro
  repeat' (first
   | (replace hQ3:=hQ3;simp [-List.length_append,hi,hr,hw,hs,ho,hc,A6,D9])
   | (refine hQ3 _ _ _ ?_;clear hQ3 Q3;first | simp only [] | simp [-List.length_append,hi,hr,hw,hs,ho,hc,A6,D9,i0f] | skip)
   | (refine D3 (by assumption) ?_;(try clear hQ3);first | simp only [] | simp [-List.length_append,hi,hr,hw,hs,ho,hc,A6,D9,i0f] | skip)
   | ((fail_if_success replace hQ3:=hQ3);(first | refine hide ?_ | refine u6 ?_ | refine u7 ?_);intro Q3 hQ3)
   | (first | apply cF | apply wN | apply wS) <;> intro hcnd <;> (try simp only [hcnd]) <;> (try simp [-List.isEmpty_iff,-List.isEmpty_eq_false_iff] at hcnd))
  all_goals first | omega | exact Y6 (by simp [i0f]) hh2 | trace_state
 ·rintro fr hh ⟨j,rfl,hh2⟩
  first | (refine hide ?_;intro Q4 hQ4) | have hQ4:=True.intro
  repeat' (first
   | (replace hQ4:=hQ4;simp [hh2])
   | (refine hQ4 _ _ _ ?_;clear hQ4 Q4;first | simp only [] | simp [hh2] | skip)
   | (refine D3 (by assumption) ?_;(try clear hQ4);first | simp only [] | simp [hh2] | skip)
   | ((fail_if_success replace hQ4:=hQ4);(first | refine hide ?_ | refine u6 ?_ | refine u7 ?_);intro Q4 hQ4)
   | (first | apply cF | apply wN | apply wS) <;> intro hcnd <;> (try simp only [hcnd]) <;> (try simp [-List.isEmpty_iff,-List.isEmpty_eq_false_iff] at hcnd))
  all_goals trace_state
theorem k0E (h:H) (q:Nat):W K 96 [.one (.ptr q 0 0)] h = some (.pan (.ifc rT (.ptr q 0 0)) h):=by
 refine A5 hp rfl rfl rfl Tryz.func96 rfl (by simp [Tryz.f96]) ?_
 simp only [Tryz.f96]
 refine hide ?_;intro Q5 hQ5
 repeat' (first
  | (replace hQ5:=hQ5;simp)
  | refine hQ5 _ _ _ ?_)
theorem u0I {h:H} {p:Nat} {o:Option BL} (n:Nat) (hn:(ls o).length < n) (hf:h.f p = some (rdB o)):W K 200 [.one (.ptr p 0 0),.one (ii n)] h = some (.pan (.ifc rT (.ptr p 0 0)) h):=by
 have hd:decide (((ls o).length:Int) < n) = true:=by simp;omega
 have hd2:((ls o).length:Int) < n:=by omega
 have hx:=k0E h p
 refine A5 hp rfl rfl rfl Tryz.func200 rfl (by simp [Tryz.f200]) ?_
 simp only [Tryz.f200]
 refine hide ?_;intro Q6 hQ6
 repeat' (first
  | (replace hQ6:=hQ6;simp [hf,hd2,hx])
  | refine hQ6 _ _ _ ?_)
theorem o0o {h:H} {p:Nat} {o:Option BL} (n:Nat) (hn:(ls o).length < n) (hf:h.f p = some (rdB o)):W K 149 [.one (.ptr p 0 0),.one (ii n)] h = some (.pan (.ifc rT (.ptr p 0 0)) h):=by
 have ht:=u0I n hn hf
 refine A5 hp rfl rfl rfl Tryz.func149 rfl (by simp [Tryz.f149]) ?_
 simp only [Tryz.f149]
 refine hide ?_;intro Q7 hQ7
 repeat' (first
  | (replace hQ7:=hQ7;simp [ht])
  | refine hQ7 _ _ _ ?_)
theorem A0Q {α:Type} {o:Option (List α)} {n:Nat} (h:n + 1 ≤ (ls o).length):∃ l,o = some l:=by
 cases o with
 | none=>simp at h
 | some l=>exact ⟨l,rfl⟩
theorem d0R:f0U K rT 95 [] u0r (fun b=>.one (D9 b)):=by
 intro h q o w
 cases hl:ls o with
 | nil =>
  have hn:W K 149 [.one (.ptr q 0 0),.one (.int .i64 1)] h = _:=o0o (h:=h) (p:=q) (o:=o) 1 (by rw [hl];simp) w.rd
  refine ⟨.pan (.ifc rT (.ptr q 0 0)) h, ?_,h0H rfl w⟩
  refine A5 hp rfl rfl rfl Tryz.func95 rfl (by simp [Tryz.f95]) ?_
  simp only [Tryz.f95]
  refine hide ?_;intro Q8 hQ8
  repeat' (first
   | (replace hQ8:=hQ8;simp [hn])
   | refine hQ8 _ _ _ ?_)
 | cons b l =>
  have ho:=w.room
  have hf:=w.rd
  obtain rfl:=S7 (a:=[]) hl
  have hn:W K 149 [.one (.ptr q 0 0),.one (.int .i64 1)] h = some (.ret (.one (.int .u64 b.toNat)) (h.set q (rdB (some l)))):=by
   have:=o0q 1 (by omega) (by simp) ho hf
   simpa [t0K] using this
  have hc:IntKind.u8.wrap (b.toNat:Int) = b.toNat:=j0A (by omega) (by have:=b.toNat_lt;omega)
  refine ⟨.ret (.one (D9 b)) (h.set q (rdB (some l))), ?_,k0W rfl (w.rdset (some l) (by simp at ho ⊢;omega)) rfl⟩
  refine A5 hp rfl rfl rfl Tryz.func95 rfl (by simp [Tryz.f95]) ?_
  simp only [Tryz.f95]
  refine hide ?_;intro Q9 hQ9
  repeat' (first
   | (replace hQ9:=hQ9;simp [hn,hc,A6,D9])
   | refine hQ9 _ _ _ ?_)
theorem p0a (k:Nat) (hk:1 ≤ k∧k ≤ 8):f0U K rT 149 [.one (ii k)] (l0i k) (fun n=>.one (.int .u64 n)):=by
 intro h q o w
 unfold l0i
 by_cases hn:k ≤ (ls o).length
 ·obtain ⟨l,rfl⟩:=A0Q (n:=k - 1) (o:=o) (by omega)
  rw [if_pos hn]
  exact ⟨_,o0q k hk.2 hn w.room w.rd,k0W rfl (w.rdset (some (l.drop k)) (by have:=w.room;simp at this ⊢;omega)) rfl⟩
 ·rw [if_neg hn]
  exact ⟨_,o0o k (by omega) w.rd,h0H rfl w⟩
theorem w0Z:f0U K rT 204 [] (l0i 8) (fun n=>.one (.int .u64 n)):=by
 intro h q o w
 obtain ⟨r,e,hx⟩:=p0a 8 (by omega) h q o w
 refine ⟨r, ?_,hx⟩
 have e':W K 149 [.one (.ptr q 0 0),.one (.int .i64 8)] h = some r:=e
 unfold h0r at hx
 split at hx
 ·obtain ⟨h',rfl,_⟩:=hx
  refine A5 hp rfl rfl rfl Tryz.func204 rfl (by simp [Tryz.f204]) ?_
  simp only [Tryz.f204]
  refine hide ?_;intro Q10 hQ10
  repeat' (first
   | (replace hQ10:=hQ10;simp [e'])
   | refine hQ10 _ _ _ ?_)
 ·obtain ⟨h',o',rfl,_⟩:=hx
  refine A5 hp rfl rfl rfl Tryz.func204 rfl (by simp [Tryz.f204]) ?_
  simp only [Tryz.f204]
  refine hide ?_;intro Q11 hQ11
  repeat' (first
   | (replace hQ11:=hQ11;simp [e'])
   | refine hQ11 _ _ _ ?_)
theorem r0P {k n:Nat} {l l':BL} (h:l0i k l = some (n,l')):n < 256 ^ k∧l'.length + k = l.length:=by
 unfold l0i at h
 split at h
 ·simp only [oqI,oqM] at h
  obtain ⟨rfl,rfl⟩:=h
  have:=r0O (l.take k)
  rw [List.length_take,Nat.min_eq_left (by omega)] at this
  exact ⟨this,by simp;omega⟩
 ·cases h
theorem w0t:f0U K rT 94 [] (l0i 4) (fun n=>.one (.int .u32 n)):=by
 intro h q o w
 obtain ⟨r,e,hx⟩:=p0a 4 (by omega) h q o w
 have e':W K 149 [.one (.ptr q 0 0),.one (.int .i64 4)] h = some r:=e
 unfold h0r at hx
 split at hx
 ·rename_i n l hpe
  obtain ⟨h',rfl,w'⟩:=hx
  simp only [] at e'
  have hc:IntKind.u32.wrap (n:Int) = n:=o0g (by omega) (by have:=(r0P hpe).1;omega)
  refine ⟨.ret (.one (.int .u32 n)) h', ?_,k0W hpe w' rfl⟩
  refine A5 hp rfl rfl rfl Tryz.func94 rfl (by simp [Tryz.f94]) ?_
  simp only [Tryz.f94]
  refine hide ?_;intro Q12 hQ12
  repeat' (first
   | (replace hQ12:=hQ12;simp [e',hc,A6])
   | refine hQ12 _ _ _ ?_)
 ·rename_i hpe
  obtain ⟨h',o',rfl,w'⟩:=hx
  refine ⟨_, ?_,h0H hpe w'⟩
  refine A5 hp rfl rfl rfl Tryz.func94 rfl (by simp [Tryz.f94]) ?_
  simp only [Tryz.f94]
  refine hide ?_;intro Q13 hQ13
  repeat' (first
   | (replace hQ13:=hQ13;simp [e'])
   | refine hQ13 _ _ _ ?_)
theorem i0B (most:Nat) (hm:most ≤ 1048576):f0U K rT 164 [.one (ii most)] (k0b most) (fun x=>.one (bs (some x))):=by
 intro h q o w
 unfold k0b
 obtain ⟨r,e,hx⟩:=w0t h q o w
 unfold h0r at hx
 split at hx
 ·rename_i n l hpe
  obtain ⟨h',rfl,w'⟩:=hx
  simp only [] at e
  simp only [hpe,oqS]
  have hn:=(r0P hpe).1
  have hc:IntKind.i64.wrap (n:Int) = n:=wrap_i64 (by omega) (by omega)
  by_cases h1:1048576 < n ∨ most < n
  ·rw [if_pos h1]
   refine ⟨.pan (.ifc rT (.ptr q 0 0)) h', ?_,h0H rfl w'⟩
   have hx:=k0E h' q
   have hd:(decide (1048576 < n) || decide (most < n)) = true:=by simpa using h1
   rcases h1 with h1 | h1
   ·have hd1:decide (1048576 < n) = true:=by simp;omega
    refine A5 hp rfl rfl rfl Tryz.func164 rfl (by simp [Tryz.f164]) ?_
    simp only [Tryz.f164]
    refine hide ?_;intro Q14 hQ14
    repeat' (first
     | (replace hQ14:=hQ14;simp [e,hc,h1,hx,A6])
     | refine hQ14 _ _ _ ?_)
   ·have hd1:decide (most < n) = true:=by simp;omega
    by_cases h2:1048576 < n
    ·refine A5 hp rfl rfl rfl Tryz.func164 rfl (by simp [Tryz.f164]) ?_
     simp only [Tryz.f164]
     refine hide ?_;intro Q15 hQ15
     repeat' (first
      | (replace hQ15:=hQ15;simp [e,hc,h2,hx,A6])
      | refine hQ15 _ _ _ ?_)
    ·refine A5 hp rfl rfl rfl Tryz.func164 rfl (by simp [Tryz.f164]) ?_
     simp only [Tryz.f164]
     refine hide ?_;intro Q16 hQ16
     repeat' (first
      | (replace hQ16:=hQ16;simp [e,hc,h1,h2,hx,A6])
      | refine hQ16 _ _ _ ?_)
  ·rw [if_neg h1]
   have hd1:¬ 1048576 < n:=by omega
   have hd2:¬ most < n:=by omega
   have hd3:decide (1048576 < n) = false:=by simp;omega
   have hd4:decide (most < n) = false:=by simp;omega
   by_cases h2:n ≤ l.length
   ·rw [if_pos h2]
    have ht:=t0M n h2 w'.room w'.rd
    refine ⟨.ret (.one (bs (some (l.take n)))) (h'.set q (rdB (some (l.drop n)))), ?_,k0W rfl (w'.rdset (some (l.drop n)) (by have:=w'.room;simp at this ⊢;omega)) rfl⟩
    refine A5 hp rfl rfl rfl Tryz.func164 rfl (by simp [Tryz.f164]) ?_
    simp only [Tryz.f164]
    refine hide ?_;intro Q17 hQ17
    repeat' (first
     | (replace hQ17:=hQ17;simp [e,ht,hc,hd1,hd2,A6])
     | refine hQ17 _ _ _ ?_)
   ·rw [if_neg h2]
    have ht:=u0I (o:=some l) n (by simp;omega) w'.rd
    refine ⟨_, ?_,h0H rfl w'⟩
    refine A5 hp rfl rfl rfl Tryz.func164 rfl (by simp [Tryz.f164]) ?_
    simp only [Tryz.f164]
    refine hide ?_;intro Q18 hQ18
    repeat' (first
     | (replace hQ18:=hQ18;simp [e,ht,hc,hd1,hd2,A6])
     | refine hQ18 _ _ _ ?_)
 ·rename_i hpe
  obtain ⟨h',o',rfl,w'⟩:=hx
  simp only [hpe,Option.bind_none]
  refine ⟨_, ?_,h0H rfl w'⟩
  refine A5 hp rfl rfl rfl Tryz.func164 rfl (by simp [Tryz.f164]) ?_
  simp only [Tryz.f164]
  refine hide ?_;intro Q19 hQ19
  repeat' (first
   | (replace hQ19:=hQ19;simp [e])
   | refine hQ19 _ _ _ ?_)
end Go.Proofs.YtiagcnfmgigllaaGreat
namespace Wm
open Go Go.Ab
def m0N (v:Value):Value:=if v.kind = 1 then ⟨1,some (ls v.b),0⟩ else v
def Z7 (x:Version):Version:=⟨x.time,m0N x.v⟩
def Z6 (c:Column):Column:=⟨c.name,nz ((ls c.l).map Z7)⟩
def c0A (o:Row):Row:=nz ((ls o).map Z6)
def i0o (l:BL):Option (Nat × BL):=(l0i 8 l).bind fun x=>if b0y x.1 = x.1 then some (b0y x.1,x.2) else none
def s0N (l:BL):Option (Value × BL):=(u0r l).bind fun x =>
 if (x.1.toNat:Int) = 1 then (k0b 16 x.2).bind fun y=>some (⟨x.1.toNat,some y.1,0⟩,y.2) else
 if (x.1.toNat:Int) = 2 then (i0o x.2).bind fun y=>some (⟨x.1.toNat,none,y.1⟩,y.2) else none
theorem u0S {v:Value} (ok:S5 v = true) (hc:N4 v = v) (hn:v.kind = 2→v.n < 256 ^ 8) (l:BL):s0N (a0v v++l) = some (m0N v,l):=by
 obtain ⟨k,b,n⟩:=v
 by_cases h1:k = 1
 ·subst h1
  have hb:(ls b).length ≤ 16:=by
   have h:d0K b ≤ 16:=by simpa [S5] using ok
   cases b with
   | none=>simp
   | some l=>simpa [d0K] using h
  simp only [a0v,if_true,m0N,List.cons_append,s0N,Y9,oqS]
  rw [if_pos (by decide),a0K hb (by omega)]
  rfl
 ·by_cases h2:k = 2
  ·subst h2
   simp only [N4,Int.reduceEq,if_true,if_false,Value.mk.injEq,true_and] at hc
   obtain ⟨rfl,hc⟩:=hc
   simp only [a0v,Int.reduceEq,if_true,if_false,m0N,List.cons_append,s0N,Y9,oqS]
   rw [if_neg (by decide),if_pos (by decide),hc,i0o,h0z (hn rfl)]
   simp [hc]
  ·exfalso
   simp [S5,h1,h2] at ok
theorem s0w (v:Value):S5 (m0N v) = S5 v:=by
 unfold m0N
 split
 ·rename_i h
  obtain ⟨k,b,n⟩:=v
  simp only at h
  subst h
  cases b
  ·simp [S5,d0K]
  ·simp [S5,d0K];rfl
 ·rfl
theorem v0F (x:Version):b0l (Z7 x) = b0l x:=by
 simp only [b0l,Z7,s0w];rfl
theorem v0I (c:Column):a0w (Z6 c) = a0w c:=by
 simp only [a0w,Z6,b0G,List.length_map,List.all_map]
 rw [d0d (r:=c0M) (s:=c0M) (f:=Z7) (fun a b=>rfl)]
 have:(b0l ∘ Z7) = b0l:=funext fun x=>v0F x
 rw [this]
theorem o0x (o:Row):S1 (c0A o) = S1 o:=by
 simp only [S1,c0A,b0G,List.length_map,List.all_map]
 rw [d0d (r:=d0M) (s:=d0M) (f:=Z6) (fun a b=>rfl)]
 have:(a0w ∘ Z6) = a0w:=funext fun x=>v0I x
 rw [this]
end Wm
namespace Wm
open Go Go.Ab
def L9 (x:Named):Named:=⟨x.name,c0A x.r⟩
end Wm
namespace Go.Proofs.YtiagcnfmgigllaaGreat
open Go Go.Ab Wm NumPlain
set_option maxRecDepth 10000
set_option maxHeartbeats 4000000
theorem A0P (n:Nat) (h:H):W K 252 [.one (.int .u64 n)] h = some (.ret (.one (.flt (b0y n))) h):=by
 have h1:=X6 n
 have h2:=f0L n
 simp only [Int.toNat_natCast] at h1
 have hown:A8 S.own 252 = false:=by kernel_rfl
 refine p5 hp (by simp [p7,c5]) (c6 rfl rfl (by kernel_rfl) Tryz.func252 rfl (by simp [Tryz.f252]) ?_)
 simp only [Tryz.f252]
 refine hide ?_;intro Q1 hQ1
 repeat' (first
  | (replace hQ1:=hQ1;simp [h1,h2,t7,p9,p6,c5,p0,hown])
  | refine hQ1 _ _ _ ?_)
theorem z0i:f0U K rT 234 [] i0o (fun n=>.one (.flt n)):=by
 have hfl:=k0E
 intro h q o w
 have hk:=True.intro
 refine J6 hp rfl rfl rfl Tryz.func234 rfl (by simp [Tryz.f234]) ?_
 simp only [Tryz.f234]
 refine hide ?_;intro Q2 hQ2
 repeat' (first
  | (replace hQ2:=hQ2;simp [hfl])
  | refine hQ2 _ _ _ ?_
  | ((with_reducible refine O1 ?_);first
   | (refine c0g (w0Z) (by first | assumption | exact RS.new (by assumption) _ | exact RS.set0 (by assumption) (by omega) _ | exact RS.set0 (RS.new (by assumption) _) (by omega) _ | exact RS.new (RS.new (by assumption) _) _ | exact RS.new (RS.set0 (by assumption) (by omega) _) _ | exact RS.set0 (RS.swap (by assumption)) (by omega) _ | exact RS.set0 (RS.swap (RS.set0 (by assumption) (by omega) _)) (by omega) _ | exact RS.set0 (RS.new (RS.new (by assumption) _) _) (by omega) _) (fun v l h' hpe ws' hk=>?_) (fun hpe h' o' ws'=>?_) <;> (have hnx:=ws'.next) <;> (try simp only [I6] at hpe) <;> (try simp only [g0G,H9,c0S,f0x,and_true] at hk) <;> (try simp [A0P,f0B,l0t])))
  | (first | apply cF | apply wN | apply wS) <;> intro hcnd <;> (try simp only [hcnd]) <;> (try simp [-List.isEmpty_iff,-List.isEmpty_eq_false_iff] at hcnd))
 all_goals (try simp only [Int.natCast_inj] at hcnd)
 all_goals first | exact h0H (by simp [i0o, *]) (by assumption) | exact k0W (v:=b0y _) (by simp [i0o,hpe,hcnd];rfl) (by assumption) rfl | exact k0W (v:=b0y _) (by simp [i0o,hpe,hcnd]) (by assumption) rfl
theorem H0c (v:UInt8) (h:H):A6 Tryz.prog 5 3 (D9 v) h = some (.val (.one (ii v.toNat)) h):=by
 have hc:IntKind.i64.wrap (v.toNat:Int) = v.toNat:=wrap_i64 (by omega) (by have:=v.toNat_lt;omega)
 simp [A6,D9,hc]
theorem F0B:f0U K rT 205 [] s0N (fun v:Wm.Value=>.agg (W0 v)):=by
 have hfl:=k0E
 intro h q o w
 have hk:=True.intro
 refine J6 hp rfl rfl rfl Tryz.func205 rfl (by simp [Tryz.f205]) ?_
 simp only [Tryz.f205]
 refine hide ?_;intro Q3 hQ3
 repeat' (first
  | (replace hQ3:=hQ3;simp [hfl])
  | refine hQ3 _ _ _ ?_
  | ((with_reducible refine O1 ?_);first
   | (refine c0g (d0R) (by first | assumption | exact RS.new (by assumption) _ | exact RS.set0 (by assumption) (by omega) _ | exact RS.set0 (RS.new (by assumption) _) (by omega) _ | exact RS.new (RS.new (by assumption) _) _ | exact RS.new (RS.set0 (by assumption) (by omega) _) _ | exact RS.set0 (RS.swap (by assumption)) (by omega) _ | exact RS.set0 (RS.swap (RS.set0 (by assumption) (by omega) _)) (by omega) _ | exact RS.set0 (RS.new (RS.new (by assumption) _) _) (by omega) _) (fun v l h' hpe ws' hk=>?_) (fun hpe h' o' ws'=>?_) <;> (have hnx:=ws'.next) <;> (try simp only [I6] at hpe) <;> (try simp only [g0G,H9,c0S,f0x,and_true] at hk) <;> (try simp [H0c]))
   | (refine c0g (i0B 16 (by omega)) (by first | assumption | exact RS.new (by assumption) _ | exact RS.set0 (by assumption) (by omega) _ | exact RS.set0 (RS.new (by assumption) _) (by omega) _ | exact RS.new (RS.new (by assumption) _) _ | exact RS.new (RS.set0 (by assumption) (by omega) _) _ | exact RS.set0 (RS.swap (by assumption)) (by omega) _ | exact RS.set0 (RS.swap (RS.set0 (by assumption) (by omega) _)) (by omega) _ | exact RS.set0 (RS.new (RS.new (by assumption) _) _) (by omega) _) (fun v l h' hpe ws' hk=>?_) (fun hpe h' o' ws'=>?_) <;> (have hnx:=ws'.next) <;> (try simp only [I6] at hpe) <;> (try simp only [g0G,H9,c0S,f0x,and_true] at hk) <;> (try simp [hk]))
   | (refine c0g (z0i) (by first | assumption | exact RS.new (by assumption) _ | exact RS.set0 (by assumption) (by omega) _ | exact RS.set0 (RS.new (by assumption) _) (by omega) _ | exact RS.new (RS.new (by assumption) _) _ | exact RS.new (RS.set0 (by assumption) (by omega) _) _ | exact RS.set0 (RS.swap (by assumption)) (by omega) _ | exact RS.set0 (RS.swap (RS.set0 (by assumption) (by omega) _)) (by omega) _ | exact RS.set0 (RS.new (RS.new (by assumption) _) _) (by omega) _) (fun v l h' hpe ws' hk=>?_) (fun hpe h' o' ws'=>?_) <;> (have hnx:=ws'.next) <;> (try simp only [I6] at hpe) <;> (try simp only [g0G,H9,c0S,f0x,and_true] at hk) <;> (try simp [hk])))
  | (first | apply cF | apply wN | apply wS) <;> intro hcnd <;> (try simp only [hcnd]) <;> (try simp [-List.isEmpty_iff,-List.isEmpty_eq_false_iff] at hcnd))
 all_goals first | exact h0H (by simp [s0N, *]) (by first | assumption | exact RS.new (by assumption) _ | exact RS.set0 (by assumption) (by omega) _ | exact RS.set0 (RS.new (by assumption) _) (by omega) _ | exact RS.new (RS.new (by assumption) _) _ | exact RS.new (RS.set0 (by assumption) (by omega) _) _ | exact RS.set0 (RS.swap (by assumption)) (by omega) _ | exact RS.set0 (RS.swap (RS.set0 (by assumption) (by omega) _)) (by omega) _ | exact RS.set0 (RS.new (RS.new (by assumption) _) _) (by omega) _) | (refine x0d (by first | assumption | exact RS.new (by assumption) _ | exact RS.set0 (by assumption) (by omega) _ | exact RS.set0 (RS.new (by assumption) _) (by omega) _ | exact RS.new (RS.new (by assumption) _) _ | exact RS.new (RS.set0 (by assumption) (by omega) _) _ | exact RS.set0 (RS.swap (by assumption)) (by omega) _ | exact RS.set0 (RS.swap (RS.set0 (by assumption) (by omega) _)) (by omega) _ | exact RS.set0 (RS.new (RS.new (by assumption) _) _) (by omega) _) (by simp [s0N, *];first | exact ⟨rfl,rfl⟩ | rfl) ?_;first | rfl | simp [W0,B7, *])
theorem U5 {α:Type} {f:Nat} {rest:List AV} {P:BL→Option (α × BL)} {enc:α→AV} (hr:f0U K rT f rest P enc) {h:H} {q:Nat} {L l:BL} {v:α} (hq:q < h.next) (hf:h.f q = some (rdB (some L))) (hl:L.length ≤ 1099511627776) (hP:P L = some (v,l)) :
  ∃ h',W K f (.one (.ptr q 0 0)::rest) h = some (.ret (enc v) h')∧h.next ≤ h'.next∧h'.f q = some (rdB (some l))∧∀ b,b < h.next→b ≠ q→h'.f b = h.f b:=by
 obtain ⟨r,e,hx⟩:=hr h q (some L) (RS.start hq hf hl)
 unfold h0r at hx
 simp only [I6,hP] at hx
 obtain ⟨h',rfl,w⟩:=hx
 exact ⟨h',e,w.next,w.rd,w.same⟩
theorem c0f {n:Nat} (h:n < 256):D9 (u8 (n:Int)) = .int .u8 (n:Int):=by
 unfold D9 u8
 simp
 omega
structure VerRd (x:Version):Prop where
 t:0 ≤ x.time∧x.time ≤ 1099511627776
 v:S5 x.v = true
 c:N4 x.v = x.v
 n:x.v.kind = 2→x.v.n < 256 ^ 8
structure ColRd (c:Column):Prop where
 nm:J4 c.name = true
 n:(ls c.l).length ≤ 2
 ne:ls c.l ≠ []
 v:∀ x ∈ ls c.l,VerRd x
structure RowRd (o:Row):Prop where
 ok:S1 o = true
 n:(ls o).length ≤ 4
 c:∀ x ∈ ls o,ColRd x
theorem w0P {t:Int} (h:0 ≤ t∧t ≤ 1099511627776):IntKind.i64.wrap ((u64 t:Nat):Int) = t:=by
 have:((u64 t:Nat):Int) = t:=by unfold u64;omega
 rw [this,wrap_i64 (by omega) (by omega)]
theorem a0E (o:Option BL) (h:H):A6 Tryz.prog 27 9 (bs o) h = some (.val (.one (.str (ls o))) h):=by
 have he:=o0C h o
 have hl:=z0j o
 have:∀ s,bs o ≠ .str s:=by cases o <;> simp [B7,O9]
 simp only [A6]
 cases hbs:bs o <;> simp_all [S9,f0t]
theorem z0o {h h1:H} {q lo:Nat} {rest:BL} {R:Row} {s:AS} {rs:List RC} {o:Option BL} (a:RowAt h1 lo s rs R) (hlo:h.next ≤ lo) (hn:h.next ≤ h1.next) (hq:q < h.next) (h0:h.f q = some (rdB o)) (hf:h1.f q = some (rdB (some rest))) (hs:∀ b,b < h.next→b ≠ q→h1.f b = h.f b) :
  h0m false h (fun r=>∃ h',r = .ret (.agg (F6 R)) h'∧h.next ≤ h'.next∧h'.f q = some (rdB (some rest))∧∀ b,b < h.next→b ≠ q→h'.f b = h.f b) (.ret (.agg [s]) h1):=by
 by_cases hz:s = .nilslc
 ·have:=a.nil.1 hz
  subst this
  subst hz
  exact o0e (by simp [a0S,j9,c5]) ⟨h1,rfl,hn,hf,hs⟩
 ·have hp':a0S (.agg [s]) = false:=by
   rcases a.arr with ⟨e,_⟩ | ⟨b,v,z,e,_⟩
   ·exact absurd e hz
   ·rw [e];simp [a0S,j9,c5]
  have hfz:=a.frz (h:=h) hlo 61
  refine ⟨_,p0k (v':=.agg (F6 R)) hp' ⟨hn,fun b hb=>?_⟩ (by simp only [p9,List.mapM_cons,List.mapM_nil,hfz,oqE,oqS,oqP,F6]),h.back h1,rfl,by simp [H.back],by simp only [H.back,if_pos hq];exact hf,fun b hb hbq=>by simp only [H.back,if_pos hb];exact hs b hb hbq⟩
  by_cases e:b = q
  ·subst e
   exact .inr ⟨_,_,h0,hf,rfl,rfl,by simp [j9,f0k]⟩
  ·exact .inl (hs b hb e)
theorem s0x {h:H} {q:Nat} {R:Row} {rest:BL} (hR:RowRd R) (hq:q < h.next) (hf:h.f q = some (rdB (some (d0t (ls R)++rest)))) (hroom:(d0t (ls R)++rest).length ≤ 1099511627776) :
  ∃ r,W K 165 [.one (.ptr q 0 0)] h = some r∧∃ h',r = .ret (.agg (F6 (c0A R))) h'∧h.next ≤ h'.next∧h'.f q = some (rdB (some rest))∧∀ b,b < h.next→b ≠ q→h'.f b = h.f b:=by
 obtain ⟨B0,hB0⟩:∃ B:Blk,B = ⟨0,[1],true,[.nilslc]⟩:=⟨_,rfl⟩
 simp only [d0t,List.cons_append] at hf hroom
 have hqn:¬ q = h.next:=by omega
 have hqn1:¬ q = h.next + 1:=by omega
 obtain ⟨g0,e0,n0,r0,s0⟩:=U5 d0R (h:=(h.new B0).new B0) (q:=q) (by simp;omega) (by rw [p8 (by simp;omega),p8 hqn];exact hf) hroom (Y9 _ _)
 simp only [A0] at n0 s0
 rw [c0f (by have:=hR.n;omega)] at e0
 have f0:g0.f h.next = some B0:=by rw [s0 _ (by omega) (Ne.symm hqn),p8 (by simp)];simp
 have f1:g0.f (h.next + 1) = some B0:=by rw [s0 _ (by omega) (Ne.symm hqn1)];simp
 obtain ⟨P,hP⟩:∃ P:CR→Prop,P = fun r=>∃ h',r = .ret (.agg (F6 (c0A R))) h'∧h.next ≤ h'.next∧h'.f q = some (rdB (some rest))∧∀ b,b < h.next→b ≠ q→h'.f b = h.f b:=⟨_,rfl⟩
 suffices hh:∃ r,W K 165 [.one (.ptr q 0 0)] h = some r∧P r by rw [hP] at hh;exact hh
 rw [hB0] at e0 f0 f1
 refine O4 hp rfl rfl rfl rfl Tryz.func165 rfl (by simp [Tryz.f165]) ?_
 simp only [Tryz.f165]
 refine hide ?_;intro Q1 hQ1
 repeat' (first
  | (replace hQ1:=hQ1;simp [e0])
  | refine hQ1 _ _ _ ?_)
 refine F5 hp (ls R) (fun a r fr hh=>(h.next + 1 + 1 ≤ hh.next∧(∀ b,b < h.next→b ≠ q→hh.f b = h.f b)∧hh.f q = some (rdB (some (r.flatMap b0n++rest)))∧(r.flatMap b0n++rest).length ≤ 1099511627776∧hh.f h.next = some ⟨0,[1],true,[.nilslc]⟩∧∃ s1 rs1,hh.f (h.next + 1) = some ⟨0,[1],true,[s1]⟩∧rs1.length = a.length∧RowAt hh (h.next + 1 + 1) s1 rs1 (nz (a.map Z6)))∧∃ j:Nat→AV,fr = ((.one (.ptr q 0 0))::j 1::(.one (.ptr h.next 0 0))::(.one (.ptr (h.next + 1) 0 0))::(.one (.int .u8 r.length))::j 5::j 6::j 7::j 8::j 9::j 10::j 11::j 12::j 13::j 14::j 15::j 16::j 17::j 18::j 19::j 20::j 21::j 22::j 23::j 24::j 25::j 26::j 27::j 28::j 29::j 30::j 31::j 32::j 33::j 34::j 35::j 36::j 37::j 38::j 39::j 40::j 41::j 42::j 43::j 44::j 45::j 46::j 47::j 48::[])) ?_ ?_ _ _ ?_
 rotate_left 2
 ·refine ⟨⟨n0,fun b hb hbq=>?_,r0,by simp only [List.length_cons] at hroom;omega,f0,.nilslc,[],f1,rfl,⟨.inl ⟨rfl,rfl⟩,by simp,by simp [u4],trivial,by simp⟩⟩,s9 (by simp)⟩
  rw [s0 b (by omega) hbq,p8 (by simp;omega),p8 (by omega)]
 ·rintro a x r fr hh hll ⟨⟨i1,i2,i3,i4,i5,s1,rs1,i6,i7,i8⟩,j,rfl⟩
  have hxR:=hR.c x (by rw [hll];simp)
  obtain ⟨xn,xl⟩:=x
  obtain ⟨x1,x2,x3,x4⟩:=hxR
  simp only at x1 x2 x3 x4
  have hrn:r.length < 255:=by have:=hR.n;rw [hll] at this;simp at this;omega
  obtain ⟨V,hV⟩:∃ V,ls xl = V:=⟨_,rfl⟩
  rw [hV] at x2 x3 x4
  obtain ⟨M,hM⟩:∃ M,r.flatMap b0n++rest = M:=⟨_,rfl⟩
  have hbytes:((⟨xn,xl⟩:Column)::r).flatMap b0n++rest = D5 xn++(u8 V.length::(V.flatMap a0t++M)):=by rw [← hM,← hV];simp [b0n]
  rw [hbytes] at i3 i4
  rw [hM]
  have hx16:xn.length ≤ 16:=by have:=x1;simp only [J4,Bool.and_eq_true,decide_eq_true_eq] at this;omega
  obtain ⟨g1,e1,n1,r1,t1⟩:=U5 (i0B 16 (by omega)) (h:=hh) (q:=q) (by omega) i3 i4 (a0K hx16 (by omega) _)
  have hroom1:(u8 V.length::(V.flatMap a0t++M)).length ≤ 1099511627776:=by rw [List.length_append] at i4;omega
  obtain ⟨g2,e2,n2,r2,t2⟩:=U5 d0R (h:=g1.new ⟨0,[2],true,[.str xn,.nilslc]⟩) (q:=q) (by simp;omega) (by rw [p8 (by omega)];exact r1) hroom1 (Y9 _ _)
  rw [c0f (by omega)] at e2
  simp only [A0] at n2 t2
  have hroom2:(V.flatMap a0t++M).length ≤ 1099511627776:=by simp only [List.length_cons] at hroom1;omega
  have fc:g2.f g1.next = some ⟨0,[2],true,[.str xn,.nilslc]⟩:=by rw [t2 _ (by omega) (by omega)];simp
  have hd1:decide ((0:Int) < (r.length:Int) + 1) = true:=by rw [decide_eq_true_eq];omega
  have hd2:(0:Int) < (r.length:Int) + 1:=by omega
  have e1':W K 164 [.one (.ptr q 0 0),.one (.int .i64 16)] hh = some (.ret (.one (bs (some xn))) g1):=e1
  first | (refine hide ?_;intro Q2 hQ2) | have hQ2:=True.intro
  repeat' (first
   | (replace hQ2:=hQ2;simp [hd2,e1',e2,a0E])
   | (refine hQ2 _ _ _ ?_;clear hQ2 Q2;first | simp only [] | simp [hd1,hd2,e1',e2,a0E] | skip)
   | (refine D3 (by assumption) ?_;(try clear hQ2);first | simp only [] | simp [hd1,hd2,e1',e2,a0E] | skip)
   | ((fail_if_success replace hQ2:=hQ2);(first | refine hide ?_ | refine u6 ?_ | refine u7 ?_);intro Q2 hQ2))
  refine F5 hp V (fun a2 y2 fr h2=>(g2.next ≤ h2.next∧(∀ b,b < g2.next→b ≠ q→b ≠ g1.next→h2.f b = g2.f b)∧h2.f q = some (rdB (some (y2.flatMap a0t++M)))∧(y2.flatMap a0t++M).length ≤ 1099511627776∧∃ s2,h2.f g1.next = some ⟨0,[2],true,[.str xn,s2]⟩∧Sl h2 4 c9 s2 (a2.map Z7)∧(s2 = .nilslc ↔ a2 = [])∧∀ b,u4 s2 = some b→g2.next ≤ b)∧∃ j:Nat→AV,fr = ((.one (.ptr q 0 0))::j 1::(.one (.ptr h.next 0 0))::(.one (.ptr (h.next + 1) 0 0))::(.one (.int .u8 ((r.length:Int) + 1)))::(.one (.ptr g1.next 0 0))::(.one (.int .u8 y2.length))::j 7::j 8::j 9::j 10::j 11::j 12::j 13::j 14::j 15::j 16::j 17::j 18::j 19::j 20::j 21::j 22::j 23::j 24::j 25::j 26::j 27::j 28::j 29::j 30::j 31::j 32::j 33::j 34::j 35::j 36::j 37::j 38::j 39::j 40::j 41::j 42::j 43::j 44::j 45::j 46::j 47::j 48::[])) ?_ ?_ _ _ ?_
  rotate_left 2
  ·exact ⟨⟨Nat.le_refl _,fun _ _ _ _=>rfl,r2,hroom2,.nilslc,fc,.inl ⟨rfl,rfl⟩,by simp,by simp [u4]⟩,s9 (by simp)⟩
  ·rintro a2 y y2 fr h2 hl2 ⟨⟨j1,j2,j3,j4,s2,j5,j6,j7,j8⟩,j',rfl⟩
   have hyR:=x4 y (by rw [hl2];simp)
   have hyn:y2.length < 255:=by rw [hl2] at x2;simp at x2;omega
   obtain ⟨yt,⟨yk,yb,yn⟩⟩:=y
   obtain ⟨y_t,y_v,y_c,y_n⟩:=hyR
   simp only at y_t y_v y_c y_n
   obtain ⟨N,hN⟩:∃ N,y2.flatMap a0t++M = N:=⟨_,rfl⟩
   have hbytes2:((⟨yt,⟨yk,yb,yn⟩⟩:Version)::y2).flatMap a0t++M = b0m yt++(a0v ⟨yk,yb,yn⟩++N):=by rw [← hN];simp [a0t]
   rw [hbytes2] at j3 j4
   rw [hN]
   have h64:u64 yt < 256 ^ 8:=by unfold u64;omega
   obtain ⟨m1,eL,v1,w1,z1⟩:=U5 w0Z (h:=h2) (q:=q) (by omega) j3 j4 (h0z h64 _)
   have hrm1:(a0v ⟨yk,yb,yn⟩++N).length ≤ 1099511627776:=by rw [List.length_append] at j4;omega
   obtain ⟨m3,eG,v3,w3,z3⟩:=U5 F0B (h:=m1.new ⟨0,[4],true,[ii yt,ii 0,.nilslc,.flt 0]⟩) (q:=q) (by simp;omega) (by rw [p8 (by omega)];exact w1) hrm1 (u0S y_v y_c y_n _)
   simp only [A0] at v3 z3
   have hrm3:N.length ≤ 1099511627776:=by rw [List.length_append] at hrm1;omega
   have hT:=w0P y_t
   obtain ⟨⟨wk,wb,wn⟩,hw⟩:∃ w,m0N ⟨yk,yb,yn⟩ = w:=⟨_,rfl⟩
   rw [hw] at eG
   have hve:c9 (Z7 ⟨yt,⟨yk,yb,yn⟩⟩) = [ii yt,ii wk,bs wb,.flt wn]:=by simp only [Z7,hw,c9]
   have fd:m3.f m1.next = some ⟨0,[4],true,[ii yt,ii 0,.nilslc,.flt 0]⟩:=by rw [z3 _ (by omega) (by omega)];simp
   have fc2:m3.f g1.next = some ⟨0,[2],true,[.str xn,s2]⟩:=by rw [z3 _ (by omega) (by omega),p8 (by omega),z1 _ (by omega) (by omega)];exact j5
   have hs2q:∀ b,u4 s2 = some b→b < h2.next∧b ≠ q∧b ≠ m1.next:=fun b hb=>by have:=j6.lt hb;have:=j8 b hb;omega
   have j6':Sl ((m3.set m1.next ⟨0,[4],true,[ii yt,ii wk,bs wb,.flt wn]⟩).new ⟨0,[4],true,c9 (Z7 ⟨yt,⟨yk,yb,yn⟩⟩)⟩) 4 c9 s2 (a2.map Z7):=j6.keep (by simp;omega) fun b hb=>by
    obtain ⟨k1,k2,k3⟩:=hs2q b hb
    rw [p8 (by simp;omega),p4,if_neg k3,z3 b (by omega) k2,p8 (by omega),z1 b k1 k2]
   have ha2:a2.length ≤ 2:=by rw [hl2] at x2;simp at x2;omega
   obtain ⟨s3,h3,e3,⟨b3,v3',z3',hs3,ar3⟩,k1,k2,k3⟩:=P0 (P:=Tryz.prog) (t:=89) Tryz.underlying89 (by simp) (by simp) Tryz.bytes93 (by omega) C9 (a:=.slc m3.next 0 0 1 4 none) (m:=[Z7 ⟨yt,⟨yk,yb,yn⟩⟩]) j6' rfl (by simp [C3,cat,hve,sub]) (by simp) (by simp only [List.length_map,List.length_cons,List.length_nil,Nat.zero_add,L4];omega)
   simp only [A0,c0j] at k1 k2 k3
   rw [hve] at e3 k2
   have hs2c:u4 s2 ≠ some g1.next:=fun e=>by have:=j8 _ e;omega
   have f3c:h3.f g1.next = some ⟨0,[2],true,[.str xn,s2]⟩:=by rw [k2 _ (by omega) hs2c,p8 (by simp;omega),p4,if_neg (by omega)];exact fc2
   have hmap:(a2++[(⟨yt,⟨yk,yb,yn⟩⟩:Version)]).map Z7 = a2.map Z7++[Z7 ⟨yt,⟨yk,yb,yn⟩⟩]:=by simp
   have hA0:(a2++[(⟨yt,⟨yk,yb,yn⟩⟩:Version)]) ≠ []:=by simp
   generalize hA3:(a2++[(⟨yt,⟨yk,yb,yn⟩⟩:Version)]) = A3 at *
   have hd3:decide ((0:Int) < (y2.length:Int) + 1) = true:=by rw [decide_eq_true_eq];omega
   have hd4:(0:Int) < (y2.length:Int) + 1:=by omega
   have hdec:IntKind.u8.wrap (y2.length:Int) = y2.length:=j0A (by omega) (by omega)
   have hn1:¬ g1.next = m1.next:=by omega
   have hn2:¬ g1.next = m3.next:=by omega
   have hn3:¬ m1.next = m3.next:=by omega
   simp only [W0] at eG
   first | (refine hide ?_;intro Q3 hQ3) | have hQ3:=True.intro
   repeat' (first
    | (replace hQ3:=hQ3;simp [hd4,eL,eG,hT,A6,fd,fc2,e3,f3c,hdec,hn1])
    | (refine hQ3 _ _ _ ?_;clear hQ3 Q3;first | simp only [] | simp [hd3,hd4,eL,eG,hT,A6,fd,fc2,e3,f3c,hdec,hn1,hn2,hn3] | skip)
    | (refine D3 (by assumption) ?_;(try clear hQ3);first | simp only [] | simp [hd3,hd4,eL,eG,hT,A6,fd,fc2,e3,f3c,hdec,hn1,hn2,hn3] | skip)
    | ((fail_if_success replace hQ3:=hQ3);(first | refine hide ?_ | refine u6 ?_ | refine u7 ?_);intro Q3 hQ3))
   refine ⟨⟨by simp;omega,fun b hb hbq hbc=>?_, ?_,hrm3,s3,by simp,.inr ⟨b3,v3',z3',by rw [hs3,hmap], ?_⟩, ?_,fun b hb=>?_⟩,s9 (by simp)⟩
   ·rw [p4,if_neg hbc,k2 b (by omega) (fun e=>by have:=j8 b e;omega),p8 (by simp;omega),p4,if_neg (by omega),z3 b (by omega) hbq,p8 (by omega),z1 b (by omega) hbq];exact j2 b hb hbq hbc
   ·rw [p4,if_neg (by omega),k2 q (by omega) (fun e=>(hs2q q e).2.1 rfl),p8 (by simp;omega),p4,if_neg (by omega)];exact w3
   ·rw [hmap]
    refine ar3.keep (by simp) ?_
    rw [p4,if_neg]
    rintro rfl
    rcases k3 _ (by rw [hs3];rfl) with e | e
    ·exact hs2c e
    ·omega
   ·rw [hs3];simp [hA0]
   ·rcases k3 b hb with e | e
    ·exact j8 b e
    ·omega
  ·rintro fr h2 ⟨⟨j1,j2,j3,j4,s2,j5,j6,j7,j8⟩,j',rfl⟩
   have hfr:∀ b,b < hh.next→b ≠ q→h2.f b = hh.f b:=fun b hb hbq=>by rw [j2 b (by omega) hbq (by omega),t2 b (by omega) hbq,p8 (by omega),t1 b hb hbq]
   have f42:h2.f (h.next + 1) = some ⟨0,[1],true,[s1]⟩:=by rw [hfr _ (by omega) (by omega)];exact i6
   have hVn:nz (V.map Z7) = some (V.map Z7):=f0l (by simpa using x3)
   have hcol:ColAt h2 hh.next (xn,s2) (Z6 ⟨xn,xl⟩):=⟨rfl,by simp only [Z6,b0G,hV];exact j6,by simp only [Z6,hV];rw [hVn,j7];simp [x3],fun b hb=>⟨by have:=j8 b hb;omega,j6.lt hb⟩⟩
   have hal:a.length ≤ 4:=by have:=hR.n;rw [hll] at this;simp at this;omega
   have hnq:∀ b,u4 s1 = some b ∨ b ∈ a0f rs1→b ≠ q:=fun b hx=>by
    rcases hx with e | e
    ·have:=(i8.own _ e).1;omega
    ·have:=(i8.col.lt _ e).1;omega
   obtain ⟨s4,h4,e4,w4,k1,k2,k3⟩:=i8.push (P:=Tryz.prog) (t:=79) Tryz.underlying79 (by simp) (by simp) Tryz.bytes91 (by omega) (by omega) (fun b hb hx=>hfr b hb (hnq b hx)) hcol (by simp only [L4];omega)
   have hs1:u4 s1 ≠ some (h.next + 1):=fun e=>by have:=(i8.own _ e).1;omega
   have hs1q:u4 s1 ≠ some q:=fun e=>hnq q (.inl e) rfl
   have hs10:u4 s1 ≠ some h.next:=fun e=>by have:=(i8.own _ e).1;omega
   have f43:h4.f (h.next + 1) = some ⟨0,[1],true,[s1]⟩:=by rw [k2 _ (by omega) hs1,p8 (by omega)];exact f42
   have hmap:nz ((a++[(⟨xn,xl⟩:Column)]).map Z6) = some (ls (nz (a.map Z6))++[Z6 ⟨xn,xl⟩]):=by simp [f0l]
   have hlo4:∀ b,u4 s4 = some b→b ≠ h.next + 1:=by
    rintro b hb rfl
    rcases k3 _ hb with e | e
    ·exact hs1 e
    ·omega
   have hA2l:(a++[(⟨xn,xl⟩:Column)]).length = a.length + 1:=by simp
   generalize hA2:a++[(⟨xn,xl⟩:Column)] = A2 at *
   have hdec:IntKind.u8.wrap (r.length:Int) = r.length:=j0A (by omega) (by omega)
   simp only [List.flatMap_nil,List.nil_append] at j3 j4
   first | (refine hide ?_;intro Q4 hQ4) | have hQ4:=True.intro
   repeat' (first
    | (replace hQ4:=hQ4;simp [f42,j5,e4,f43])
    | (refine hQ4 _ _ _ ?_;clear hQ4 Q4;first | simp only [] | simp [hdec] | skip)
    | (refine D3 (by assumption) ?_;(try clear hQ4);first | simp only [] | simp [f42,j5,e4,f43,hdec] | skip)
    | ((fail_if_success replace hQ4:=hQ4);(first | refine hide ?_ | refine u6 ?_ | refine u7 ?_);intro Q4 hQ4))
   refine ⟨⟨by simp;omega,fun b hb hbq=>?_, ?_,j4, ?_,s4,rs1++[(xn,s2)],by simp, ?_, ?_⟩,s9 (by simp)⟩
   ·rw [p4,if_neg (by omega),k2 b (by omega) (fun e=>by have:=(i8.own b e).1;omega),p8 (by omega),hfr b (by omega) hbq];exact i2 b hb hbq
   ·rw [p4,if_neg (by omega),k2 q (by omega) hs1q,p8 (by omega)];exact j3
   ·rw [p4,if_neg (by omega),k2 _ (by omega) hs10,p8 (by omega),hfr _ (by omega) (by omega)];exact i5
   ·simp [i7,hA2l]
   ·rw [hmap]
    refine w4.keep (by simp) fun b hb hx=>?_
    rw [p4,if_neg]
    rintro rfl
    rcases hx with e | e
    ·exact hlo4 _ e rfl
    ·have:=(w4.col.lt _ e).1;omega
 ·rintro fr hh ⟨⟨i1,i2,i3,i4,i5,s1,rs1,i6,i7,i8⟩,j,rfl⟩
  have hB:S1 (nz ((ls R).map Z6)) = true:=by have:=o0x R;rw [hR.ok] at this;exact this
  have hr:=w0m (Rw.RowAt.sees i8) (by have:=hR.n;simp only [b0G,List.length_map];omega)
  rw [hB] at hr
  have hne1:¬ h.next = h.next + 1:=by omega
  have i8':RowAt (hh.set h.next ⟨0,[1],true,[s1]⟩) (h.next + 1 + 1) s1 rs1 (nz ((ls R).map Z6)):=i8.keep (by simp) fun b hb hx=>by
   rw [p4,if_neg]
   rintro rfl
   rcases hx with e | e
   ·have:=(i8.own _ e).1;omega
   ·have:=(i8.col.lt _ e).1;omega
  first | (refine hide ?_;intro Q5 hQ5) | have hQ5:=True.intro
  repeat' (first
   | (replace hQ5:=hQ5;simp [i5,i6,hr])
   | (refine hQ5 _ _ _ ?_;clear hQ5 Q5;first | simp only [] | simp [i5,i6,hr,hne1] | skip)
   | (refine D3 (by assumption) ?_;(try clear hQ5);first | simp only [] | simp [i5] | skip)
   | ((fail_if_success replace hQ5:=hQ5);(first | refine hide ?_ | refine u6 ?_ | refine u7 ?_);intro Q5 hQ5))
  rw [hP]
  simp only [List.flatMap_nil,List.nil_append] at i3
  exact z0o i8' (by omega) (by simp;omega) hq hf (by rw [p4,if_neg hqn];exact i3) (fun b hb hbq=>by rw [p4,if_neg (by omega)];exact i2 b hb hbq)
theorem r0A {s:Int} (h:0 ≤ s∧s ≤ 1073741824):((u32 s:Nat):Int) = s:=by unfold u32;omega
def m0o (l:BL):Option (Span × BL):=(k0b 16 l).bind fun x=>(k0b 16 x.2).bind fun y=>if J5 ⟨x.1,y.1⟩ then some (⟨x.1,y.1⟩,y.2) else none
theorem p0n:f0U K rT 150 [] m0o (fun s=>.agg (I9 s)):=by
 have hsr:=W9
 have hfl:=k0E
 intro h q o w
 have hk:=True.intro
 refine J6 hp rfl rfl rfl Tryz.func150 rfl (by simp [Tryz.f150]) ?_
 simp only [Tryz.f150]
 refine hide ?_;intro Q1 hQ1
 repeat' (first
  | (replace hQ1:=hQ1;simp [hfl,hk])
  | refine hQ1 _ _ _ ?_
  | ((with_reducible refine O1 ?_);first
   | (refine c0g (i0B 16 (by omega)) (by first | assumption | exact RS.new (by assumption) _ | exact RS.set0 (by assumption) (by omega) _ | exact RS.set0 (RS.new (by assumption) _) (by omega) _ | exact RS.new (RS.new (by assumption) _) _ | exact RS.new (RS.set0 (by assumption) (by omega) _) _ | exact RS.set0 (RS.swap (by assumption)) (by omega) _ | exact RS.set0 (RS.swap (RS.set0 (by assumption) (by omega) _)) (by omega) _ | exact RS.set0 (RS.new (RS.new (by assumption) _) _) (by omega) _) (fun v l h' hpe ws' hk=>?_) (fun hpe h' o' ws'=>?_) <;> (have hnx:=ws'.next) <;> (try simp only [I6] at hpe) <;> (try simp only [g0G,H9,c0S,f0x,and_true] at hk) <;> (try simp [a0E,hsr,hk])))
  | (first | apply cF | apply wN | apply wS) <;> intro hcnd <;> (try simp only [hcnd]) <;> (try simp [-List.isEmpty_iff,-List.isEmpty_eq_false_iff] at hcnd))
 all_goals first | exact h0H (by simp [m0o, *]) (by first | assumption | exact RS.new (by assumption) _ | exact RS.set0 (by assumption) (by omega) _ | exact RS.set0 (RS.new (by assumption) _) (by omega) _ | exact RS.new (RS.new (by assumption) _) _ | exact RS.new (RS.set0 (by assumption) (by omega) _) _ | exact RS.set0 (RS.swap (by assumption)) (by omega) _ | exact RS.set0 (RS.swap (RS.set0 (by assumption) (by omega) _)) (by omega) _ | exact RS.set0 (RS.new (RS.new (by assumption) _) _) (by omega) _) | (refine x0d (by first | assumption | exact RS.new (by assumption) _ | exact RS.set0 (by assumption) (by omega) _ | exact RS.set0 (RS.new (by assumption) _) (by omega) _ | exact RS.new (RS.new (by assumption) _) _ | exact RS.new (RS.set0 (by assumption) (by omega) _) _ | exact RS.set0 (RS.swap (by assumption)) (by omega) _ | exact RS.set0 (RS.swap (RS.set0 (by assumption) (by omega) _)) (by omega) _ | exact RS.set0 (RS.new (RS.new (by assumption) _) _) (by omega) _) (by simp [m0o, *];first | exact ⟨rfl,rfl⟩ | rfl) ?_;first | rfl | simp [m0o, *])
theorem t0i {s:Span} (ok:J5 s = true) (l:BL):m0o (J9 s++l) = some (s,l):=by
 obtain ⟨lo,hi⟩:=s
 have h:=ok
 simp only [J5,Bool.and_eq_true,decide_eq_true_eq] at h
 simp only [J9,List.append_assoc,m0o]
 rw [a0K h.1.1 (by omega)]
 simp only [oqS]
 rw [a0K h.1.2 (by omega)]
 simp [ok]
theorem x0F (a:BL):blt a a = false:=Y5 a
theorem v0b {l:List Named} (ok:TblOk l) {k:Nat} (hk:k < l.length):tix l l[k].name = k:=by
 have h1:=n0x ok.srt l[k].name k hk
 rw [d0E,x0F] at h1
 have h3:¬ k < tix l l[k].name:=fun e=>by have:=h1.1 e;cases this
 rcases Nat.eq_zero_or_pos k with h0 | h0
 ·omega
 ·have h2:=n0x ok.srt l[k].name (k - 1) (by omega)
  rw [d0E] at h2
  have:=h2.2 ((T6 b0e).1 ok.srt (k - 1) k (by omega) hk)
  omega
theorem y0S (l:List Named):tix l [] = 0:=by
 unfold tix
 cases l with
 | nil=>rfl
 | cons a l =>
  have:blt a.name [] = false:=by cases a.name <;> rfl
  simp [this]
theorem F0A {h:H} {p:Nat} {l:List Named} {q:Option Nat} (w:Bx h p 2 c8 l q) (ok:TblOk l):W K 43 [.one (.ptr p 0 0),.one (.str []),.one (.str [])] h = some (.ret (.one (sl 2 c8 (nz l))) h):=by
 have hlen:=ok.len
 have key:∃ r,W K 43 [.one (.ptr p 0 0),.one (.str []),.one (.str [])] h = some r∧r = .ret (.one (sl 2 c8 (nz l))) h:=by
  refine O4 hp rfl rfl rfl rfl Tryz.func43 rfl (by simp [Tryz.f43]) ?_
  simp only [Tryz.f43]
  refine hide ?_;intro Q1 hQ1
  repeat' (first
   | (replace hQ1:=hQ1;simp)
   | refine hQ1 _ _ _ ?_)
  refine a0X hp (fun n fr hh=>Kept h hh∧∃ i lo s1,tix l lo = i∧i ≤ l.length∧n = l.length - i∧Sl hh 2 c8 s1 (l.take i)∧(s1 = .nilslc ∨ l.take i ≠ [])∧(∀ b,u4 s1 = some b→h.next ≤ b)∧∃ j:Nat→AV,fr = ((.one (.ptr p 0 0))::(.one (.str lo))::(.one (.str []))::j 3::j 4::j 5::j 6::(.one s1)::j 8::j 9::j 10::j 11::j 12::j 13::j 14::j 15::j 16::j 17::j 18::j 19::j 20::j 21::j 22::j 23::[])) ?_ l.length _ _ ?_
  rotate_left
  ·exact ⟨a0V h,0,[],.nilslc,y0S l,by omega,rfl,.inl ⟨rfl,by simp⟩,.inl rfl,by simp [u4],s9 (by simp)⟩
  ·rintro n fr hh ⟨kk,i,lo,s1,i1,i2,i3,i4,i5,i6,j,rfl⟩
   have hn:=kk.1
   have wB:Bx hh p 2 c8 l q:=w.keep hn (kk.2 p w.1) fun b hb=>kk.2 b (w.lt hb)
   have hr:=o0a wB ok lo [] 16
   obtain ⟨rg,hrg⟩:∃ rg,Y1 l lo [] 16 = rg:=⟨_,rfl⟩
   rw [hrg] at hr
   unfold Y1 at hrg
   simp only [i1,if_true] at hrg
   have hm:((max 0 (min (16:Int) 16)).toNat) = 16:=by decide
   rw [hm] at hrg
   by_cases hi:l.length ≤ i
   ·rw [if_pos hi] at hrg
    subst hrg
    simp only [q0u] at hr
    have hil:i = l.length:=by omega
    subst hil
    rw [List.take_length] at i4 i5
    have hap:U7 Tryz.prog 48 48 hh s1 .nilslc = some (s1,hh):=by
     rw [X0 (size:=2) (el:=83) (x:=.nilslc) (m:=0) (new:=[]) (u:=48) (by simp) (by simp) Tryz.bytes83 Tryz.underlying48 rfl rfl]
     rcases i4 with ⟨rfl,_⟩ | ⟨bb,vv,zz,rfl,_⟩ <;> simp [K9]
    have hsn:sl 2 c8 none = .nilslc:=rfl
    rw [hsn] at hr
    have hr':W K 83 [.one (.ptr p 0 0),.one (.str lo),.one (.str []),.one (.int .i64 16)] hh = some (.ret (.tup [(false,[.nilslc]),(false,[.str []])]) hh):=hr
    first | (refine hide ?_;intro Q2 hQ2) | have hQ2:=True.intro
    repeat' (first
     | (replace hQ2:=hQ2;simp [L8,hr',hap])
     | (refine hQ2 _ _ _ ?_;clear hQ2 Q2;first | simp only [] | simp [L8,hr',hap] | skip)
     | (refine D3 (by assumption) ?_;(try clear hQ2);first | simp only [] | simp [L8] | skip)
     | ((fail_if_success replace hQ2:=hQ2);(first | refine hide ?_ | refine u6 ?_ | refine u7 ?_);intro Q2 hQ2))
    exact m0z A7 a0J i4 i6 i5 kk rfl
   ·rw [if_neg hi,List.take_length] at hrg
    obtain ⟨D,hD⟩:∃ D,l.drop i = D:=⟨_,rfl⟩
    rw [hD] at hrg
    have hDl:D.length = l.length - i:=by rw [← hD,List.length_drop]
    have hl2:l = l.take i++D:=by rw [← hD,List.take_append_drop]
    have app:∀ m:List Named,m ≠ []→m.length ≤ 32→∃ s2 h2,U7 Tryz.prog 48 48 hh s1 (sl 2 c8 (some m)) = some (s2,h2)∧Sl h2 2 c8 s2 (l.take i++m)∧Kept h h2∧∀ b,u4 s2 = some b→h.next ≤ b:=by
     intro m hm hml
     obtain ⟨s2,h2,e,⟨b,v,z,hs2,ar⟩,k1,k2,k3⟩:=P0 (P:=Tryz.prog) (t:=48) Tryz.underlying48 (by simp) (by simp) Tryz.bytes83 (by omega) A7 (a:=sl 2 c8 (some m)) (m:=m) i4 (by simp [sl,P5]) (k0s A7 (by omega) hh (some m)) hm (by simp only [L4,List.length_take];omega)
     refine ⟨s2,h2,e,.inr ⟨b,v,z,hs2,ar⟩,⟨by omega,fun b hb=>?_⟩,fun b hb=>?_⟩
     ·rw [k2 b (by omega) (fun e=>by have:=i6 b e;omega)];exact kk.2 b hb
     ·rcases k3 b hb with e | e
      ·exact i6 b e
      ·omega
    have hDn:D ≠ []:=fun e=>by rw [e] at hDl;simp at hDl;omega
    by_cases h16:D.length ≤ 16
    ·rw [if_pos h16] at hrg
     subst hrg
     rw [f0l hDn] at hr
     obtain ⟨s2,h2,e2,a1,a2,a3⟩:=app D hDn (by omega)
     rw [← hl2] at a1
     have hr':W K 83 [.one (.ptr p 0 0),.one (.str lo),.one (.str []),.one (.int .i64 16)] hh = some (.ret (.tup [(false,[sl 2 c8 (some D)]),(false,[.str []])]) hh):=hr
     first | (refine hide ?_;intro Q3 hQ3) | have hQ3:=True.intro
     repeat' (first
      | (replace hQ3:=hQ3;simp [L8,hr',e2])
      | (refine hQ3 _ _ _ ?_;clear hQ3 Q3;first | simp only [] | simp [L8,hr',e2] | skip)
      | (refine D3 (by assumption) ?_;(try clear hQ3);first | simp only [] | simp [L8] | skip)
      | ((fail_if_success replace hQ3:=hQ3);(first | refine hide ?_ | refine u6 ?_ | refine u7 ?_);intro Q3 hQ3))
     exact m0z A7 a0J a1 a3 (.inr (fun e=>by rw [e] at hlen hi;simp at hi)) a2 rfl
    ·rw [if_neg h16] at hrg
     have h16':16 < D.length:=by omega
     rw [List.getElem?_eq_getElem h16'] at hrg
     simp only at hrg
     subst hrg
     have hil:i + 16 < l.length:=by omega
     have hxe:D[16] = l[i + 16]:=by simp only [← hD];rw [List.getElem_drop]
     have hD16:D.take 16 ≠ []:=fun e=>by have:=congrArg List.length e;rw [List.length_take,List.length_nil] at this;omega
     rw [f0l hD16,hxe] at hr
     obtain ⟨s2,h2,e2,a1,a2,a3⟩:=app (D.take 16) hD16 (by simp;omega)
     have htk:l.take i++D.take 16 = l.take (i + 16):=by rw [← hD,List.take_add]
     rw [htk] at a1
     have hnx:=v0b ok hil
     have hnn:=ok.nm _ (List.getElem_mem hil)
     obtain ⟨N,hN⟩:∃ N,l[i + 16].name = N:=⟨_,rfl⟩
     rw [hN] at hr hnx hnn
     have hNe:N ≠ []:=fun e=>by rw [e] at hnn;simp [J4] at hnn
     have hNb:(N == []) = false:=by simp [hNe]
     have hr':W K 83 [.one (.ptr p 0 0),.one (.str lo),.one (.str []),.one (.int .i64 16)] hh = some (.ret (.tup [(false,[sl 2 c8 (some (D.take 16))]),(false,[.str N])]) hh):=hr
     generalize sl 2 c8 (some (D.take 16)) = Z at *
     first | (refine hide ?_;intro Q4 hQ4) | have hQ4:=True.intro
     repeat' (first
      | (replace hQ4:=hQ4;simp [L8,hNb,hr',e2])
      | (refine hQ4 _ _ _ ?_;clear hQ4 Q4;first | simp only [] | simp [L8,hNe,hNb,hr',e2] | skip)
      | (refine D3 (by assumption) ?_;(try clear hQ4);first | simp only [] | simp [L8,hNe,hNb,hr',e2] | skip)
      | ((fail_if_success replace hQ4:=hQ4);(first | refine hide ?_ | refine u6 ?_ | refine u7 ?_);intro Q4 hQ4))
     exact ⟨l.length - (i + 16),by omega,a2,i + 16,N,s2,hnx,by omega,rfl,a1,.inr (fun e=>by have:=congrArg List.length e;rw [List.length_take,List.length_nil] at this;omega),a3,s9 (by simp)⟩
 obtain ⟨r,e,rfl⟩:=key
 exact e
abbrev a0u (sp:Span) (gen:Int) (fr:Bool) (pr pc:AS):Blk:=⟨0,[6],true,[.str sp.lo,.str sp.hi,ii gen,.bool fr,pr,pc]⟩
def b0J (sp:Span) (gen:Int) (l:List Named) (c:List Tld):BL:=J9 sp++(O3 gen++(l0P l++l0p c))
theorem Apart.keep {t p:Nat} {tq q q':Option Nat} {h h':H} (a:Apart t tq p q) (o:Only h h' p q q') (ht:t < h.next) (hq:∀ b,tq = some b→b < h.next):Apart t tq p q' where
 tp:=a.tp
 qt:=by
  rcases o.own with e | ⟨y,e,hy⟩
  ·rw [e];exact a.qt
  ·rw [e];intro hc;cases hc;omega
 bp:=a.bp
 qb b hb:=by
  rcases o.own with e | ⟨y,e,hy⟩
  ·rw [e];exact a.qb b hb
  ·rw [e];intro hc;cases hc;have:=hq _ hb;omega
theorem n0y {α:Type} {h h':H} {t p size:Nat} {enc:α→List AS} {l:List α} {tq q q':Option Nat} (b:Bx h t size enc l tq) (a:Apart t tq p q) (o:Only h h' p q q'):Bx h' t size enc l tq :=
 b.keep o.next (o.keep t b.1 a.tp a.qt) fun x hx=>o.keep x (b.lt hx) (fun e=>a.bp (by rw [hx,e])) (a.qb x hx)
theorem A0U {h:H} {p d pr pc:Nat} {q qr qc:Option Nat} {x:BL} {sp:Span} {gen:Int} {fr:Bool} {l:List Named} {c:List Tld} (w:Wr h p q x) (os:J5 sp = true) (hd:h.f d = some (a0u sp gen fr (.ptr pr 0 0) (.ptr pc 0 0))) (hdn:d < h.next) (hdp:d ≠ p) (hdq:q ≠ some d)
  (br:Bx h pr 2 c8 l qr) (bc:Bx h pc 3 J7 c qc) (ok:TblOk l) (okc:CchOk c) (ar:Apart pr qr p q) (ac:Apart pc qc p q) (hl:x.length + (b0J sp gen l c).length ≤ 1099511627776) :
  ∃ h' q',W K 58 [.one (.ptr d 0 0),.one (.ptr p 0 0)] h = some (.ret (.tup []) h')∧Wr h' p q' (x++b0J sp gen l c)∧Only h h' p q q':=by
 obtain ⟨lo,hi⟩:=sp
 have hs:=os
 simp only [J5,Bool.and_eq_true,decide_eq_true_eq] at hs
 simp only [b0J,List.length_append] at hl
 obtain ⟨h1,q1,e1,w1,o1⟩:=t0X lo hi (by omega) (by omega) h p q x w (by omega)
 obtain ⟨h2,q2,e2,w2,o2⟩:=k0f gen h1 p q1 _ w1 (by simp only [List.length_append];omega)
 have o12:=o1.trans o2
 have br2:=n0y br ar o12
 have bc2:=n0y bc ac o12
 have ar2:=ar.keep o12 br.1 fun b hb=>br.lt hb
 have ac2:=ac.keep o12 bc.1 fun b hb=>bc.lt hb
 obtain ⟨h3,q3,e3,w3,o3⟩:=B0g w2 br2 ok ar2 (by simp only [List.length_append];omega)
 have bc3:=n0y bc2 ac2 o3
 have ac3:=ac2.keep o3 bc2.1 fun b hb=>bc2.lt hb
 obtain ⟨h4,q4,e4,w4,o4⟩:=B0J w3 bc3 okc ac3 (by simp only [List.length_append];omega)
 have o13:=o12.trans o3
 have f1:h1.f d = _:=(o1.keep d hdn hdp hdq).trans hd
 have f2:h2.f d = _:=(o12.keep d hdn hdp hdq).trans hd
 have f3:h3.f d = _:=(o13.keep d hdn hdp hdq).trans hd
 refine ⟨h4,q4, ?_,by simpa [b0J,List.append_assoc] using w4,o13.trans o4⟩
 simp only [a0u] at hd f1 f2 f3
 refine A5 hp rfl rfl rfl Tryz.func58 rfl (by simp [Tryz.f58]) ?_
 simp only [Tryz.f58]
 refine hide ?_;intro Q1 hQ1
 repeat' (first
  | (replace hQ1:=hQ1;simp [A6,hd,f1,f2,f3,e1,e2,e3,e4])
  | refine hQ1 _ _ _ ?_)
def u0c (a b:BL):BL:=if Op.bytesLess a b then b else a
def g0r (a b:Span):Bool:=J5 a && (J5 b && (N6 a (u0c a.lo b.lo) && N6 b (u0c a.lo b.lo)))
theorem p0Y (l1 h1 l2 h2:BL) (h:H):W K 61 [.agg [.str l1,.str h1],.agg [.str l2,.str h2]] h = some (.ret (.one (.bool (g0r ⟨l1,h1⟩ ⟨l2,h2⟩))) h):=by
 have r1:=W9 l1 h1
 have r2:=W9 l2 h2
 have m1:=i0m l1 h1 (u0c l1 l2)
 have m2:=i0m l2 h2 (u0c l1 l2)
 have mm:V4 true (.str l1) (.str l2) = some (.str (u0c l1 l2)):=rfl
 have hown:A8 S.own 61 = false:=by kernel_rfl
 refine p5 hp (by simp [p7,-V4,c5,j9]) (c6 rfl rfl (by kernel_rfl) Tryz.func61 rfl (by simp [Tryz.f61]) ?_)
 simp only [Tryz.f61]
 refine hide ?_;intro Q1 hQ1
 repeat' (first
  | (replace hQ1:=hQ1;simp [r1,r2,m1,m2,-V4,mm])
  | (refine hQ1 _ _ _ ?_;clear hQ1 Q1;first | simp only [] | simp [g0r,-V4,t7,p9,p6,c5,p0,hown])
  | (first | apply cF | apply wN | apply wS) <;> intro hcnd <;> (try simp only [hcnd]) <;> (try simp [-List.isEmpty_iff,-List.isEmpty_eq_false_iff] at hcnd))
 all_goals first | done | (simp_all [-List.isEmpty_iff,-List.isEmpty_eq_false_iff];done) | (simp_all;done) | (simp_all;omega) | (simp;omega) | (intros;omega) | (intros;simp only [decide_eq_true_eq] at *;omega) | (intros;simp at *;omega) | skip
end Go.Proofs.YtiagcnfmgigllaaGreat
namespace Wm
open Go Go.Ab
structure TabD where
 span:Span
 gen:Int
 fr:Bool
 rows:List Named
 cache:List Tld
def noA (c:Int):Answer:=⟨c,none,⟨[],[]⟩,0,0,0,0,0,[],none⟩
def f0w (l:List Named) (o:Op):List Named × Int :=
 let r:=(a0e l o.row).1
 if holds r o.cond = false then (l,25) else
 let a:=apply r (ls o.l)
 if a.2 = 0 then i0D l o.row a.1 else (l,a.2)
def hiT (sp:Span) (hi:BL):BL:=if hi ≠ []∧(sp.hi = [] ∨ blt hi sp.hi = true) then hi else sp.hi
def opT (sp:Span) (l:List Named) (o:Op):Answer × List Named :=
 if o.kind = 1 then (if (a0e l o.row).2 = true then ⟨0,some [⟨o.row,(a0e l o.row).1⟩],⟨[],[]⟩,0,0,0,0,0,[],none⟩ else noA 0,l)
 else if o.kind = 2 then (noA (f0w l o).2,(f0w l o).1)
 else
  let r:=Y1 l o.row (hiT sp o.hi) o.most
  (⟨0,nz r.1,⟨o.row,if r.2 = [] then hiT sp o.hi else r.2⟩,0,0,0,0,0,[],none⟩,l)
def a0T (a:Answer):Bool:=(g0Y a.code 255 && (g0Y a.group 255 && (g0Y a.to 255 && g0Y a.do_ 255))) && ((g0Y a.gen 1073741824 && g0Y a.old 1073741824) && (((ls a.rows).all fun x=>J4 x.name && S1 x.r) && (decide ((ls a.rows).length ≤ 16) && (J5 a.span && (decide (a.at_.length ≤ 16) && decide (d0K a.state ≤ 1048576))))))
def b0j (a:Answer):BL:=u8 a.code::u8 (ls a.rows).length::((ls a.rows).flatMap I8++(J9 a.span++(u8 a.group::u8 a.to::u8 a.do_::(O3 a.gen++(O3 a.old++(D5 a.at_++D5 (ls a.state)))))))
def l0g (a:Answer):Answer:=⟨a.code,nz ((ls a.rows).map L9),a.span,a.group,a.gen,a.old,a.to,a.do_,a.at_,some (ls a.state)⟩
def tlt (a b:TabD):Bool:=blt a.span.lo b.span.lo
structure TabOk (t:TabD):Prop where
 sp:J5 t.span = true
 gen:1 ≤ t.gen∧t.gen ≤ 1073741824
 rows:TblOk t.rows
 cache:CchOk t.cache
 inn:∀ x ∈ t.rows,N6 t.span x.name = true
end Wm
