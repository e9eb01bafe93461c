/- A part of a proof over the abstract machine. No conditions. -/
import Derived.Test.YtiagcnfmgigllaaGreatC1
import Derived.Test.YtiagcnfmgigllaaGreatC5s
import Derived.Test.YtiagcnfmgigllaaGreatAb5
import Derived.Test.YtiagcnfmgigllaaGreatT6
import Derived.Test.YtiagcnfmgigllaaGreatT11
set_option linter.all false
namespace Go.Proofs.YtiagcnfmgigllaaGreat
open Go Go.Ab Wm NumPlain Go.Proofs.Tryz
set_option maxRecDepth 10000
set_option maxHeartbeats 4000000
abbrev rT:Nat:=132
theorem v0r (h:H) (l:BL) (n:Nat) (hn:n ≤ l.length):J2 h 1 (bs (some l)) none (some (.one (ii n))) none = some (bs (some (l.take n))):=by
 rw [T6,T6]
 have hq:(l.map C9).length = l.length:=by simp
 simp [J2,P2,sub,hn,Nat.min_eq_left hn]
theorem p0I (h:H) (l:BL) (n:Nat) (hn:n ≤ l.length):J2 h 1 (bs (some l)) (some (.one (ii n))) none none = some (bs (some (l.drop n))):=by
 rw [T6,T6]
 have hq:(l.map C9).length = l.length:=by simp
 simp [J2,P2,sub,hn]
 exact List.take_of_length_le (by simp)
theorem v0s {h:H} {p:Nat} {l:BL} (n:Nat) (hn:n ≤ l.length) (hl:l.length ≤ 1099511627776) (hf:h.f p = some (rdB (some l))):W K 200 [.one (.ptr p 0 0),.one (ii n)] h = some (.ret (.one (bs (some (l.take n)))) (h.set p (rdB (some (l.drop n))))):=by
 have hc:=f0C (some (l.take n)) (by simp;omega)
 have hc':=fun h=>hc.pure hp h
 have h1:=fun h=>v0r h l n hn
 have h2:=fun h=>p0I h l n hn
 have hd:decide ((l.length:Int) < n) = false:=by simp;omega
 have hd2:¬ (l.length:Int) < n:=by omega
 refine A9 hp rfl rfl rfl func200 rfl (by simp [Tryz.f200]) ?_
 simp only [Tryz.f200]
 refine c7 ?_;intro Q1 hQ1
 repeat' (first
  | (replace hQ1:=hQ1;simp [hf,hc',h1,h2,hd2,r0B])
  | refine hQ1 _ _ _ ?_)
theorem w0l {l:BL} {i:Nat} (hi:i < l.length):S6 prog 27 (bs (some l)) i = some (.rp (l.map C9) i):=by
 rw [T6];simp [S6,hi]
theorem A0N (a r:BL) (b:UInt8):sub ((a++b::r).map C9) a.length 1 = some [C9 b]:=by
 simp [sub]
theorem o0X {h:H} {p:Nat} {l:BL} (n:Nat) (hn8:n ≤ 8) (hn:n ≤ l.length) (hl:l.length ≤ 1099511627776) (hf:h.f p = some (rdB (some l))):W K 149 [.one (.ptr p 0 0),.one (ii n)] h = some (.ret (.one (.int .u64 (f0N (l.take n)))) (h.set p (rdB (some (l.drop n))))):=by
 have ht:=v0s n hn hl hf
 have htl:(l.take n).length = n:=by simp;omega
 generalize l.take n = x at *
 refine A9 hp rfl rfl rfl func149 rfl (by simp [Tryz.f149]) ?_
 simp only [Tryz.f149]
 refine c7 ?_;intro Q2 hQ2
 repeat' (first
  | (replace hQ2:=hQ2;simp [ht])
  | refine hQ2 _ _ _ ?_
  | (first | apply cF | apply wN | apply wS) <;> intro hcnd <;> (try simp only [hcnd]) <;> (try simp [-List.isEmpty_iff,-List.isEmpty_eq_false_iff] at hcnd))
 refine D5 hp x (fun a r fr hh=>∃ j,fr = (j 0::j 1::j 2::j 3::j 4::(.one (.int .u64 (f0N a)))::j 6::j 7::j 8::j 9::(.one (bs (some x)))::(.one (ii x.length))::(.one (ii a.length))::j 13::j 14::j 15::j 16::j 17::j 18::j 19::j 20::j 21::j 22::[])∧hh = h.set p (rdB (some (l.drop n)))) ?_ ?_ _ _ (Y3 (by simp) rfl)
 ·rintro a b r fr hh hx ⟨j,rfl,hh2⟩
  subst hx
  have hi:=w0l (l:=a++b::r) (i:=a.length) (by simp)
  have hr:=A0N a r b
  generalize (a++b::r).map C9 = M at hi hr
  have hw:IntKind.i64.wrap ((a.length:Int) + 1) = ((a++[b]).length:Int):=by rw [J9];exact D3 (by simp at htl;omega)
  have hb:b.toNat < 256:=b.toNat_lt
  have ha:f0N a < 72057594037927936:=by
   have h1:=r0u a
   have h2:256 ^ a.length ≤ 256 ^ 7:=Nat.pow_le_pow_right (by omega) (by simp at htl;omega)
   have h3:(256:Nat) ^ 7 = 72057594037927936:=by decide
   omega
  have hs:=w0w ha
  have ho:orI .u64 ((f0N a:Int) * 256) b.toNat = (f0N a:Int) * 256 + b.toNat:=by have:=y0o ha hb;simpa using this
  have hc:IntKind.u64.wrap (b.toNat:Int) = b.toNat:=c0m (by omega) (by omega)
  have hlt:decide ((a.length:Int) < (a++b::r).length) = true:=by simp;omega
  first | (refine c7 ?_;intro Q3 hQ3) | have hQ3:=oqk
  repeat' (first
   | (replace hQ3:=hQ3;simp [-List.length_append,hi,hr,hw,hs,ho,hc,A5,C9])
   | (refine hQ3 _ _ _ ?_;clear hQ3 Q3;first | simp only [] | simp [-List.length_append,hi,hr,hw,hs,ho,hc,A5,C9,h0R] | skip)
   | (refine C5 (by assumption) ?_;(try clear hQ3);first | simp only [] | simp [-List.length_append,hi,hr,hw,hs,ho,hc,A5,C9,h0R] | skip)
   | ((fail_if_success replace hQ3:=hQ3);(first | refine c7 ?_ | refine y5 ?_ | refine y3 ?_);intro Q3 hQ3)
   | (first | apply cF | apply wN | apply wS) <;> intro hcnd <;> (try simp only [hcnd]) <;> (try simp [-List.isEmpty_iff,-List.isEmpty_eq_false_iff] at hcnd))
  all_goals first | omega | exact Y3 (by simp [h0R]) hh2 | trace_state
 ·rintro fr hh ⟨j,rfl,hh2⟩
  first | (refine c7 ?_;intro Q4 hQ4) | have hQ4:=oqk
  repeat' (first
   | (replace hQ4:=hQ4;simp [hh2])
   | (refine hQ4 _ _ _ ?_;clear hQ4 Q4;first | simp only [] | simp [hh2] | skip)
   | (refine C5 (by assumption) ?_;(try clear hQ4);first | simp only [] | simp [hh2] | skip)
   | ((fail_if_success replace hQ4:=hQ4);(first | refine c7 ?_ | refine y5 ?_ | refine y3 ?_);intro Q4 hQ4)
   | (first | apply cF | apply wN | apply wS) <;> intro hcnd <;> (try simp only [hcnd]) <;> (try simp [-List.isEmpty_iff,-List.isEmpty_eq_false_iff] at hcnd))
  all_goals trace_state
theorem j0K (h:H) (q:Nat):W K 96 [.one (.ptr q 0 0)] h = some (.pan (.ifc rT (.ptr q 0 0)) h):=by
 refine A9 hp rfl rfl rfl func96 rfl (by simp [Tryz.f96]) ?_
 simp only [Tryz.f96]
 refine c7 ?_;intro Q5 hQ5
 repeat' (first
  | (replace hQ5:=hQ5;simp)
  | refine hQ5 _ _ _ ?_)
theorem v0y {h:H} {p:Nat} {o:Option BL} (n:Nat) (hn:(ls o).length < n) (hf:h.f p = some (rdB o)):W K 200 [.one (.ptr p 0 0),.one (ii n)] h = some (.pan (.ifc rT (.ptr p 0 0)) h):=by
 have hd:decide (((ls o).length:Int) < n) = true:=by simp;omega
 have hd2:((ls o).length:Int) < n:=by omega
 have hx:=j0K h p
 refine A9 hp rfl rfl rfl func200 rfl (by simp [Tryz.f200]) ?_
 simp only [Tryz.f200]
 refine c7 ?_;intro Q6 hQ6
 repeat' (first
  | (replace hQ6:=hQ6;simp [hf,hd2,hx])
  | refine hQ6 _ _ _ ?_)
theorem n0O {h:H} {p:Nat} {o:Option BL} (n:Nat) (hn:(ls o).length < n) (hf:h.f p = some (rdB o)):W K 149 [.one (.ptr p 0 0),.one (ii n)] h = some (.pan (.ifc rT (.ptr p 0 0)) h):=by
 have ht:=v0y n hn hf
 refine A9 hp rfl rfl rfl func149 rfl (by simp [Tryz.f149]) ?_
 simp only [Tryz.f149]
 refine c7 ?_;intro Q7 hQ7
 repeat' (first
  | (replace hQ7:=hQ7;simp [ht])
  | refine hQ7 _ _ _ ?_)
theorem C0I {α:Type} {o:Option (List α)} {n:Nat} (h:n + 1 ≤ (ls o).length):∃ l,o = some l:=by
 cases o with
 | none=>simp at h
 | some l=>exact ⟨l,rfl⟩
theorem m0D:f0S K rT 95 [] v0Z (fun b=>.one (C9 b)):=by
 intro h q o w
 cases hl:ls o with
 | nil =>
  have hn:W K 149 [.one (.ptr q 0 0),.one (.int .i64 1)] h = _:=n0O (h:=h) (p:=q) (o:=o) 1 (by rw [hl];simp) w.rd
  refine ⟨.pan (.ifc rT (.ptr q 0 0)) h, ?_,g0P rfl w⟩
  refine A9 hp rfl rfl rfl func95 rfl (by simp [Tryz.f95]) ?_
  simp only [Tryz.f95]
  refine c7 ?_;intro Q8 hQ8
  repeat' (first
   | (replace hQ8:=hQ8;simp [hn])
   | refine hQ8 _ _ _ ?_)
 | cons b l =>
  have ho:=w.room
  have hf:=w.rd
  obtain rfl:=O9 (a:=[]) hl
  have hn:W K 149 [.one (.ptr q 0 0),.one (.int .i64 1)] h = some (.ret (.one (.int .u64 b.toNat)) (h.set q (rdB (some l)))):=by
   have:=o0X 1 (by omega) (by simp) ho hf
   simpa [u0k] using this
  have hc:IntKind.u8.wrap (b.toNat:Int) = b.toNat:=n0A (by omega) (by have:=b.toNat_lt;omega)
  refine ⟨.ret (.one (C9 b)) (h.set q (rdB (some l))), ?_,j0z rfl (w.rdset (some l) (by simp at ho ⊢;omega)) rfl⟩
  refine A9 hp rfl rfl rfl func95 rfl (by simp [Tryz.f95]) ?_
  simp only [Tryz.f95]
  refine c7 ?_;intro Q9 hQ9
  repeat' (first
   | (replace hQ9:=hQ9;simp [hn,hc,A5,C9])
   | refine hQ9 _ _ _ ?_)
theorem o0J (k:Nat) (hk:1 ≤ k∧k ≤ 8):f0S K rT 149 [.one (ii k)] (l0l k) (fun n=>.one (.int .u64 n)):=by
 intro h q o w
 unfold l0l
 by_cases hn:k ≤ (ls o).length
 ·obtain ⟨l,rfl⟩:=C0I (n:=k - 1) (o:=o) (by omega)
  rw [if_pos hn]
  exact ⟨_,o0X k hk.2 hn w.room w.rd,j0z rfl (w.rdset (some (l.drop k)) (by have:=w.room;simp at this ⊢;omega)) rfl⟩
 ·rw [if_neg hn]
  exact ⟨_,n0O k (by omega) w.rd,g0P rfl w⟩
theorem v0n:f0S K rT 204 [] (l0l 8) (fun n=>.one (.int .u64 n)):=by
 intro h q o w
 obtain ⟨r,e,hx⟩:=o0J 8 (by omega) h q o w
 refine ⟨r, ?_,hx⟩
 have e':W K 149 [.one (.ptr q 0 0),.one (.int .i64 8)] h = some r:=e
 unfold g0Q at hx
 split at hx
 ·obtain ⟨h',rfl,_⟩:=hx
  refine A9 hp rfl rfl rfl func204 rfl (by simp [Tryz.f204]) ?_
  simp only [Tryz.f204]
  refine c7 ?_;intro Q10 hQ10
  repeat' (first
   | (replace hQ10:=hQ10;simp [e'])
   | refine hQ10 _ _ _ ?_)
 ·obtain ⟨h',o',rfl,_⟩:=hx
  refine A9 hp rfl rfl rfl func204 rfl (by simp [Tryz.f204]) ?_
  simp only [Tryz.f204]
  refine c7 ?_;intro Q11 hQ11
  repeat' (first
   | (replace hQ11:=hQ11;simp [e'])
   | refine hQ11 _ _ _ ?_)
theorem r0f {k n:Nat} {l l':BL} (h:l0l k l = some (n,l')):n < 256 ^ k∧l'.length + k = l.length:=by
 unfold l0l at h
 split at h
 ·simp only [oqI,oqM] at h
  obtain ⟨rfl,rfl⟩:=h
  have:=r0u (l.take k)
  rw [oqo,Nat.min_eq_left (by omega)] at this
  exact ⟨this,by simp;omega⟩
 ·cases h
theorem o0z:f0S K rT 94 [] (l0l 4) (fun n=>.one (.int .u32 n)):=by
 intro h q o w
 obtain ⟨r,e,hx⟩:=o0J 4 (by omega) h q o w
 have e':W K 149 [.one (.ptr q 0 0),.one (.int .i64 4)] h = some r:=e
 unfold g0Q at hx
 split at hx
 ·rename_i n l hpe
  obtain ⟨h',rfl,w'⟩:=hx
  simp only [] at e'
  have hc:IntKind.u32.wrap (n:Int) = n:=g0G (by omega) (by have:=(r0f hpe).1;omega)
  refine ⟨.ret (.one (.int .u32 n)) h', ?_,j0z hpe w' rfl⟩
  refine A9 hp rfl rfl rfl func94 rfl (by simp [Tryz.f94]) ?_
  simp only [Tryz.f94]
  refine c7 ?_;intro Q12 hQ12
  repeat' (first
   | (replace hQ12:=hQ12;simp [e',hc,A5])
   | refine hQ12 _ _ _ ?_)
 ·rename_i hpe
  obtain ⟨h',o',rfl,w'⟩:=hx
  refine ⟨_, ?_,g0P hpe w'⟩
  refine A9 hp rfl rfl rfl func94 rfl (by simp [Tryz.f94]) ?_
  simp only [Tryz.f94]
  refine c7 ?_;intro Q13 hQ13
  repeat' (first
   | (replace hQ13:=hQ13;simp [e'])
   | refine hQ13 _ _ _ ?_)
theorem j0u (most:Nat) (hm:most ≤ 1048576):f0S K rT 164 [.one (ii most)] (j0y most) (fun x=>.one (bs (some x))):=by
 intro h q o w
 unfold j0y
 obtain ⟨r,e,hx⟩:=o0z h q o w
 unfold g0Q at hx
 split at hx
 ·rename_i n l hpe
  obtain ⟨h',rfl,w'⟩:=hx
  simp only [] at e
  simp only [hpe,oqS]
  have hn:=(r0f hpe).1
  have hc:IntKind.i64.wrap (n:Int) = n:=wrap_i64 (by omega) (by omega)
  by_cases h1:1048576 < n ∨ most < n
  ·rw [if_pos h1]
   refine ⟨.pan (.ifc rT (.ptr q 0 0)) h', ?_,g0P rfl w'⟩
   have hx:=j0K h' q
   have hd:(decide (1048576 < n) || decide (most < n)) = true:=by simpa using h1
   rcases h1 with h1 | h1
   ·have hd1:decide (1048576 < n) = true:=by simp;omega
    refine A9 hp rfl rfl rfl func164 rfl (by simp [Tryz.f164]) ?_
    simp only [Tryz.f164]
    refine c7 ?_;intro Q14 hQ14
    repeat' (first
     | (replace hQ14:=hQ14;simp [e,hc,h1,hx,A5])
     | refine hQ14 _ _ _ ?_)
   ·have hd1:decide (most < n) = true:=by simp;omega
    by_cases h2:1048576 < n
    ·refine A9 hp rfl rfl rfl func164 rfl (by simp [Tryz.f164]) ?_
     simp only [Tryz.f164]
     refine c7 ?_;intro Q15 hQ15
     repeat' (first
      | (replace hQ15:=hQ15;simp [e,hc,h2,hx,A5])
      | refine hQ15 _ _ _ ?_)
    ·refine A9 hp rfl rfl rfl func164 rfl (by simp [Tryz.f164]) ?_
     simp only [Tryz.f164]
     refine c7 ?_;intro Q16 hQ16
     repeat' (first
      | (replace hQ16:=hQ16;simp [e,hc,h1,h2,hx,A5])
      | refine hQ16 _ _ _ ?_)
  ·rw [if_neg h1]
   have hd1:¬ 1048576 < n:=by omega
   have hd2:¬ most < n:=by omega
   have hd3:decide (1048576 < n) = false:=by simp;omega
   have hd4:decide (most < n) = false:=by simp;omega
   by_cases h2:n ≤ l.length
   ·rw [if_pos h2]
    have ht:=v0s n h2 w'.room w'.rd
    refine ⟨.ret (.one (bs (some (l.take n)))) (h'.set q (rdB (some (l.drop n)))), ?_,j0z rfl (w'.rdset (some (l.drop n)) (by have:=w'.room;simp at this ⊢;omega)) rfl⟩
    refine A9 hp rfl rfl rfl func164 rfl (by simp [Tryz.f164]) ?_
    simp only [Tryz.f164]
    refine c7 ?_;intro Q17 hQ17
    repeat' (first
     | (replace hQ17:=hQ17;simp [e,ht,hc,hd1,hd2,A5])
     | refine hQ17 _ _ _ ?_)
   ·rw [if_neg h2]
    have ht:=v0y (o:=some l) n (by simp;omega) w'.rd
    refine ⟨_, ?_,g0P rfl w'⟩
    refine A9 hp rfl rfl rfl func164 rfl (by simp [Tryz.f164]) ?_
    simp only [Tryz.f164]
    refine c7 ?_;intro Q18 hQ18
    repeat' (first
     | (replace hQ18:=hQ18;simp [e,ht,hc,hd1,hd2,A5])
     | refine hQ18 _ _ _ ?_)
 ·rename_i hpe
  obtain ⟨h',o',rfl,w'⟩:=hx
  simp only [hpe,Option.bind_none]
  refine ⟨_, ?_,g0P rfl w'⟩
  refine A9 hp rfl rfl rfl func164 rfl (by simp [Tryz.f164]) ?_
  simp only [Tryz.f164]
  refine c7 ?_;intro Q19 hQ19
  repeat' (first
   | (replace hQ19:=hQ19;simp [e])
   | refine hQ19 _ _ _ ?_)
end Go.Proofs.YtiagcnfmgigllaaGreat
namespace Wm
open Go Go.Ab
def a0s (v:Value):Value:=if v.kind = 1 then ⟨1,some (ls v.b),0⟩ else v
def H3 (x:Version):Version:=⟨x.time,a0s x.v⟩
def F5 (c:Column):Column:=⟨c.name,nz ((ls c.l).map H3)⟩
def J0 (o:Row):Row:=nz ((ls o).map F5)
def h0U (l:BL):Option (Nat × BL):=(l0l 8 l).bind fun x=>if b0n x.1 = x.1 then some (b0n x.1,x.2) else none
def t0z (l:BL):Option (Value × BL):=(v0Z l).bind fun x =>
 if (x.1.toNat:Int) = 1 then (j0y 16 x.2).bind fun y=>some (⟨x.1.toNat,some y.1,0⟩,y.2) else
 if (x.1.toNat:Int) = 2 then (h0U x.2).bind fun y=>some (⟨x.1.toNat,none,y.1⟩,y.2) else none
theorem w0I {v:Value} (ok:Q0 v = true) (hc:J4 v = v) (hn:v.kind = 2→v.n < 256 ^ 8) (l:BL):t0z (a0r v++l) = some (a0s v,l):=by
 obtain ⟨k,b,n⟩:=v
 by_cases h1:k = 1
 ·subst h1
  have hb:(ls b).length ≤ 16:=by
   have h:d0E b ≤ 16:=by simpa [Q0] using ok
   cases b with
   | none=>simp
   | some l=>simpa [d0E] using h
  simp only [a0r,if_true,a0s,oqm,t0z,c0i,oqS]
  rw [if_pos (by decide),b0k hb (by omega)]
  rfl
 ·by_cases h2:k = 2
  ·subst h2
   simp only [J4,Int.reduceEq,if_true,if_false,Value.mk.injEq,true_and] at hc
   obtain ⟨rfl,hc⟩:=hc
   simp only [a0r,Int.reduceEq,if_true,if_false,a0s,oqm,t0z,c0i,oqS]
   rw [if_neg (by decide),if_pos (by decide),hc,h0U,d0u (hn rfl)]
   simp [hc]
  ·exfalso
   simp [Q0,h1,h2] at ok
theorem s0S (v:Value):Q0 (a0s v) = Q0 v:=by
 unfold a0s
 split
 ·rename_i h
  obtain ⟨k,b,n⟩:=v
  simp only at h
  subst h
  cases b
  ·simp [Q0,d0E]
  ·simp [Q0,d0E];rfl
 ·rfl
theorem w0u (x:Version):a0Y (H3 x) = a0Y x:=by
 simp only [a0Y,H3,s0S];rfl
theorem w0Q (c:Column):a0t (F5 c) = a0t c:=by
 simp only [a0t,F5,a0d,oqi,List.all_map]
 rw [b0h (r:=c0v) (s:=c0v) (f:=H3) (fun a b=>rfl)]
 have:(a0Y ∘ H3) = a0Y:=funext fun x=>w0u x
 rw [this]
theorem d0R (o:Row):P3 (J0 o) = P3 o:=by
 simp only [P3,J0,a0d,oqi,List.all_map]
 rw [b0h (r:=d0X) (s:=d0X) (f:=F5) (fun a b=>rfl)]
 have:(a0t ∘ F5) = a0t:=funext fun x=>w0Q x
 rw [this]
end Wm
namespace Wm
open Go Go.Ab
def V5 (t:Tld):Tld:=⟨t.client,t.seq,some (ls t.b)⟩
def C8 (x:Named):Named:=⟨x.name,J0 x.r⟩
theorem y0c {a b:List Tld} (ok:CchOk (a++b)):CchOk a:=.of (c0r ok.srt) fun x hx=>ok.ok x (by simp [hx])
theorem s0p {l:List Tld} (ok:CchOk l):CchOk (l.map V5):=.of (by rw [b0h (r:=b0y) (s:=b0y) (f:=V5) (fun a b=>rfl)];exact ok.srt) fun x hx=>by
 obtain ⟨y,hy,rfl⟩:=List.mem_map.1 hx
 exact ok.ok y hy
theorem p0N {a:List Tld} {x:Tld} (h:∀ y ∈ a,y.client < x.client) (hr:b0e x.client x.seq x.b = true):X4 a x.client x.seq x.b = (a++[x],true):=by
 have h1:=l0A h hr
 have h2:(X4 a x.client x.seq x.b).2 = true:=by
  unfold X4 at h1 ⊢
  split at h1
  ·have:=congrArg List.length h1;simp at this
  ·rename_i hc
   rw [if_neg hc]
   split <;> rfl
 exact Prod.ext h1 h2
end Wm
namespace Go.Proofs.YtiagcnfmgigllaaGreat
open Go Go.Ab Wm NumPlain Go.Proofs.Tryz
set_option maxRecDepth 10000
set_option maxHeartbeats 4000000
theorem B0W (n:Nat) (h:H):W K 252 [.one (.int .u64 n)] h = some (.ret (.one (.flt (b0n n))) h):=by
 have h1:=W6 n
 have h2:=f0L n
 simp only [Int.toNat_natCast] at h1
 have hown:A8 S.own 252 = false:=by kernel_rfl
 refine p7 hp (by simp [s7,c5]) (c6 rfl rfl (by kernel_rfl) func252 rfl (by simp [Tryz.f252]) ?_)
 simp only [Tryz.f252]
 refine c7 ?_;intro Q1 hQ1
 repeat' (first
  | (replace hQ1:=hQ1;simp [h1,h2,u6,u5,p9,c5,l5,hown])
  | refine hQ1 _ _ _ ?_)
theorem y0B:f0S K rT 234 [] h0U (fun n=>.one (.flt n)):=by
 have hfl:=j0K
 intro h q o w
 have hk:=oqk
 refine H6 hp rfl rfl rfl func234 rfl (by simp [Tryz.f234]) ?_
 simp only [Tryz.f234]
 refine c7 ?_;intro Q2 hQ2
 repeat' (first
  | (replace hQ2:=hQ2;simp [hfl])
  | refine hQ2 _ _ _ ?_
  | ((with_reducible refine N0 ?_);first
   | (refine c0d (v0n) (by first | assumption | exact RS.new (by assumption) _ | exact RS.set0 (by assumption) (by omega) _ | exact RS.set0 (RS.new (by assumption) _) (by omega) _ | exact RS.new (RS.new (by assumption) _) _ | exact RS.new (RS.set0 (by assumption) (by omega) _) _ | exact RS.set0 (RS.swap (by assumption)) (by omega) _ | exact RS.set0 (RS.swap (RS.set0 (by assumption) (by omega) _)) (by omega) _ | exact RS.set0 (RS.new (RS.new (by assumption) _) _) (by omega) _) (fun v l h' hpe ws' hk=>?_) (fun hpe h' o' ws'=>?_) <;> (have hnx:=ws'.next) <;> (try simp only [H1] at hpe) <;> (try simp only [g0k,F6,c0L,d0Q,and_true] at hk) <;> (try simp [B0W,f0M,l0U])))
  | (first | apply cF | apply wN | apply wS) <;> intro hcnd <;> (try simp only [hcnd]) <;> (try simp [-List.isEmpty_iff,-List.isEmpty_eq_false_iff] at hcnd))
 all_goals (try simp only [Int.natCast_inj] at hcnd)
 all_goals first | exact g0P (by simp [h0U, *]) (by assumption) | exact j0z (v:=b0n _) (by simp [h0U,hpe,hcnd];rfl) (by assumption) rfl | exact j0z (v:=b0n _) (by simp [h0U,hpe,hcnd]) (by assumption) rfl
theorem D0E (v:UInt8) (h:H):A5 prog 5 3 (C9 v) h = some (.val (.one (ii v.toNat)) h):=by
 have hc:IntKind.i64.wrap (v.toNat:Int) = v.toNat:=wrap_i64 (by omega) (by have:=v.toNat_lt;omega)
 simp [A5,C9,hc]
theorem F0E:f0S K rT 205 [] t0z (fun v:Wm.Value=>.agg (V3 v)):=by
 have hfl:=j0K
 intro h q o w
 have hk:=oqk
 refine H6 hp rfl rfl rfl func205 rfl (by simp [Tryz.f205]) ?_
 simp only [Tryz.f205]
 refine c7 ?_;intro Q3 hQ3
 repeat' (first
  | (replace hQ3:=hQ3;simp [hfl])
  | refine hQ3 _ _ _ ?_
  | ((with_reducible refine N0 ?_);first
   | (refine c0d (m0D) (by first | assumption | exact RS.new (by assumption) _ | exact RS.set0 (by assumption) (by omega) _ | exact RS.set0 (RS.new (by assumption) _) (by omega) _ | exact RS.new (RS.new (by assumption) _) _ | exact RS.new (RS.set0 (by assumption) (by omega) _) _ | exact RS.set0 (RS.swap (by assumption)) (by omega) _ | exact RS.set0 (RS.swap (RS.set0 (by assumption) (by omega) _)) (by omega) _ | exact RS.set0 (RS.new (RS.new (by assumption) _) _) (by omega) _) (fun v l h' hpe ws' hk=>?_) (fun hpe h' o' ws'=>?_) <;> (have hnx:=ws'.next) <;> (try simp only [H1] at hpe) <;> (try simp only [g0k,F6,c0L,d0Q,and_true] at hk) <;> (try simp [D0E]))
   | (refine c0d (j0u 16 (by omega)) (by first | assumption | exact RS.new (by assumption) _ | exact RS.set0 (by assumption) (by omega) _ | exact RS.set0 (RS.new (by assumption) _) (by omega) _ | exact RS.new (RS.new (by assumption) _) _ | exact RS.new (RS.set0 (by assumption) (by omega) _) _ | exact RS.set0 (RS.swap (by assumption)) (by omega) _ | exact RS.set0 (RS.swap (RS.set0 (by assumption) (by omega) _)) (by omega) _ | exact RS.set0 (RS.new (RS.new (by assumption) _) _) (by omega) _) (fun v l h' hpe ws' hk=>?_) (fun hpe h' o' ws'=>?_) <;> (have hnx:=ws'.next) <;> (try simp only [H1] at hpe) <;> (try simp only [g0k,F6,c0L,d0Q,and_true] at hk) <;> (try simp [hk]))
   | (refine c0d (y0B) (by first | assumption | exact RS.new (by assumption) _ | exact RS.set0 (by assumption) (by omega) _ | exact RS.set0 (RS.new (by assumption) _) (by omega) _ | exact RS.new (RS.new (by assumption) _) _ | exact RS.new (RS.set0 (by assumption) (by omega) _) _ | exact RS.set0 (RS.swap (by assumption)) (by omega) _ | exact RS.set0 (RS.swap (RS.set0 (by assumption) (by omega) _)) (by omega) _ | exact RS.set0 (RS.new (RS.new (by assumption) _) _) (by omega) _) (fun v l h' hpe ws' hk=>?_) (fun hpe h' o' ws'=>?_) <;> (have hnx:=ws'.next) <;> (try simp only [H1] at hpe) <;> (try simp only [g0k,F6,c0L,d0Q,and_true] at hk) <;> (try simp [hk])))
  | (first | apply cF | apply wN | apply wS) <;> intro hcnd <;> (try simp only [hcnd]) <;> (try simp [-List.isEmpty_iff,-List.isEmpty_eq_false_iff] at hcnd))
 all_goals first | exact g0P (by simp [t0z, *]) (by first | assumption | exact RS.new (by assumption) _ | exact RS.set0 (by assumption) (by omega) _ | exact RS.set0 (RS.new (by assumption) _) (by omega) _ | exact RS.new (RS.new (by assumption) _) _ | exact RS.new (RS.set0 (by assumption) (by omega) _) _ | exact RS.set0 (RS.swap (by assumption)) (by omega) _ | exact RS.set0 (RS.swap (RS.set0 (by assumption) (by omega) _)) (by omega) _ | exact RS.set0 (RS.new (RS.new (by assumption) _) _) (by omega) _) | (refine w0j (by first | assumption | exact RS.new (by assumption) _ | exact RS.set0 (by assumption) (by omega) _ | exact RS.set0 (RS.new (by assumption) _) (by omega) _ | exact RS.new (RS.new (by assumption) _) _ | exact RS.new (RS.set0 (by assumption) (by omega) _) _ | exact RS.set0 (RS.swap (by assumption)) (by omega) _ | exact RS.set0 (RS.swap (RS.set0 (by assumption) (by omega) _)) (by omega) _ | exact RS.set0 (RS.new (RS.new (by assumption) _) _) (by omega) _) (by simp [t0z, *];first | exact ⟨rfl,rfl⟩ | rfl) ?_;first | rfl | simp [V3,C4, *])
theorem X5 {α:Type} {f:Nat} {rest:List AV} {P:BL→Option (α × BL)} {enc:α→AV} (hr:f0S K rT f rest P enc) {h:H} {q:Nat} {L l:BL} {v:α} (hq:q < h.next) (hf:h.f q = some (rdB (some L))) (hl:L.length ≤ 1099511627776) (hP:P L = some (v,l)) :
  ∃ h',W K f (.one (.ptr q 0 0)::rest) h = some (.ret (enc v) h')∧h.next ≤ h'.next∧h'.f q = some (rdB (some l))∧∀ b,b < h.next→b ≠ q→h'.f b = h.f b:=by
 obtain ⟨r,e,hx⟩:=hr h q (some L) (RS.start hq hf hl)
 unfold g0Q at hx
 simp only [H1,hP] at hx
 obtain ⟨h',rfl,w⟩:=hx
 exact ⟨h',e,w.next,w.rd,w.same⟩
theorem o0R {n:Nat} (h:n < 256):C9 (u8 (n:Int)) = .int .u8 (n:Int):=by
 unfold C9 u8
 simp
 omega
structure VerRd (x:Version):Prop where
 t:0 ≤ x.time∧x.time ≤ 1099511627776
 v:Q0 x.v = true
 c:J4 x.v = x.v
 n:x.v.kind = 2→x.v.n < 256 ^ 8
structure ColRd (c:Column):Prop where
 nm:I6 c.name = true
 n:(ls c.l).length ≤ 2
 ne:ls c.l ≠ []
 v:∀ x ∈ ls c.l,VerRd x
structure RowRd (o:Row):Prop where
 ok:P3 o = true
 n:(ls o).length ≤ 4
 c:∀ x ∈ ls o,ColRd x
theorem u0h {t:Int} (h:0 ≤ t∧t ≤ 1099511627776):IntKind.i64.wrap ((u64 t:Nat):Int) = t:=by
 have:((u64 t:Nat):Int) = t:=by unfold u64;omega
 rw [this,wrap_i64 (by omega) (by omega)]
theorem c0A (o:Option BL) (h:H):A5 prog 27 9 (bs o) h = some (.val (.one (.str (ls o))) h):=by
 have he:=p0k h o
 have hl:=y0h o
 have:∀ s,bs o ≠ .str s:=by cases o <;> simp [C4,T6]
 simp only [A5]
 cases hbs:bs o <;> simp_all [R9,f0i]
theorem z0L {h h1:H} {q lo:Nat} {rest:BL} {R:Row} {s:AS} {rs:List RC} {o:Option BL} (a:RowAt h1 lo s rs R) (hlo:h.next ≤ lo) (hn:h.next ≤ h1.next) (hq:q < h.next) (h0:h.f q = some (rdB o)) (hf:h1.f q = some (rdB (some rest))) (hs:∀ b,b < h.next→b ≠ q→h1.f b = h.f b) :
  g0M false h (fun r=>∃ h',r = .ret (.agg (D6 R)) h'∧h.next ≤ h'.next∧h'.f q = some (rdB (some rest))∧∀ b,b < h.next→b ≠ q→h'.f b = h.f b) (.ret (.agg [s]) h1):=by
 by_cases hz:s = .nilslc
 ·have:=a.nil.1 hz
  subst this
  subst hz
  exact p0f (by simp [a0J,l0,c5]) ⟨h1,rfl,hn,hf,hs⟩
 ·have hp':a0J (.agg [s]) = false:=by
   rcases a.arr with ⟨e,_⟩ | ⟨b,v,z,e,_⟩
   ·exact absurd e hz
   ·rw [e];simp [a0J,l0,c5]
  have hfz:=a.frz (h:=h) hlo 61
  refine ⟨_,o0p (v':=.agg (D6 R)) hp' ⟨hn,fun b hb=>?_⟩ (by simp only [u5,List.mapM_cons,List.mapM_nil,hfz,oqE,oqS,oqP,D6]),h.back h1,rfl,by simp [H.back],by simp only [H.back,if_pos hq];exact hf,fun b hb hbq=>by simp only [H.back,if_pos hb];exact hs b hb hbq⟩
  by_cases e:b = q
  ·subst e
   exact .inr ⟨_,_,h0,hf,rfl,rfl,by simp [l0,h0y]⟩
  ·exact .inl (hs b hb e)
theorem s0u {h:H} {q:Nat} {R:Row} {rest:BL} (hR:RowRd R) (hq:q < h.next) (hf:h.f q = some (rdB (some (f0m (ls R)++rest)))) (hroom:(f0m (ls R)++rest).length ≤ 1099511627776) :
  ∃ r,W K 165 [.one (.ptr q 0 0)] h = some r∧∃ h',r = .ret (.agg (D6 (J0 R))) h'∧h.next ≤ h'.next∧h'.f q = some (rdB (some rest))∧∀ b,b < h.next→b ≠ q→h'.f b = h.f b:=by
 obtain ⟨B0,hB0⟩:∃ B:Blk,B = ⟨0,[1],true,[.nilslc]⟩:=⟨_,rfl⟩
 simp only [f0m,oqm] at hf hroom
 have hqn:¬ q = h.next:=by omega
 have hqn1:¬ q = h.next + 1:=by omega
 obtain ⟨g0,e0,n0,r0,s0⟩:=X5 m0D (h:=(h.new B0).new B0) (q:=q) (by simp;omega) (by rw [u4 (by simp;omega),u4 hqn];exact hf) hroom (c0i _ _)
 simp only [A1] at n0 s0
 rw [o0R (by have:=hR.n;omega)] at e0
 have f0:g0.f h.next = some B0:=by rw [s0 _ (by omega) (Ne.symm hqn),u4 (by simp)];simp
 have f1:g0.f (h.next + 1) = some B0:=by rw [s0 _ (by omega) (Ne.symm hqn1)];simp
 obtain ⟨P,hP⟩:∃ P:CR→Prop,P = fun r=>∃ h',r = .ret (.agg (D6 (J0 R))) h'∧h.next ≤ h'.next∧h'.f q = some (rdB (some rest))∧∀ b,b < h.next→b ≠ q→h'.f b = h.f b:=⟨_,rfl⟩
 suffices hh:∃ r,W K 165 [.one (.ptr q 0 0)] h = some r∧P r by rw [hP] at hh;exact hh
 rw [hB0] at e0 f0 f1
 refine N4 hp rfl rfl rfl rfl func165 rfl (by simp [Tryz.f165]) ?_
 simp only [Tryz.f165]
 refine c7 ?_;intro Q1 hQ1
 repeat' (first
  | (replace hQ1:=hQ1;simp [e0])
  | refine hQ1 _ _ _ ?_)
 refine D5 hp (ls R) (fun a r fr hh=>(h.next + 1 + 1 ≤ hh.next∧(∀ b,b < h.next→b ≠ q→hh.f b = h.f b)∧hh.f q = some (rdB (some (r.flatMap b0a++rest)))∧(r.flatMap b0a++rest).length ≤ 1099511627776∧hh.f h.next = some ⟨0,[1],true,[.nilslc]⟩∧∃ s1 rs1,hh.f (h.next + 1) = some ⟨0,[1],true,[s1]⟩∧rs1.length = a.length∧RowAt hh (h.next + 1 + 1) s1 rs1 (nz (a.map F5)))∧∃ j:Nat→AV,fr = ((.one (.ptr q 0 0))::j 1::(.one (.ptr h.next 0 0))::(.one (.ptr (h.next + 1) 0 0))::(.one (.int .u8 r.length))::j 5::j 6::j 7::j 8::j 9::j 10::j 11::j 12::j 13::j 14::j 15::j 16::j 17::j 18::j 19::j 20::j 21::j 22::j 23::j 24::j 25::j 26::j 27::j 28::j 29::j 30::j 31::j 32::j 33::j 34::j 35::j 36::j 37::j 38::j 39::j 40::j 41::j 42::j 43::j 44::j 45::j 46::j 47::j 48::[])) ?_ ?_ _ _ ?_
 rotate_left 2
 ·refine ⟨⟨n0,fun b hb hbq=>?_,r0,by simp only [oqb] at hroom;omega,f0,.nilslc,[],f1,rfl,⟨.inl ⟨rfl,rfl⟩,by simp,by simp [z0],trivial,by simp⟩⟩,s9 (by simp)⟩
  rw [s0 b (by omega) hbq,u4 (by simp;omega),u4 (by omega)]
 ·rintro a x r fr hh hll ⟨⟨i1,i2,i3,i4,i5,s1,rs1,i6,i7,i8⟩,j,rfl⟩
  have hxR:=hR.c x (by rw [hll];simp)
  obtain ⟨xn,xl⟩:=x
  obtain ⟨x1,x2,x3,x4⟩:=hxR
  simp only at x1 x2 x3 x4
  have hrn:r.length < 255:=by have:=hR.n;rw [hll] at this;simp at this;omega
  obtain ⟨V,hV⟩:∃ V,ls xl = V:=⟨_,rfl⟩
  rw [hV] at x2 x3 x4
  obtain ⟨M,hM⟩:∃ M,r.flatMap b0a++rest = M:=⟨_,rfl⟩
  have hbytes:((⟨xn,xl⟩:Column)::r).flatMap b0a++rest = D7 xn++(u8 V.length::(V.flatMap a0p++M)):=by rw [← hM,← hV];simp [b0a]
  rw [hbytes] at i3 i4
  rw [hM]
  have hx16:xn.length ≤ 16:=by have:=x1;simp only [I6,oqd,oqj] at this;omega
  obtain ⟨g1,e1,n1,r1,t1⟩:=X5 (j0u 16 (by omega)) (h:=hh) (q:=q) (by omega) i3 i4 (b0k hx16 (by omega) _)
  have hroom1:(u8 V.length::(V.flatMap a0p++M)).length ≤ 1099511627776:=by rw [oqa] at i4;omega
  obtain ⟨g2,e2,n2,r2,t2⟩:=X5 m0D (h:=g1.new ⟨0,[2],true,[.str xn,.nilslc]⟩) (q:=q) (by simp;omega) (by rw [u4 (by omega)];exact r1) hroom1 (c0i _ _)
  rw [o0R (by omega)] at e2
  simp only [A1] at n2 t2
  have hroom2:(V.flatMap a0p++M).length ≤ 1099511627776:=by simp only [oqb] at hroom1;omega
  have fc:g2.f g1.next = some ⟨0,[2],true,[.str xn,.nilslc]⟩:=by rw [t2 _ (by omega) (by omega)];simp
  have hd1:decide ((0:Int) < (r.length:Int) + 1) = true:=by rw [oqj];omega
  have hd2:(0:Int) < (r.length:Int) + 1:=by omega
  have e1':W K 164 [.one (.ptr q 0 0),.one (.int .i64 16)] hh = some (.ret (.one (bs (some xn))) g1):=e1
  first | (refine c7 ?_;intro Q2 hQ2) | have hQ2:=oqk
  repeat' (first
   | (replace hQ2:=hQ2;simp [hd2,e1',e2,c0A])
   | (refine hQ2 _ _ _ ?_;clear hQ2 Q2;first | simp only [] | simp [hd1,hd2,e1',e2,c0A] | skip)
   | (refine C5 (by assumption) ?_;(try clear hQ2);first | simp only [] | simp [hd1,hd2,e1',e2,c0A] | skip)
   | ((fail_if_success replace hQ2:=hQ2);(first | refine c7 ?_ | refine y5 ?_ | refine y3 ?_);intro Q2 hQ2))
  refine D5 hp V (fun a2 y2 fr h2=>(g2.next ≤ h2.next∧(∀ b,b < g2.next→b ≠ q→b ≠ g1.next→h2.f b = g2.f b)∧h2.f q = some (rdB (some (y2.flatMap a0p++M)))∧(y2.flatMap a0p++M).length ≤ 1099511627776∧∃ s2,h2.f g1.next = some ⟨0,[2],true,[.str xn,s2]⟩∧Sl h2 4 c9 s2 (a2.map H3)∧(s2 = .nilslc ↔ a2 = [])∧∀ b,z0 s2 = some b→g2.next ≤ b)∧∃ j:Nat→AV,fr = ((.one (.ptr q 0 0))::j 1::(.one (.ptr h.next 0 0))::(.one (.ptr (h.next + 1) 0 0))::(.one (.int .u8 ((r.length:Int) + 1)))::(.one (.ptr g1.next 0 0))::(.one (.int .u8 y2.length))::j 7::j 8::j 9::j 10::j 11::j 12::j 13::j 14::j 15::j 16::j 17::j 18::j 19::j 20::j 21::j 22::j 23::j 24::j 25::j 26::j 27::j 28::j 29::j 30::j 31::j 32::j 33::j 34::j 35::j 36::j 37::j 38::j 39::j 40::j 41::j 42::j 43::j 44::j 45::j 46::j 47::j 48::[])) ?_ ?_ _ _ ?_
  rotate_left 2
  ·exact ⟨⟨oqg _,fun _ _ _ _=>rfl,r2,hroom2,.nilslc,fc,.inl ⟨rfl,rfl⟩,by simp,by simp [z0]⟩,s9 (by simp)⟩
  ·rintro a2 y y2 fr h2 hl2 ⟨⟨j1,j2,j3,j4,s2,j5,j6,j7,j8⟩,j',rfl⟩
   have hyR:=x4 y (by rw [hl2];simp)
   have hyn:y2.length < 255:=by rw [hl2] at x2;simp at x2;omega
   obtain ⟨yt,⟨yk,yb,yn⟩⟩:=y
   obtain ⟨y_t,y_v,y_c,y_n⟩:=hyR
   simp only at y_t y_v y_c y_n
   obtain ⟨N,hN⟩:∃ N,y2.flatMap a0p++M = N:=⟨_,rfl⟩
   have hbytes2:((⟨yt,⟨yk,yb,yn⟩⟩:Version)::y2).flatMap a0p++M = a0Z yt++(a0r ⟨yk,yb,yn⟩++N):=by rw [← hN];simp [a0p]
   rw [hbytes2] at j3 j4
   rw [hN]
   have h64:u64 yt < 256 ^ 8:=by unfold u64;omega
   obtain ⟨m1,eL,v1,w1,z1⟩:=X5 v0n (h:=h2) (q:=q) (by omega) j3 j4 (d0u h64 _)
   have hrm1:(a0r ⟨yk,yb,yn⟩++N).length ≤ 1099511627776:=by rw [oqa] at j4;omega
   obtain ⟨m3,eG,v3,w3,z3⟩:=X5 F0E (h:=m1.new ⟨0,[4],true,[ii yt,ii 0,.nilslc,.flt 0]⟩) (q:=q) (by simp;omega) (by rw [u4 (by omega)];exact w1) hrm1 (w0I y_v y_c y_n _)
   simp only [A1] at v3 z3
   have hrm3:N.length ≤ 1099511627776:=by rw [oqa] at hrm1;omega
   have hT:=u0h y_t
   obtain ⟨⟨wk,wb,wn⟩,hw⟩:∃ w,a0s ⟨yk,yb,yn⟩ = w:=⟨_,rfl⟩
   rw [hw] at eG
   have hve:c9 (H3 ⟨yt,⟨yk,yb,yn⟩⟩) = [ii yt,ii wk,bs wb,.flt wn]:=by simp only [H3,hw,c9]
   have fd:m3.f m1.next = some ⟨0,[4],true,[ii yt,ii 0,.nilslc,.flt 0]⟩:=by rw [z3 _ (by omega) (by omega)];simp
   have fc2:m3.f g1.next = some ⟨0,[2],true,[.str xn,s2]⟩:=by rw [z3 _ (by omega) (by omega),u4 (by omega),z1 _ (by omega) (by omega)];exact j5
   have hs2q:∀ b,z0 s2 = some b→b < h2.next∧b ≠ q∧b ≠ m1.next:=fun b hb=>by have:=j6.lt hb;have:=j8 b hb;omega
   have j6':Sl ((m3.set m1.next ⟨0,[4],true,[ii yt,ii wk,bs wb,.flt wn]⟩).new ⟨0,[4],true,c9 (H3 ⟨yt,⟨yk,yb,yn⟩⟩)⟩) 4 c9 s2 (a2.map H3):=j6.keep (by simp;omega) fun b hb=>by
    obtain ⟨k1,k2,k3⟩:=hs2q b hb
    rw [u4 (by simp;omega),p0,if_neg k3,z3 b (by omega) k2,u4 (by omega),z1 b k1 k2]
   have ha2:a2.length ≤ 2:=by rw [hl2] at x2;simp at x2;omega
   obtain ⟨s3,h3,e3,⟨b3,v3',z3',hs3,ar3⟩,k1,k2,k3⟩:=N9 (P:=prog) (t:=89) underlying89 (by simp) (by simp) Tryz.bytes93 (by omega) C3 (a:=.slc m3.next 0 0 1 4 none) (m:=[H3 ⟨yt,⟨yk,yb,yn⟩⟩]) j6' rfl (by simp [B8,cat,hve,sub]) (by simp) (by simp only [oqi,oqb,oqc,Nat.zero_add,J6];omega)
   simp only [A1,c0O] at k1 k2 k3
   rw [hve] at e3 k2
   have hs2c:z0 s2 ≠ some g1.next:=fun e=>by have:=j8 _ e;omega
   have f3c:h3.f g1.next = some ⟨0,[2],true,[.str xn,s2]⟩:=by rw [k2 _ (by omega) hs2c,u4 (by simp;omega),p0,if_neg (by omega)];exact fc2
   have hmap:(a2++[(⟨yt,⟨yk,yb,yn⟩⟩:Version)]).map H3 = a2.map H3++[H3 ⟨yt,⟨yk,yb,yn⟩⟩]:=by simp
   have hA0:(a2++[(⟨yt,⟨yk,yb,yn⟩⟩:Version)]) ≠ []:=by simp
   generalize hA3:(a2++[(⟨yt,⟨yk,yb,yn⟩⟩:Version)]) = A3 at *
   have hd3:decide ((0:Int) < (y2.length:Int) + 1) = true:=by rw [oqj];omega
   have hd4:(0:Int) < (y2.length:Int) + 1:=by omega
   have hdec:IntKind.u8.wrap (y2.length:Int) = y2.length:=n0A (by omega) (by omega)
   have hn1:¬ g1.next = m1.next:=by omega
   have hn2:¬ g1.next = m3.next:=by omega
   have hn3:¬ m1.next = m3.next:=by omega
   simp only [V3] at eG
   first | (refine c7 ?_;intro Q3 hQ3) | have hQ3:=oqk
   repeat' (first
    | (replace hQ3:=hQ3;simp [hd4,eL,eG,hT,A5,fd,fc2,e3,f3c,hdec,hn1])
    | (refine hQ3 _ _ _ ?_;clear hQ3 Q3;first | simp only [] | simp [hd3,hd4,eL,eG,hT,A5,fd,fc2,e3,f3c,hdec,hn1,hn2,hn3] | skip)
    | (refine C5 (by assumption) ?_;(try clear hQ3);first | simp only [] | simp [hd3,hd4,eL,eG,hT,A5,fd,fc2,e3,f3c,hdec,hn1,hn2,hn3] | skip)
    | ((fail_if_success replace hQ3:=hQ3);(first | refine c7 ?_ | refine y5 ?_ | refine y3 ?_);intro Q3 hQ3))
   refine ⟨⟨by simp;omega,fun b hb hbq hbc=>?_, ?_,hrm3,s3,by simp,.inr ⟨b3,v3',z3',by rw [hs3,hmap], ?_⟩, ?_,fun b hb=>?_⟩,s9 (by simp)⟩
   ·rw [p0,if_neg hbc,k2 b (by omega) (fun e=>by have:=j8 b e;omega),u4 (by simp;omega),p0,if_neg (by omega),z3 b (by omega) hbq,u4 (by omega),z1 b (by omega) hbq];exact j2 b hb hbq hbc
   ·rw [p0,if_neg (by omega),k2 q (by omega) (fun e=>(hs2q q e).2.1 rfl),u4 (by simp;omega),p0,if_neg (by omega)];exact w3
   ·rw [hmap]
    refine ar3.keep (by simp) ?_
    rw [p0,if_neg]
    rintro rfl
    rcases k3 _ (by rw [hs3];rfl) with e | e
    ·exact hs2c e
    ·omega
   ·rw [hs3];simp [hA0]
   ·rcases k3 b hb with e | e
    ·exact j8 b e
    ·omega
  ·rintro fr h2 ⟨⟨j1,j2,j3,j4,s2,j5,j6,j7,j8⟩,j',rfl⟩
   have hfr:∀ b,b < hh.next→b ≠ q→h2.f b = hh.f b:=fun b hb hbq=>by rw [j2 b (by omega) hbq (by omega),t2 b (by omega) hbq,u4 (by omega),t1 b hb hbq]
   have f42:h2.f (h.next + 1) = some ⟨0,[1],true,[s1]⟩:=by rw [hfr _ (by omega) (by omega)];exact i6
   have hVn:nz (V.map H3) = some (V.map H3):=f0Z (by simpa using x3)
   have hcol:ColAt h2 hh.next (xn,s2) (F5 ⟨xn,xl⟩):=⟨rfl,by simp only [F5,a0d,hV];exact j6,by simp only [F5,hV];rw [hVn,j7];simp [x3],fun b hb=>⟨by have:=j8 b hb;omega,j6.lt hb⟩⟩
   have hal:a.length ≤ 4:=by have:=hR.n;rw [hll] at this;simp at this;omega
   have hnq:∀ b,z0 s1 = some b ∨ b ∈ Z6 rs1→b ≠ q:=fun b hx=>by
    rcases hx with e | e
    ·have:=(i8.own _ e).1;omega
    ·have:=(i8.col.lt _ e).1;omega
   obtain ⟨s4,h4,e4,w4,k1,k2,k3⟩:=i8.push (P:=prog) (t:=79) underlying79 (by simp) (by simp) Tryz.bytes91 (by omega) (by omega) (fun b hb hx=>hfr b hb (hnq b hx)) hcol (by simp only [J6];omega)
   have hs1:z0 s1 ≠ some (h.next + 1):=fun e=>by have:=(i8.own _ e).1;omega
   have hs1q:z0 s1 ≠ some q:=fun e=>hnq q (.inl e) rfl
   have hs10:z0 s1 ≠ some h.next:=fun e=>by have:=(i8.own _ e).1;omega
   have f43:h4.f (h.next + 1) = some ⟨0,[1],true,[s1]⟩:=by rw [k2 _ (by omega) hs1,u4 (by omega)];exact f42
   have hmap:nz ((a++[(⟨xn,xl⟩:Column)]).map F5) = some (ls (nz (a.map F5))++[F5 ⟨xn,xl⟩]):=by simp [f0Z]
   have hlo4:∀ b,z0 s4 = some b→b ≠ h.next + 1:=by
    rintro b hb rfl
    rcases k3 _ hb with e | e
    ·exact hs1 e
    ·omega
   have hA2l:(a++[(⟨xn,xl⟩:Column)]).length = a.length + 1:=by simp
   generalize hA2:a++[(⟨xn,xl⟩:Column)] = A2 at *
   have hdec:IntKind.u8.wrap (r.length:Int) = r.length:=n0A (by omega) (by omega)
   simp only [List.flatMap_nil,oql] at j3 j4
   first | (refine c7 ?_;intro Q4 hQ4) | have hQ4:=oqk
   repeat' (first
    | (replace hQ4:=hQ4;simp [f42,j5,e4,f43])
    | (refine hQ4 _ _ _ ?_;clear hQ4 Q4;first | simp only [] | simp [hdec] | skip)
    | (refine C5 (by assumption) ?_;(try clear hQ4);first | simp only [] | simp [f42,j5,e4,f43,hdec] | skip)
    | ((fail_if_success replace hQ4:=hQ4);(first | refine c7 ?_ | refine y5 ?_ | refine y3 ?_);intro Q4 hQ4))
   refine ⟨⟨by simp;omega,fun b hb hbq=>?_, ?_,j4, ?_,s4,rs1++[(xn,s2)],by simp, ?_, ?_⟩,s9 (by simp)⟩
   ·rw [p0,if_neg (by omega),k2 b (by omega) (fun e=>by have:=(i8.own b e).1;omega),u4 (by omega),hfr b (by omega) hbq];exact i2 b hb hbq
   ·rw [p0,if_neg (by omega),k2 q (by omega) hs1q,u4 (by omega)];exact j3
   ·rw [p0,if_neg (by omega),k2 _ (by omega) hs10,u4 (by omega),hfr _ (by omega) (by omega)];exact i5
   ·simp [i7,hA2l]
   ·rw [hmap]
    refine w4.keep (by simp) fun b hb hx=>?_
    rw [p0,if_neg]
    rintro rfl
    rcases hx with e | e
    ·exact hlo4 _ e rfl
    ·have:=(w4.col.lt _ e).1;omega
 ·rintro fr hh ⟨⟨i1,i2,i3,i4,i5,s1,rs1,i6,i7,i8⟩,j,rfl⟩
  have hB:P3 (nz ((ls R).map F5)) = true:=by have:=d0R R;rw [hR.ok] at this;exact this
  have hr:=u0C (Rw.RowAt.sees i8) (by have:=hR.n;simp only [a0d,oqi];omega)
  rw [hB] at hr
  have hne1:¬ h.next = h.next + 1:=by omega
  have i8':RowAt (hh.set h.next ⟨0,[1],true,[s1]⟩) (h.next + 1 + 1) s1 rs1 (nz ((ls R).map F5)):=i8.keep (by simp) fun b hb hx=>by
   rw [p0,if_neg]
   rintro rfl
   rcases hx with e | e
   ·have:=(i8.own _ e).1;omega
   ·have:=(i8.col.lt _ e).1;omega
  first | (refine c7 ?_;intro Q5 hQ5) | have hQ5:=oqk
  repeat' (first
   | (replace hQ5:=hQ5;simp [i5,i6,hr])
   | (refine hQ5 _ _ _ ?_;clear hQ5 Q5;first | simp only [] | simp [i5,i6,hr,hne1] | skip)
   | (refine C5 (by assumption) ?_;(try clear hQ5);first | simp only [] | simp [i5] | skip)
   | ((fail_if_success replace hQ5:=hQ5);(first | refine c7 ?_ | refine y5 ?_ | refine y3 ?_);intro Q5 hQ5))
  rw [hP]
  simp only [List.flatMap_nil,oql] at i3
  exact z0L i8' (by omega) (by simp;omega) hq hf (by rw [p0,if_neg hqn];exact i3) (fun b hb hbq=>by rw [p0,if_neg (by omega)];exact i2 b hb hbq)
theorem u0E {c:Int} (h:0 ≤ c∧c ≤ 255):(((u8 c).toNat:Nat):Int) = c:=by
 unfold u8
 simp
 omega
theorem s0a {s:Int} (h:0 ≤ s∧s ≤ 1073741824):((u32 s:Nat):Int) = s:=by unfold u32;omega
theorem q0g {h:H} {q:Nat} {l:List Tld} {rest:BL} (ok:CchOk l) (hq:q < h.next) (hf:h.f q = some (rdB (some (b0C l++rest)))) (hroom:(b0C l++rest).length ≤ 1099511627776) :
  ∃ r,W K 152 [.one (.ptr q 0 0)] h = some r∧∃ h' q',r = .ret (.one (.ptr h.next 0 0)) h'∧h.next ≤ h'.next∧h'.f q = some (rdB (some rest))∧(∀ b,b < h.next→b ≠ q→h'.f b = h.f b)∧Bx h' h.next 3 G9 (l.map V5) q'∧k0y h h' (h.next::q'.toList):=by
 have hlen:=ok.len
 have hnew:=q0v h
 have hqn:¬ q = h.next:=by omega
 simp only [b0C,L7,oqh] at hf hroom
 have hu:u32 (l.length:Int) = l.length:=by unfold u32;omega
 rw [hu] at hf hroom
 obtain ⟨g0,e0,n0,r0,s0⟩:=X5 o0z (h:=h.new ⟨0,[1],true,[.nilslc]⟩) (q:=q) (by simp;omega) (by rw [u4 hqn];exact hf) hroom (d0u (by omega) _)
 simp only [A1] at n0 s0
 have hroom0:(l.flatMap a0O++rest).length ≤ 1099511627776:=by rw [oqa] at hroom;omega
 have f0:g0.f h.next = some ⟨0,[1],true,[.nilslc]⟩:=by rw [s0 _ (by omega) (Ne.symm hqn)];simp
 obtain ⟨P,hP⟩:∃ P:CR→Prop,P = fun r=>∃ h' q',r = .ret (.one (.ptr h.next 0 0)) h'∧h.next ≤ h'.next∧h'.f q = some (rdB (some rest))∧(∀ b,b < h.next→b ≠ q→h'.f b = h.f b)∧Bx h' h.next 3 G9 (l.map V5) q'∧k0y h h' (h.next::q'.toList):=⟨_,rfl⟩
 suffices hh:∃ r,W K 152 [.one (.ptr q 0 0)] h = some r∧P r by rw [hP] at hh;exact hh
 refine H6 hp rfl rfl rfl func152 rfl (by simp [Tryz.f152]) ?_
 simp only [Tryz.f152]
 refine c7 ?_;intro Q1 hQ1
 repeat' (first
  | (replace hQ1:=hQ1;simp [hnew,e0])
  | refine hQ1 _ _ _ ?_)
 refine D5 hp l (fun a r fr hh=>(h.next < hh.next∧(∀ b,b < h.next→b ≠ q→hh.f b = h.f b)∧hh.f q = some (rdB (some (r.flatMap a0O++rest)))∧(r.flatMap a0O++rest).length ≤ 1099511627776∧∃ q1,Bx hh h.next 3 G9 (a.map V5) q1∧∀ b,q1 = some b→h.next < b)∧∃ L:Int,(∀ y ∈ r,L < y.client)∧∃ j:Nat→AV,fr = ((.one (.ptr q 0 0))::j 1::j 2::(.one (.ptr h.next 0 0))::(.one (.int .u32 r.length))::(.one (ii L))::j 6::j 7::j 8::j 9::j 10::j 11::j 12::j 13::j 14::j 15::j 16::j 17::j 18::j 19::j 20::j 21::j 22::j 23::j 24::j 25::j 26::j 27::j 28::j 29::j 30::j 31::j 32::j 33::j 34::j 35::j 36::j 37::j 38::[])) ?_ ?_ _ _ ?_
 rotate_left 2
 ·refine ⟨⟨by omega,fun b hb hbq=>by rw [s0 b (by omega) hbq,u4 (by omega)],r0,hroom0,none,⟨by omega,.nilslc,f0,.inl ⟨rfl,rfl⟩,rfl,by simp⟩,by simp⟩,-1,fun y hy=>by have:=(a0n (ok.ok y hy)).1;omega,s9 (by simp)⟩
 ·rintro a x r fr hh hll ⟨⟨i1,i2,i3,i4,q1,i5,i6⟩,L,hL,j,rfl⟩
  have hxr:=ok.ok x (by rw [hll];simp)
  have hxi:=a0n hxr
  have hLx:=hL x (by simp)
  have hokl:=ok
  rw [hll] at hokl
  have hoka:=s0p (y0c hokl)
  have hax:∀ y ∈ a.map V5,y.client < (V5 x).client:=by
   intro y hy
   obtain ⟨z,hz,rfl⟩:=List.mem_map.1 hy
   obtain ⟨i,hi,rfl⟩:=List.getElem_of_mem hz
   have:=(P4 a0X).1 hokl.srt i a.length hi (by simp)
   simp only [b0y,oqj] at this
   rw [List.getElem_append_left hi,List.getElem_append_right (oqg _)] at this
   simpa [V5] using this
  have hrx:∀ y ∈ r,x.client < y.client:=by
   intro y hy
   have:=b0m a0X (a0C hokl.srt) y hy
   simpa [b0y] using this
  have hks:=p0N hax (x:=V5 x) hxr
  have hrl:r.length < 1000:=by rw [hll] at hlen;simp at hlen;omega
  obtain ⟨M,hM⟩:∃ M,r.flatMap a0O++rest = M:=⟨_,rfl⟩
  obtain ⟨xc,xs,xb⟩:=x
  simp only [V5] at hks hLx hrx
  simp only at hxi
  have hbytes:((⟨xc,xs,xb⟩:Tld)::r).flatMap a0O++rest = u8 xc::(be 4 (u32 xs)++(D7 (ls xb)++M)):=by rw [← hM];simp [a0O,L7]
  rw [hbytes] at i3 i4
  rw [hM]
  obtain ⟨g1,e1,n1,r1,t1⟩:=X5 m0D (h:=hh) (q:=q) (by omega) i3 i4 (c0i _ _)
  have hr1:(be 4 (u32 xs)++(D7 (ls xb)++M)).length ≤ 1099511627776:=by simp only [oqb] at i4;omega
  have hu32:=s0a (s:=xs) (by omega)
  have hu8:=u0E (c:=xc) (by omega)
  have h32:u32 xs < 256 ^ 4:=by unfold u32;omega
  obtain ⟨g2,e2,n2,r2,t2⟩:=X5 o0z (h:=g1) (q:=q) (by omega) r1 hr1 (d0u h32 _)
  have hr2:(D7 (ls xb)++M).length ≤ 1099511627776:=by rw [oqa] at hr1;omega
  obtain ⟨g3,e3,n3,r3,t3⟩:=X5 (j0u 1048576 (by omega)) (h:=g2) (q:=q) (by omega) r2 hr2 (b0k hxi.2.2.2.2 (by omega) _)
  have hr3:M.length ≤ 1099511627776:=by rw [oqa] at hr2;omega
  have hfr:∀ b,b < hh.next→b ≠ q→g3.f b = hh.f b:=fun b hb hbq=>by rw [t3 b (by omega) hbq,t2 b (by omega) hbq,t1 b hb hbq]
  have i5':Bx g3 h.next 3 G9 (a.map V5) q1:=i5.keep (by omega) (hfr _ i1 (Ne.symm hqn)) fun b hb=>hfr b (i5.lt hb) (by have:=i6 b hb;omega)
  obtain ⟨h4,q4,e4,b4,o4⟩:=q0x i5' hoka xc xs (some (ls xb)) (by simp only [H1];omega)
  rw [hks] at e4 b4
  have hq1:q1 ≠ some q:=fun e=>by have:=i6 _ e;omega
  have o4n:=o4.next
  have e3':W K 164 [.one (.ptr q 0 0),.one (.int .i64 1048576)] g2 = some (.ret (.one (bs (some (ls xb)))) g3):=e3
  have hd1:decide ((0:Int) < (r.length:Int) + 1) = true:=by rw [oqj];omega
  have hd2:(0:Int) < (r.length:Int) + 1:=by omega
  have hd3:decide (xc ≤ L) = false:=by simp;omega
  have hd4:¬ xc ≤ L:=by omega
  have hw1:IntKind.i64.wrap xs = xs:=wrap_i64 (by omega) (by omega)
  have hdec:IntKind.u32.wrap (r.length:Int) = r.length:=g0G (by omega) (by omega)
  have hcv:∀ h,A5 prog 138 3 (.int .u32 ((u32 xs:Nat):Int)) h = some (.val (.one (ii xs)) h):=fun h=>by simp [A5,hu32,hw1]
  have hcb:∀ h,A5 prog 5 3 (C9 (u8 xc)) h = some (.val (.one (ii xc)) h):=fun h=>by rw [D0E,hu8]
  have hmap:(a++[(⟨xc,xs,xb⟩:Tld)]).map V5 = a.map V5++[⟨xc,xs,some (ls xb)⟩]:=by simp [V5]
  generalize hA2:a++[(⟨xc,xs,xb⟩:Tld)] = A2 at *
  first | (refine c7 ?_;intro Q2 hQ2) | have hQ2:=oqk
  repeat' (first
   | (replace hQ2:=hQ2;simp [hd2,e1,e2,e3',e4,hd4,hcv,hcb,hdec])
   | (refine hQ2 _ _ _ ?_;clear hQ2 Q2;first | simp only [] | skip)
   | (refine C5 (by assumption) ?_;(try clear hQ2);first | simp only [] | skip)
   | ((fail_if_success replace hQ2:=hQ2);(first | refine c7 ?_ | refine y5 ?_ | refine y3 ?_);intro Q2 hQ2))
  refine ⟨⟨by omega,fun b hb hbq=>?_, ?_,hr3,q4,by rw [hmap];exact b4,fun b hb=>?_⟩,xc,hrx,s9 (by simp)⟩
  ·rw [o4.keep b (by omega) (by omega) (fun e=>by have:=i6 _ e;omega),hfr b (by omega) hbq];exact i2 b hb hbq
  ·rw [o4.keep q (by omega) hqn hq1];exact r3
  ·rcases o4.own with e | ⟨y,e,hy⟩
   ·rw [e] at hb;exact i6 b hb
   ·rw [e] at hb;cases hb;omega
 ·rintro fr hh ⟨⟨i1,i2,i3,i4,q1,i5,i6⟩,L,hL,j,rfl⟩
  simp only [List.flatMap_nil,oql] at i3
  first | (refine c7 ?_;intro Q3 hQ3) | have hQ3:=oqk
  repeat' (first
   | (replace hQ3:=hQ3;simp)
   | (refine hQ3 _ _ _ ?_;clear hQ3 Q3;first | simp only [] | simp | skip)
   | (refine C5 (by assumption) ?_;(try clear hQ3);first | simp only [] | simp | skip)
   | ((fail_if_success replace hQ3:=hQ3);(first | refine c7 ?_ | refine y5 ?_ | refine y3 ?_);intro Q3 hQ3))
  rw [hP]
  refine ⟨hh,q1,rfl,by omega,i3,i2,i5, ?_⟩
  cases q1 with
  | none=>exact ⟨by simp,fun x hx=>by simp at hx;omega⟩
  | some y =>
   have:=i6 y rfl
   have h3:y < hh.next:=i5.lt rfl
   exact ⟨by simp;omega,fun x hx=>by simp at hx;omega⟩
theorem q0K {h:H} {q:Nat} {l:List Named} {rest:BL} (ok:TblOk l) (okr:∀ x ∈ l,RowRd x.r) (hq:q < h.next) (hf:h.f q = some (rdB (some (c0q l++rest)))) (hroom:(c0q l++rest).length ≤ 1099511627776) :
  ∃ r,W K 151 [.one (.ptr q 0 0)] h = some r∧∃ h' q',r = .ret (.one (.ptr h.next 0 0)) h'∧h.next ≤ h'.next∧h'.f q = some (rdB (some rest))∧(∀ b,b < h.next→b ≠ q→h'.f b = h.f b)∧Bx h' h.next 2 c8 (l.map C8) q'∧k0y h h' (h.next::q'.toList):=by
 have hlen:=ok.len
 have hnew:=u0T h
 have hqn:¬ q = h.next:=by omega
 simp only [c0q,L7,oqh] at hf hroom
 have hu:u32 (l.length:Int) = l.length:=by unfold u32;omega
 rw [hu] at hf hroom
 obtain ⟨g0,e0,n0,r0,s0⟩:=X5 o0z (h:=h.new ⟨0,[1],true,[.nilslc]⟩) (q:=q) (by simp;omega) (by rw [u4 hqn];exact hf) hroom (d0u (by omega) _)
 simp only [A1] at n0 s0
 have hroom0:(l.flatMap I1++rest).length ≤ 1099511627776:=by rw [oqa] at hroom;omega
 have f0:g0.f h.next = some ⟨0,[1],true,[.nilslc]⟩:=by rw [s0 _ (by omega) (Ne.symm hqn)];simp
 obtain ⟨P,hP⟩:∃ P:CR→Prop,P = fun r=>∃ h' q',r = .ret (.one (.ptr h.next 0 0)) h'∧h.next ≤ h'.next∧h'.f q = some (rdB (some rest))∧(∀ b,b < h.next→b ≠ q→h'.f b = h.f b)∧Bx h' h.next 2 c8 (l.map C8) q'∧k0y h h' (h.next::q'.toList):=⟨_,rfl⟩
 suffices hh:∃ r,W K 151 [.one (.ptr q 0 0)] h = some r∧P r by rw [hP] at hh;exact hh
 have hd0:decide ((32:Int) < (l.length:Int)) = false:=by simp;omega
 have hd00:¬ (32:Int) < (l.length:Int):=by omega
 have hd000:¬ 32 < l.length:=by omega
 refine H6 hp rfl rfl rfl func151 rfl (by simp [Tryz.f151]) ?_
 simp only [Tryz.f151]
 refine c7 ?_;intro Q1 hQ1
 repeat' (first
  | (replace hQ1:=hQ1;simp [hnew,e0,hd00])
  | refine hQ1 _ _ _ ?_
  | (first | refine dF (id:=10) [0,1,2,3,4,5,6,7,8,9,10,11,12,13,14,15,16,17,18,19,20,21,22,23,24,25,26,27,28] [] ?_ | refine dF (id:=12) [0,1,2,3,4,5,6,7,8,9,10] [] ?_))
 refine D5 hp l (fun a r fr hh=>(h.next < hh.next∧(∀ b,b < h.next→b ≠ q→hh.f b = h.f b)∧hh.f q = some (rdB (some (r.flatMap I1++rest)))∧(r.flatMap I1++rest).length ≤ 1099511627776∧∃ q1,Bx hh h.next 2 c8 (a.map C8) q1∧∀ b,q1 = some b→h.next < b)∧∃ j:Nat→AV,fr = ((.one (.ptr q 0 0))::j 1::j 2::(.one (.ptr h.next 0 0))::(.one (.int .u32 r.length))::j 5::j 6::j 7::j 8::j 9::j 10::j 11::j 12::j 13::j 14::j 15::j 16::j 17::j 18::j 19::j 20::j 21::j 22::j 23::j 24::j 25::j 26::j 27::j 28::j 29::j 30::j 31::j 32::j 33::j 34::j 35::j 36::j 37::j 38::j 39::j 40::j 41::j 42::j 43::j 44::j 45::j 46::j 47::j 48::j 49::j 50::j 51::j 52::j 53::j 54::j 55::j 56::j 57::j 58::j 59::j 60::j 61::j 62::j 63::j 64::j 65::j 66::j 67::j 68::j 69::j 70::j 71::[])) ?_ ?_ _ _ ?_
 rotate_left 2
 ·exact ⟨⟨by omega,fun b hb hbq=>by rw [s0 b (by omega) hbq,u4 (by omega)],r0,hroom0,none,⟨by omega,.nilslc,f0,.inl ⟨rfl,rfl⟩,rfl,by simp⟩,by simp⟩,s9 (by simp)⟩
 ·rintro a x r fr hh hll ⟨⟨i1,i2,i3,i4,q1,i5,i6⟩,j,rfl⟩
  have hxm:x ∈ l:=by rw [hll];simp
  have hnm:=ok.nm x hxm
  have hrow:=ok.row x hxm
  have hrd:=okr x hxm
  have hrl:r.length < 1000∧a.length < 33:=by rw [hll] at hlen;simp at hlen;omega
  have hs2:=ok.srt
  rw [hll] at hs2
  obtain ⟨M,hM⟩:∃ M,r.flatMap I1++rest = M:=⟨_,rfl⟩
  obtain ⟨xn,xr⟩:=x
  simp only at hnm hrow hrd
  have hbytes:((⟨xn,xr⟩:Named)::r).flatMap I1++rest = D7 xn++(f0m (ls xr)++M):=by rw [← hM];simp [I1,g0a,hrow.1]
  rw [hbytes] at i3 i4
  rw [hM]
  have hx16:xn.length ≤ 16:=by have:=hnm;simp only [I6,oqd,oqj] at this;omega
  obtain ⟨g1,e1,n1,r1,t1⟩:=X5 (j0u 16 (by omega)) (h:=hh) (q:=q) (by omega) i3 i4 (b0k hx16 (by omega) _)
  have hr1:(f0m (ls xr)++M).length ≤ 1099511627776:=by rw [oqa] at i4;omega
  obtain ⟨_,e2,g3,rfl,n3,r3,t3⟩:=s0u (h:=g1.new ⟨0,[2],true,[.str xn,.nilslc]⟩) (q:=q) hrd (by simp;omega) (by rw [u4 (by omega)];exact r1) hr1
  have hr3:M.length ≤ 1099511627776:=by rw [oqa] at hr1;omega
  simp only [A1] at n3 t3
  have hne:ls xr ≠ []:=fun e=>by
   have h1:=hrow.1
   have h2:=hrow.2
   unfold rowCopy at h1
   rw [if_pos hrd.ok,e] at h1
   exact h2 h1.symm
  have hNl:(ls (J0 xr)).length = (ls xr).length:=by simp [J0]
  have hx':C8 ⟨xn,xr⟩ = ⟨xn,J0 xr⟩:=rfl
  have hmap:(a++[(⟨xn,xr⟩:Named)]).map C8 = a.map C8++[⟨xn,J0 xr⟩]:=by simp [C8]
  have hNs:=b0T (o:=J0 xr) (by rw [d0R];exact hrd.ok)
  obtain ⟨NR,hNR⟩:∃ NR,J0 xr = NR:=⟨_,rfl⟩
  rw [hNR] at e2 hNl hx' hmap hNs
  have hln:(ls NR).length ≠ 0:=by rw [hNl];simpa using hne
  have hlz:¬ ((ls NR).length:Int) = 0:=by omega
  have hlzb:(((ls NR).length:Int) == 0) = false:=beq_eq_false_iff_ne.2 hlz
  have hlr:∀ (u:TypeId) (h':H),O7 (sl 2 j9 NR) (some (.slice u)) h' = some (one (ii (ls NR).length) h'):=fun u h'=>O8 ..
  have hfr:∀ b,b < hh.next→b ≠ q→g3.f b = hh.f b:=fun b hb hbq=>by rw [t3 b (by omega) hbq,u4 (by omega),t1 b hb hbq]
  have fd:g3.f g1.next = some ⟨0,[2],true,[.str xn,.nilslc]⟩:=by rw [t3 _ (by omega) (by omega)];simp
  obtain ⟨w1,s,w2,w3,w4,w5⟩:=i5
  have hsq:∀ b,z0 s = some b→b < hh.next∧b ≠ q∧h.next < b:=fun b hb=>by have:=i6 b (by rw [← w4,hb]);have:=w3.lt hb;omega
  have w23:g3.f h.next = some ⟨0,[1],true,[s]⟩:=by rw [hfr _ i1 (Ne.symm hqn)];exact w2
  have w34:Sl (g3.set g1.next ⟨0,[2],true,[.str xn,sl 2 j9 NR]⟩) 2 c8 s (a.map C8):=w3.keep (by simp;omega) fun b hb=>by
   have:=hsq b hb
   rw [p0,if_neg (by omega),hfr b this.1 this.2.1]
  have w35:Sl ((g3.set g1.next ⟨0,[2],true,[.str xn,sl 2 j9 NR]⟩).new ⟨0,[2],true,c8 ⟨xn,NR⟩⟩) 2 c8 s (a.map C8):=w34.keep (by simp) fun b hb=>u4 (by have:=w34.lt hb;omega)
  obtain ⟨s5,h5,e5,⟨b5,v5,z5,hs5,ar5⟩,k1,k2,k3⟩:=N9 (P:=prog) (t:=48) underlying48 (by simp) (by simp) Tryz.bytes83 (by omega) z9 (a:=.slc g3.next 0 0 1 2 none) (m:=[⟨xn,NR⟩]) w35 rfl (by simp [B8,cat,c8,sub]) (by simp) (by simp only [oqi,oqb,oqc,Nat.zero_add,J6];omega)
  simp only [A1,c0O] at k1 k2 k3
  have hs0:z0 s ≠ some h.next:=fun e=>by have:=hsq _ e;omega
  have hsr:z0 s ≠ some q:=fun e=>(hsq _ e).2.1 rfl
  have f5:h5.f h.next = some ⟨0,[1],true,[s]⟩:=by rw [k2 _ (by omega) hs0,u4 (by simp;omega),p0,if_neg (by omega)];exact w23
  have hs50:z0 s5 ≠ some h.next:=fun e=>by
   rcases k3 _ e with e | e
   ·exact hs0 e
   ·omega
  have e1':W K 164 [.one (.ptr q 0 0),.one (.int .i64 16)] hh = some (.ret (.one (bs (some xn))) g1):=e1
  have hnm2:=c0G xn
  rw [hnm] at hnm2
  have hd1:decide ((0:Int) < (r.length:Int) + 1) = true:=by rw [oqj];omega
  have hd2:(0:Int) < (r.length:Int) + 1:=by omega
  have hdec:IntKind.u32.wrap (r.length:Int) = r.length:=g0G (by omega) (by omega)
  have hla:∀ (u:TypeId) (h':H),O7 s (some (.slice u)) h' = some (one (ii a.length) h'):=fun u h'=>by
   have:=O4 h' u (w3.sees z9) (by omega) (z7 z9 _)
   simpa using this
  have fin:(h.next < (h5.set h.next ⟨0,[1],true,[s5]⟩).next∧(∀ b,b < h.next→b ≠ q→(h5.set h.next ⟨0,[1],true,[s5]⟩).f b = h.f b)∧(h5.set h.next ⟨0,[1],true,[s5]⟩).f q = some (rdB (some M))∧M.length ≤ 1099511627776∧∃ q1,Bx (h5.set h.next ⟨0,[1],true,[s5]⟩) h.next 2 c8 ((a++[(⟨xn,xr⟩:Named)]).map C8) q1∧∀ b,q1 = some b→h.next < b):=by
   refine ⟨by simp;omega,fun b hb hbq=>?_, ?_,hr3,z0 s5,⟨by simp;omega,s5,by simp,.inr ⟨b5,v5,z5,by rw [hs5,hmap], ?_⟩,rfl,hs50⟩,fun b hb=>?_⟩
   ·rw [p0,if_neg (by omega),k2 b (by omega) (fun e=>by have:=hsq b e;omega),u4 (by simp;omega),p0,if_neg (by omega),hfr b (by omega) hbq];exact i2 b hb hbq
   ·rw [p0,if_neg hqn,k2 q (by omega) hsr,u4 (by simp;omega),p0,if_neg (by omega)];exact r3
   ·rw [hmap];exact ar5.keep (by simp) (by rw [p0,if_neg (fun e=>hs50 (by rw [hs5,← e];rfl))])
   ·rcases k3 b hb with e | e
    ·exact (hsq b e).2.2
    ·omega
  simp only [c8] at e5
  simp only [D6] at e2
  have hn1:¬ h.next = g1.next:=by omega
  have hn2:¬ g1.next = g3.next:=by omega
  have hn3:¬ h.next = g3.next:=by omega
  generalize hA2:a++[(⟨xn,xr⟩:Named)] = A2 at *
  by_cases ha0:a.length = 0
  ·have hz:∀ (u:TypeId) (h':H),O7 s (some (.slice u)) h' = some (one (ii 0) h'):=fun u h'=>by rw [hla,ha0];rfl
   first | (refine c7 ?_;intro Q2 hQ2) | have hQ2:=oqk
   repeat' (first
    | (replace hQ2:=hQ2;simp [hd2,e1',e2,c0A,fd,hn1,hnm2,hlr,hlzb,w23,hz,e5,f5,hdec])
    | (refine hQ2 _ _ _ ?_;clear hQ2 Q2;first | simp only [] | skip)
    | (refine C5 (by assumption) ?_;(try clear hQ2);first | simp only [] | skip)
    | ((fail_if_success replace hQ2:=hQ2);(first | refine c7 ?_ | refine y5 ?_ | refine y3 ?_);intro Q2 hQ2)
    | (first | refine dF (id:=10) [0,1,2,3,4,5,6,7,8,9,10,11,12,13,14,15,16,17,18,19,20,21,22,23,24,25,26,27,28] [] ?_ | refine dF (id:=12) [0,1,2,3,4,5,6,7,8,9,10] [] ?_))
   exact ⟨fin,s9 (by simp)⟩
  ·have ha1:0 < a.length:=by omega
   obtain ⟨b,v,z,rfl,ar⟩:∃ b v z,s = .slc b v 0 a.length 2 none∧Arr (g3.set g1.next ⟨0,[2],true,[.str xn,sl 2 j9 NR]⟩) c8 b v (a.map C8) z:=by
    rcases w34 with ⟨_,e⟩ | ⟨b,v,z,e,ar⟩
    ·exact absurd (by simpa using congrArg List.length e) ha0
    ·exact ⟨b,v,z,by rw [e,oqi],ar⟩
   have hil:a.length - 1 < (a.map C8).length:=by simp;omega
   obtain ⟨fx,ex,Mc,m1,m2,m3⟩:=x0R ar hil
   have x1:=O5 (P:=prog) (size:=2) (b:=b) (v:=v) (n:=a.length) (i:=a.length - 1) underlying48 (by simp) (by omega) (by omega)
   have hlt2:Op.bytesLess (a.map C8)[a.length - 1].name xn = true:=by
    have:=(P4 a0u).1 hs2 (a.length - 1) a.length (by omega) (by simp)
    rw [List.getElem_append_left (by omega),List.getElem_append_right (oqg _)] at this
    simpa [d0G,blt,C8] using this
   obtain ⟨N1,hN1⟩:∃ N1,(a.map C8)[a.length - 1].name = N1:=⟨_,rfl⟩
   rw [hN1] at m3 hlt2
   have hsub:IntKind.i64.wrap ((a.length:Int) - 1) = ((a.length - 1:Nat):Int):=by rw [wrap_i64 (by omega) (by omega)];omega
   have hbn:¬ b = g1.next:=by have:=hsq b rfl;omega
   rw [p0,if_neg hbn] at m1
   clear hN1
   clear hil
   generalize hal:a.length - 1 = al at *
   first | (refine c7 ?_;intro Q3 hQ3) | have hQ3:=oqk
   repeat' (first
    | (replace hQ3:=hQ3;simp [bin,b0J,f0O,a0c,J7,hd2,e1',e2,c0A,fd,hn1,hnm2,hlr,hlzb,w23,ha1,hsub,x1,m1,m2,m3,hbn,hlt2,e5,f5,hdec])
    | (refine hQ3 _ _ _ ?_;clear hQ3 Q3;first | simp only [] | skip)
    | (refine C5 (by assumption) ?_;(try clear hQ3);first | simp only [] | skip)
    | ((fail_if_success replace hQ3:=hQ3);(first | refine c7 ?_ | refine y5 ?_ | refine y3 ?_);intro Q3 hQ3)
    | (first | refine dF (id:=10) [0,1,2,3,4,5,6,7,8,9,10,11,12,13,14,15,16,17,18,19,20,21,22,23,24,25,26,27,28] [] ?_ | refine dF (id:=12) [0,1,2,3,4,5,6,7,8,9,10] [] ?_))
   exact ⟨fin,s9 (by simp)⟩
 ·rintro fr hh ⟨⟨i1,i2,i3,i4,q1,i5,i6⟩,j,rfl⟩
  simp only [List.flatMap_nil,oql] at i3
  first | (refine c7 ?_;intro Q4 hQ4) | have hQ4:=oqk
  repeat' (first
   | (replace hQ4:=hQ4;simp)
   | (refine hQ4 _ _ _ ?_;clear hQ4 Q4;first | simp only [] | simp | skip)
   | (refine C5 (by assumption) ?_;(try clear hQ4);first | simp only [] | simp | skip)
   | ((fail_if_success replace hQ4:=hQ4);(first | refine c7 ?_ | refine y5 ?_ | refine y3 ?_);intro Q4 hQ4)
   | (first | refine dF (id:=10) [0,1,2,3,4,5,6,7,8,9,10,11,12,13,14,15,16,17,18,19,20,21,22,23,24,25,26,27,28] [] ?_ | refine dF (id:=12) [0,1,2,3,4,5,6,7,8,9,10] [] ?_))
  rw [hP]
  refine ⟨hh,q1,rfl,by omega,i3,i2,i5, ?_⟩
  cases q1 with
  | none=>exact ⟨by simp,fun x hx=>by simp at hx;omega⟩
  | some y =>
   have:=i6 y rfl
   have h3:y < hh.next:=i5.lt rfl
   exact ⟨by simp;omega,fun x hx=>by simp at hx;omega⟩
def l0I (l:BL):Option (Span × BL):=(j0y 16 l).bind fun x=>(j0y 16 x.2).bind fun y=>if H5 ⟨x.1,y.1⟩ then some (⟨x.1,y.1⟩,y.2) else none
theorem p0K:f0S K rT 150 [] l0I (fun s=>.agg (H7 s)):=by
 have hsr:=Y0
 have hfl:=j0K
 intro h q o w
 have hk:=oqk
 refine H6 hp rfl rfl rfl func150 rfl (by simp [Tryz.f150]) ?_
 simp only [Tryz.f150]
 refine c7 ?_;intro Q1 hQ1
 repeat' (first
  | (replace hQ1:=hQ1;simp [hfl,hk])
  | refine hQ1 _ _ _ ?_
  | ((with_reducible refine N0 ?_);first
   | (refine c0d (j0u 16 (by omega)) (by first | assumption | exact RS.new (by assumption) _ | exact RS.set0 (by assumption) (by omega) _ | exact RS.set0 (RS.new (by assumption) _) (by omega) _ | exact RS.new (RS.new (by assumption) _) _ | exact RS.new (RS.set0 (by assumption) (by omega) _) _ | exact RS.set0 (RS.swap (by assumption)) (by omega) _ | exact RS.set0 (RS.swap (RS.set0 (by assumption) (by omega) _)) (by omega) _ | exact RS.set0 (RS.new (RS.new (by assumption) _) _) (by omega) _) (fun v l h' hpe ws' hk=>?_) (fun hpe h' o' ws'=>?_) <;> (have hnx:=ws'.next) <;> (try simp only [H1] at hpe) <;> (try simp only [g0k,F6,c0L,d0Q,and_true] at hk) <;> (try simp [c0A,hsr,hk])))
  | (first | apply cF | apply wN | apply wS) <;> intro hcnd <;> (try simp only [hcnd]) <;> (try simp [-List.isEmpty_iff,-List.isEmpty_eq_false_iff] at hcnd))
 all_goals first | exact g0P (by simp [l0I, *]) (by first | assumption | exact RS.new (by assumption) _ | exact RS.set0 (by assumption) (by omega) _ | exact RS.set0 (RS.new (by assumption) _) (by omega) _ | exact RS.new (RS.new (by assumption) _) _ | exact RS.new (RS.set0 (by assumption) (by omega) _) _ | exact RS.set0 (RS.swap (by assumption)) (by omega) _ | exact RS.set0 (RS.swap (RS.set0 (by assumption) (by omega) _)) (by omega) _ | exact RS.set0 (RS.new (RS.new (by assumption) _) _) (by omega) _) | (refine w0j (by first | assumption | exact RS.new (by assumption) _ | exact RS.set0 (by assumption) (by omega) _ | exact RS.set0 (RS.new (by assumption) _) (by omega) _ | exact RS.new (RS.new (by assumption) _) _ | exact RS.new (RS.set0 (by assumption) (by omega) _) _ | exact RS.set0 (RS.swap (by assumption)) (by omega) _ | exact RS.set0 (RS.swap (RS.set0 (by assumption) (by omega) _)) (by omega) _ | exact RS.set0 (RS.new (RS.new (by assumption) _) _) (by omega) _) (by simp [l0I, *];first | exact ⟨rfl,rfl⟩ | rfl) ?_;first | rfl | simp [l0I, *])
theorem t0p {s:Span} (ok:H5 s = true) (l:BL):l0I (I9 s++l) = some (s,l):=by
 obtain ⟨lo,hi⟩:=s
 have h:=ok
 simp only [H5,oqd,oqj] at h
 simp only [I9,oqh,l0I]
 rw [b0k h.1.1 (by omega)]
 simp only [oqS]
 rw [b0k h.1.2 (by omega)]
 simp [ok]
theorem z0M (a:BL):blt a a = false:=X9 a
theorem x0x {l:List Named} (ok:TblOk l) {k:Nat} (hk:k < l.length):tix l l[k].name = k:=by
 have h1:=m0T ok.srt l[k].name k hk
 rw [d0n,z0M] at h1
 have h3:¬ k < tix l l[k].name:=fun e=>by have:=h1.1 e;cases this
 rcases Nat.eq_zero_or_pos k with h0 | h0
 ·omega
 ·have h2:=m0T ok.srt l[k].name (k - 1) (by omega)
  rw [d0n] at h2
  have:=h2.2 ((P4 a0u).1 ok.srt (k - 1) k (by omega) hk)
  omega
theorem z0I (l:List Named):tix l [] = 0:=by
 unfold tix
 cases l with
 | nil=>rfl
 | cons a l =>
  have:blt a.name [] = false:=by cases a.name <;> rfl
  simp [this]
theorem z0Q {h:H} {p:Nat} {l:List Named} {q:Option Nat} (w:Bx h p 2 c8 l q) (ok:TblOk l):W K 43 [.one (.ptr p 0 0),.one (.str []),.one (.str [])] h = some (.ret (.one (sl 2 c8 (nz l))) h):=by
 have hlen:=ok.len
 have key:∃ r,W K 43 [.one (.ptr p 0 0),.one (.str []),.one (.str [])] h = some r∧r = .ret (.one (sl 2 c8 (nz l))) h:=by
  refine N4 hp rfl rfl rfl rfl func43 rfl (by simp [Tryz.f43]) ?_
  simp only [Tryz.f43]
  refine c7 ?_;intro Q1 hQ1
  repeat' (first
   | (replace hQ1:=hQ1;simp)
   | refine hQ1 _ _ _ ?_)
  refine a0L hp (fun n fr hh=>Kept h hh∧∃ i lo s1,tix l lo = i∧i ≤ l.length∧n = l.length - i∧Sl hh 2 c8 s1 (l.take i)∧(s1 = .nilslc ∨ l.take i ≠ [])∧(∀ b,z0 s1 = some b→h.next ≤ b)∧∃ j:Nat→AV,fr = ((.one (.ptr p 0 0))::(.one (.str lo))::(.one (.str []))::j 3::j 4::j 5::j 6::(.one s1)::j 8::j 9::j 10::j 11::j 12::j 13::j 14::j 15::j 16::j 17::j 18::j 19::j 20::j 21::j 22::j 23::[])) ?_ l.length _ _ ?_
  rotate_left
  ·exact ⟨b0g h,0,[],.nilslc,z0I l,by omega,rfl,.inl ⟨rfl,by simp⟩,.inl rfl,by simp [z0],s9 (by simp)⟩
  ·rintro n fr hh ⟨kk,i,lo,s1,i1,i2,i3,i4,i5,i6,j,rfl⟩
   have hn:=kk.1
   have wB:Bx hh p 2 c8 l q:=w.keep hn (kk.2 p w.1) fun b hb=>kk.2 b (w.lt hb)
   have hr:=o0B wB ok lo [] 16
   obtain ⟨rg,hrg⟩:∃ rg,T8 l lo [] 16 = rg:=⟨_,rfl⟩
   rw [hrg] at hr
   unfold T8 at hrg
   simp only [i1,if_true] at hrg
   have hm:((max 0 (min (16:Int) 16)).toNat) = 16:=by decide
   rw [hm] at hrg
   by_cases hi:l.length ≤ i
   ·rw [if_pos hi] at hrg
    subst hrg
    simp only [v0f] at hr
    have hil:i = l.length:=by omega
    subst hil
    rw [List.take_length] at i4 i5
    have hap:S5 prog 48 48 hh s1 .nilslc = some (s1,hh):=by
     rw [V9 (size:=2) (el:=83) (x:=.nilslc) (m:=0) (new:=[]) (u:=48) (by simp) (by simp) Tryz.bytes83 underlying48 rfl rfl]
     rcases i4 with ⟨rfl,_⟩ | ⟨bb,vv,zz,rfl,_⟩ <;> simp [J3]
    have hsn:sl 2 c8 none = .nilslc:=rfl
    rw [hsn] at hr
    have hr':W K 83 [.one (.ptr p 0 0),.one (.str lo),.one (.str []),.one (.int .i64 16)] hh = some (.ret (.tup [(false,[.nilslc]),(false,[.str []])]) hh):=hr
    first | (refine c7 ?_;intro Q2 hQ2) | have hQ2:=oqk
    repeat' (first
     | (replace hQ2:=hQ2;simp [J7,hr',hap])
     | (refine hQ2 _ _ _ ?_;clear hQ2 Q2;first | simp only [] | simp [J7,hr',hap] | skip)
     | (refine C5 (by assumption) ?_;(try clear hQ2);first | simp only [] | simp [J7] | skip)
     | ((fail_if_success replace hQ2:=hQ2);(first | refine c7 ?_ | refine y5 ?_ | refine y3 ?_);intro Q2 hQ2))
    exact n0l z9 b0X i4 i6 i5 kk rfl
   ·rw [if_neg hi,List.take_length] at hrg
    obtain ⟨D,hD⟩:∃ D,l.drop i = D:=⟨_,rfl⟩
    rw [hD] at hrg
    have hDl:D.length = l.length - i:=by rw [← hD,List.length_drop]
    have hl2:l = l.take i++D:=by rw [← hD,List.take_append_drop]
    have app:∀ m:List Named,m ≠ []→m.length ≤ 32→∃ s2 h2,S5 prog 48 48 hh s1 (sl 2 c8 (some m)) = some (s2,h2)∧Sl h2 2 c8 s2 (l.take i++m)∧Kept h h2∧∀ b,z0 s2 = some b→h.next ≤ b:=by
     intro m hm hml
     obtain ⟨s2,h2,e,⟨b,v,z,hs2,ar⟩,k1,k2,k3⟩:=N9 (P:=prog) (t:=48) underlying48 (by simp) (by simp) Tryz.bytes83 (by omega) z9 (a:=sl 2 c8 (some m)) (m:=m) i4 (by simp [sl,P5]) (k0p z9 (by omega) hh (some m)) hm (by simp only [J6,oqo];omega)
     refine ⟨s2,h2,e,.inr ⟨b,v,z,hs2,ar⟩,⟨by omega,fun b hb=>?_⟩,fun b hb=>?_⟩
     ·rw [k2 b (by omega) (fun e=>by have:=i6 b e;omega)];exact kk.2 b hb
     ·rcases k3 b hb with e | e
      ·exact i6 b e
      ·omega
    have hDn:D ≠ []:=fun e=>by rw [e] at hDl;simp at hDl;omega
    by_cases h16:D.length ≤ 16
    ·rw [if_pos h16] at hrg
     subst hrg
     rw [f0Z hDn] at hr
     obtain ⟨s2,h2,e2,a1,a2,a3⟩:=app D hDn (by omega)
     rw [← hl2] at a1
     have hr':W K 83 [.one (.ptr p 0 0),.one (.str lo),.one (.str []),.one (.int .i64 16)] hh = some (.ret (.tup [(false,[sl 2 c8 (some D)]),(false,[.str []])]) hh):=hr
     first | (refine c7 ?_;intro Q3 hQ3) | have hQ3:=oqk
     repeat' (first
      | (replace hQ3:=hQ3;simp [J7,hr',e2])
      | (refine hQ3 _ _ _ ?_;clear hQ3 Q3;first | simp only [] | simp [J7,hr',e2] | skip)
      | (refine C5 (by assumption) ?_;(try clear hQ3);first | simp only [] | simp [J7] | skip)
      | ((fail_if_success replace hQ3:=hQ3);(first | refine c7 ?_ | refine y5 ?_ | refine y3 ?_);intro Q3 hQ3))
     exact n0l z9 b0X a1 a3 (.inr (fun e=>by rw [e] at hlen hi;simp at hi)) a2 rfl
    ·rw [if_neg h16] at hrg
     have h16':16 < D.length:=by omega
     rw [List.getElem?_eq_getElem h16'] at hrg
     simp only at hrg
     subst hrg
     have hil:i + 16 < l.length:=by omega
     have hxe:D[16] = l[i + 16]:=by simp only [← hD];rw [List.getElem_drop]
     have hD16:D.take 16 ≠ []:=fun e=>by have:=congrArg List.length e;rw [oqo,oqc] at this;omega
     rw [f0Z hD16,hxe] at hr
     obtain ⟨s2,h2,e2,a1,a2,a3⟩:=app (D.take 16) hD16 (by simp;omega)
     have htk:l.take i++D.take 16 = l.take (i + 16):=by rw [← hD,List.take_add]
     rw [htk] at a1
     have hnx:=x0x ok hil
     have hnn:=ok.nm _ (List.getElem_mem hil)
     obtain ⟨N,hN⟩:∃ N,l[i + 16].name = N:=⟨_,rfl⟩
     rw [hN] at hr hnx hnn
     have hNe:N ≠ []:=fun e=>by rw [e] at hnn;simp [I6] at hnn
     have hNb:(N == []) = false:=by simp [hNe]
     have hr':W K 83 [.one (.ptr p 0 0),.one (.str lo),.one (.str []),.one (.int .i64 16)] hh = some (.ret (.tup [(false,[sl 2 c8 (some (D.take 16))]),(false,[.str N])]) hh):=hr
     generalize sl 2 c8 (some (D.take 16)) = Z at *
     first | (refine c7 ?_;intro Q4 hQ4) | have hQ4:=oqk
     repeat' (first
      | (replace hQ4:=hQ4;simp [J7,hNb,hr',e2])
      | (refine hQ4 _ _ _ ?_;clear hQ4 Q4;first | simp only [] | simp [J7,hNe,hNb,hr',e2] | skip)
      | (refine C5 (by assumption) ?_;(try clear hQ4);first | simp only [] | simp [J7,hNe,hNb,hr',e2] | skip)
      | ((fail_if_success replace hQ4:=hQ4);(first | refine c7 ?_ | refine y5 ?_ | refine y3 ?_);intro Q4 hQ4))
     exact ⟨l.length - (i + 16),by omega,a2,i + 16,N,s2,hnx,by omega,rfl,a1,.inr (fun e=>by have:=congrArg List.length e;rw [oqo,oqc] at this;omega),a3,s9 (by simp)⟩
 obtain ⟨r,e,rfl⟩:=key
 exact e
theorem d0s {v:Wm.Value} (hc:J4 v = v):J4 (a0s v) = a0s v:=by
 unfold a0s
 split
 ·simp [J4]
 ·exact hc
theorem n0K {o:Row} (h:RowRd o):rowCopy (J0 o) = J0 o:=by
 have hB:P3 (J0 o) = true:=by rw [d0R];exact h.ok
 unfold rowCopy
 rw [if_pos hB]
 unfold J0
 rw [a0d,List.map_map]
 congr 1
 refine List.map_congr_left fun c hc=>?_
 have hcR:=h.c c hc
 simp only [Function.comp,S3,F5,a0d,List.map_map]
 congr 2
 refine List.map_congr_left fun x hx=>?_
 simp only [Function.comp,X7,H3]
 rw [d0s (hcR.v x hx).c]
theorem r0O {l:List Named} (ok:TblOk l) (okr:∀ x ∈ l,RowRd x.r):TblOk (l.map C8) where
 srt:=by rw [b0h (r:=d0G) (s:=d0G) (f:=C8) (fun a b=>rfl)];exact ok.srt
 nm x hx:=by obtain ⟨y,hy,rfl⟩:=List.mem_map.1 hx;exact ok.nm y hy
 row x hx:=by
  obtain ⟨y,hy,rfl⟩:=List.mem_map.1 hx
  refine ⟨n0K (okr y hy),fun e=>?_⟩
  have h1:=(ok.row y hy).1
  have h2:=(ok.row y hy).2
  have h3:ls y.r = []:=by
   have:ls (J0 y.r) = []:=by rw [show J0 y.r = none from e];rfl
   simpa [J0] using this
  unfold rowCopy at h1
  rw [if_pos (okr y hy).ok,h3] at h1
  exact h2 h1.symm
 len:=by simpa using ok.len
abbrev a0l (sp:Span) (gen:Int) (fr:Bool) (pr pc:AS):Blk:=⟨0,[6],true,[.str sp.lo,.str sp.hi,ii gen,.bool fr,pr,pc]⟩
theorem t0M {h:H} {q:Nat} {sp:Span} {gen:Int} {l:List Named} {c:List Tld} {rest:BL} (os:H5 sp = true) (og:1 ≤ gen∧gen ≤ 1073741824) (ok:TblOk l) (okr:∀ x ∈ l,RowRd x.r) (okc:CchOk c) (hin:∀ x ∈ l,K8 sp x.name = true) (hq:q < h.next)
  (hf:h.f q = some (rdB (some (I9 sp++(L7 gen++(c0q l++(b0C c++rest))))))) (hroom:(I9 sp++(L7 gen++(c0q l++(b0C c++rest)))).length ≤ 1099511627776) :
  ∃ r,W K 97 [.one (.ptr q 0 0)] h = some r∧∃ h' d pr pc qr qc,r = .ret (.one (.ptr d 0 0)) h'∧h'.f q = some (rdB (some rest))∧(∀ b,b < h.next→b ≠ q→h'.f b = h.f b)∧h'.f d = some (a0l sp gen false (.ptr pr 0 0) (.ptr pc 0 0))∧Bx h' pr 2 c8 (l.map C8) qr∧Bx h' pc 3 G9 (c.map V5) qc∧k0y h h' (d::pr::pc::(qr.toList++qc.toList)):=by
 obtain ⟨P,hP⟩:∃ P:CR→Prop,P = fun r=>∃ h' d pr pc qr qc,r = .ret (.one (.ptr d 0 0)) h'∧h'.f q = some (rdB (some rest))∧(∀ b,b < h.next→b ≠ q→h'.f b = h.f b)∧h'.f d = some (a0l sp gen false (.ptr pr 0 0) (.ptr pc 0 0))∧Bx h' pr 2 c8 (l.map C8) qr∧Bx h' pc 3 G9 (c.map V5) qc∧k0y h h' (d::pr::pc::(qr.toList++qc.toList)):=⟨_,rfl⟩
 suffices hh:∃ r,W K 97 [.one (.ptr q 0 0)] h = some r∧P r by rw [hP] at hh;exact hh
 obtain ⟨lo,hi⟩:=sp
 obtain ⟨g1,e1,n1,r1,t1⟩:=X5 p0K (h:=h) (q:=q) hq hf hroom (t0p os _)
 have hr1:(L7 gen++(c0q l++(b0C c++rest))).length ≤ 1099511627776:=by rw [oqa] at hroom;omega
 have h32:u32 gen < 256 ^ 4:=by unfold u32;omega
 have hu32:=s0a (s:=gen) (by omega)
 obtain ⟨g3,e3,n3,r3,t3⟩:=X5 o0z (h:=g1.new ⟨0,[6],true,[.str lo,.str hi,ii 0,.bool false,.nilptr,.nilptr]⟩) (q:=q) (by simp;omega) (by rw [u4 (by omega)];exact r1) hr1 (d0u h32 _)
 simp only [A1] at n3 t3
 have hr3:(c0q l++(b0C c++rest)).length ≤ 1099511627776:=by rw [oqa] at hr1;omega
 have fd3:g3.f g1.next = some ⟨0,[6],true,[.str lo,.str hi,ii 0,.bool false,.nilptr,.nilptr]⟩:=by rw [t3 _ (by omega) (by omega)];simp
 obtain ⟨_,e5,g5,qr,rfl,n5,r5,t5,b5,w5⟩:=q0K (h:=g3.set g1.next ⟨0,[6],true,[.str lo,.str hi,ii gen,.bool false,.nilptr,.nilptr]⟩) (q:=q) ok okr (by simp;omega) (by rw [p0,if_neg (by omega)];exact r3) hr3
 simp only [c0O] at e5 n5 t5 b5 w5
 have hr5:(b0C c++rest).length ≤ 1099511627776:=by rw [oqa] at hr3;omega
 have fd5:g5.f g1.next = some ⟨0,[6],true,[.str lo,.str hi,ii gen,.bool false,.nilptr,.nilptr]⟩:=by rw [t5 _ (by omega) (by omega)];simp
 obtain ⟨_,e7,g7,qc,rfl,n7,r7,t7,b7,w7⟩:=q0g (h:=g5.set g1.next ⟨0,[6],true,[.str lo,.str hi,ii gen,.bool false,.ptr g3.next 0 0,.nilptr]⟩) (q:=q) okc (by simp;omega) (by rw [p0,if_neg (by omega)];exact r5) hr5
 simp only [c0O] at e7 n7 t7 b7 w7
 have hb5:=b5.1
 have fd7:g7.f g1.next = some ⟨0,[6],true,[.str lo,.str hi,ii gen,.bool false,.ptr g3.next 0 0,.nilptr]⟩:=by rw [t7 _ (by omega) (by omega)];simp
 have w5':∀ b,qr = some b→g3.next < b∧b < g5.next:=fun b hb=>by
  subst hb
  have h1:=w5.1
  have h2:=w5.2 b (by simp)
  simp only [c0O] at h2
  refine ⟨?_,h2.2⟩
  have:g3.next ≠ b:=fun e=>by subst e;simp at h1
  omega
 have b8:Bx (g7.set g1.next ⟨0,[6],true,[.str lo,.str hi,ii gen,.bool false,.ptr g3.next 0 0,.ptr g5.next 0 0]⟩) g3.next 2 c8 (l.map C8) qr:=b5.keep (by simp;omega) (by rw [p0,if_neg (by omega),t7 _ (by omega) (by omega),p0,if_neg (by omega)]) fun b hb=>by
  have:=w5' b hb
  rw [p0,if_neg (by omega),t7 _ (by omega) (by omega),p0,if_neg (by omega)]
 have okn:=r0O ok okr
 have hall:=z0Q b8 okn
 have hw1:IntKind.i64.wrap gen = gen:=wrap_i64 (by omega) (by omega)
 have hcv:∀ h,A5 prog 138 3 (.int .u32 ((u32 gen:Nat):Int)) h = some (.val (.one (ii gen)) h):=fun h=>by simp [A5,hu32,hw1]
 simp only [H7] at e1
 have hla:∀ (u:TypeId) (h':H),O7 (sl 2 c8 (nz (l.map C8))) (some (.slice u)) h' = some (one (ii (l.map C8).length) h'):=fun u h'=>by rw [O8];simp
 have hinN:∀ x ∈ l.map C8,K8 ⟨lo,hi⟩ x.name = true:=fun x hx=>by obtain ⟨y,hy,rfl⟩:=List.mem_map.1 hx;exact hin y hy
 have hN32:=okn.len
 have w7':∀ b,qc = some b→g5.next < b∧b < g7.next:=fun b hb=>by
  subst hb
  have h1:=w7.1
  have h2:=w7.2 b (by simp)
  simp only [c0O] at h2
  refine ⟨?_,h2.2⟩
  have:g5.next ≠ b:=fun e=>by subst e;simp at h1
  omega
 have hb7:=b7.1
 obtain ⟨G,hG⟩:∃ G,g7.set g1.next ⟨0,[6],true,[.str lo,.str hi,ii gen,.bool false,.ptr g3.next 0 0,.ptr g5.next 0 0]⟩ = G:=⟨_,rfl⟩
 have Gn:G.next = g7.next:=by rw [← hG];simp
 have Gd:G.f g1.next = some ⟨0,[6],true,[.str lo,.str hi,ii gen,.bool false,.ptr g3.next 0 0,.ptr g5.next 0 0]⟩:=by rw [← hG];simp
 have Gq:G.f q = some (rdB (some rest)):=by rw [← hG,p0,if_neg (by omega)];exact r7
 have Gf:∀ b,b < h.next→b ≠ q→G.f b = h.f b:=fun b hb hbq=>by rw [← hG,p0,if_neg (by omega),t7 b (by omega) hbq,p0,if_neg (by omega),t5 b (by omega) hbq,p0,if_neg (by omega),t3 b (by omega) hbq,u4 (by omega),t1 b hb hbq]
 have b9:Bx G g5.next 3 G9 (c.map V5) qc:=b7.keep (by omega) (by rw [← hG,p0,if_neg (by omega)]) fun b hb=>by have:=w7' b hb;rw [← hG,p0,if_neg (by omega)]
 have hg1:decide (gen < 1) = false:=by simp;omega
 have hg2:¬ gen < 1:=by omega
 have hnews:∀ H2:H,g7.next ≤ H2.next→k0y h H2 (g1.next::g3.next::g5.next::(qr.toList++qc.toList)):=fun H2 hH2=>by
  cases qr with
  | none =>
   cases qc with
   | none=>exact ⟨by simp;omega,fun x hx=>by simp at hx;omega⟩
   | some y=>have:=w7' y rfl;exact ⟨by simp;omega,fun x hx=>by simp at hx;omega⟩
  | some x =>
   have:=w5' x rfl
   cases qc with
   | none=>exact ⟨by simp;omega,fun x hx=>by simp at hx;omega⟩
   | some y=>have:=w7' y rfl;exact ⟨by simp;omega,fun x hx=>by simp at hx;omega⟩
 rw [hG] at b8 hall
 generalize hLN:l.map C8 = LN at *
 refine H6 hp rfl rfl rfl func97 rfl (by simp [Tryz.f97]) ?_
 simp only [Tryz.f97]
 refine c7 ?_;intro Q1 hQ1
 repeat' (first
  | (replace hQ1:=hQ1;simp [e1,e3,hcv,fd3,e5,fd5,e7,fd7,hG,Gd,hall,hla])
  | refine hQ1 _ _ _ ?_
  | refine dF (id:=8) [0,1,2,3,4,5,6,7] [] ?_)
 refine D5 hp LN (fun a r fr hh=>(G.next ≤ hh.next∧∀ b,b < G.next→hh.f b = G.f b)∧∃ j:Nat→AV,fr = (j 0::j 1::j 2::(.one (.ptr g1.next 0 0))::j 4::j 5::j 6::j 7::j 8::j 9::j 10::j 11::j 12::j 13::j 14::j 15::j 16::j 17::j 18::j 19::j 20::j 21::j 22::j 23::j 24::j 25::j 26::j 27::j 28::j 29::(.one (sl 2 c8 (nz LN)))::(.one (ii LN.length))::(.one (ii a.length))::j 33::j 34::j 35::j 36::j 37::j 38::j 39::j 40::j 41::j 42::j 43::j 44::j 45::j 46::j 47::j 48::j 49::j 50::j 51::j 52::j 53::j 54::[])) ?_ ?_ _ _ ?_
 rotate_left 2
 ·exact ⟨⟨oqg _,fun _ _=>rfl⟩,s9 (by simp)⟩
 ·rintro a x r fr hh hll ⟨⟨i1,i2⟩,j,rfl⟩
  have hil:a.length < LN.length:=by rw [hll];simp
  have hnz:nz LN = some LN:=f0Z (fun e=>by rw [e] at hil;simp at hil)
  have hix:=I4 (P:=prog) (enc:=c8) (s:=2) (l:=LN) (i:=a.length) underlying48 (by simp) (by omega) hil
  have hrd:=F3 (enc:=c8) (s:=2) z9 a x r (o:=0) (n:=2) (by omega)
  rw [← hll] at hrd
  simp only [Nat.add_zero,I8 (z9 _)] at hrd
  have hxi:=hinN x (by rw [hll];simp)
  obtain ⟨xn,xr⟩:=x
  have hHas:=f0s lo hi xn
  rw [hxi] at hHas
  simp only [c8] at hrd
  have fdh:hh.f g1.next = some ⟨0,[6],true,[.str lo,.str hi,ii gen,.bool false,.ptr g3.next 0 0,.ptr g5.next 0 0]⟩:=by rw [i2 _ (by omega)];exact Gd
  have hne1:¬ g1.next = hh.next:=by omega
  have hw:IntKind.i64.wrap ((a.length:Int) + 1) = ((a++[(⟨xn,xr⟩:Named)]).length:Int):=by rw [J9];exact D3 (by omega)
  generalize hA2:a++[(⟨xn,xr⟩:Named)] = A2 at *
  rw [hnz]
  first | (refine c7 ?_;intro Q2 hQ2) | have hQ2:=oqk
  repeat' (first
   | (replace hQ2:=hQ2;simp [hix,hrd,hil,hHas,fdh,hne1,hw])
   | (refine hQ2 _ _ _ ?_;clear hQ2 Q2;first | simp only [] | simp [hix,hrd,hil,hHas,fdh,hne1,hw] | skip)
   | (refine C5 (by assumption) ?_;(try clear hQ2);first | simp only [] | simp [hix,hrd,hil,hHas,fdh,hne1,hw] | skip)
   | ((fail_if_success replace hQ2:=hQ2);(first | refine c7 ?_ | refine y5 ?_ | refine y3 ?_);intro Q2 hQ2)
   | refine dF (id:=8) [0,1,2,3,4,5,6,7] [] ?_)
  exact ⟨⟨by simp;omega,fun b hb=>by rw [u4 (by omega)];exact i2 b hb⟩,s9 (by simp)⟩
 ·rintro fr hh ⟨⟨i1,i2⟩,j,rfl⟩
  have fdh:hh.f g1.next = some ⟨0,[6],true,[.str lo,.str hi,ii gen,.bool false,.ptr g3.next 0 0,.ptr g5.next 0 0]⟩:=by rw [i2 _ (by omega)];exact Gd
  first | (refine c7 ?_;intro Q3 hQ3) | have hQ3:=oqk
  repeat' (first
   | (replace hQ3:=hQ3;simp [fdh,hg2])
   | (refine hQ3 _ _ _ ?_;clear hQ3 Q3;first | simp only [] | simp [fdh,hg1,hg2] | skip)
   | (refine C5 (by assumption) ?_;(try clear hQ3);first | simp only [] | simp [fdh] | skip)
   | ((fail_if_success replace hQ3:=hQ3);(first | refine c7 ?_ | refine y5 ?_ | refine y3 ?_);intro Q3 hQ3)
   | refine dF (id:=8) [0,1,2,3,4,5,6,7] [] ?_)
  rw [hP]
  exact ⟨hh,g1.next,g3.next,g5.next,qr,qc,rfl,by rw [i2 _ (by omega)];exact Gq,fun b hb hbq=>by rw [i2 b (by omega)];exact Gf b hb hbq,fdh,b8.keep i1 (i2 _ b8.1) fun b hb=>i2 b (b8.lt hb),b9.keep i1 (i2 _ b9.1) fun b hb=>i2 b (b9.lt hb),hnews hh (by omega)⟩
def Z7 (sp:Span) (gen:Int) (l:List Named) (c:List Tld):BL:=I9 sp++(L7 gen++(c0q l++b0C c))
theorem Apart.keep {t p:Nat} {tq q q':Option Nat} {h h':H} (a:Apart t tq p q) (o:Only h h' p q q') (ht:t < h.next) (hq:∀ b,tq = some b→b < h.next):Apart t tq p q' where
 tp:=a.tp
 qt:=by
  rcases o.own with e | ⟨y,e,hy⟩
  ·rw [e];exact a.qt
  ·rw [e];intro hc;cases hc;omega
 bp:=a.bp
 qb b hb:=by
  rcases o.own with e | ⟨y,e,hy⟩
  ·rw [e];exact a.qb b hb
  ·rw [e];intro hc;cases hc;have:=hq _ hb;omega
theorem m0I {α:Type} {h h':H} {t p size:Nat} {enc:α→List AS} {l:List α} {tq q q':Option Nat} (b:Bx h t size enc l tq) (a:Apart t tq p q) (o:Only h h' p q q'):Bx h' t size enc l tq :=
 b.keep o.next (o.keep t b.1 a.tp a.qt) fun x hx=>o.keep x (b.lt hx) (fun e=>a.bp (by rw [hx,e])) (a.qb x hx)
theorem B0i {h:H} {p d pr pc:Nat} {q qr qc:Option Nat} {x:BL} {sp:Span} {gen:Int} {fr:Bool} {l:List Named} {c:List Tld} (w:Wr h p q x) (os:H5 sp = true) (hd:h.f d = some (a0l sp gen fr (.ptr pr 0 0) (.ptr pc 0 0))) (hdn:d < h.next) (hdp:d ≠ p) (hdq:q ≠ some d)
  (br:Bx h pr 2 c8 l qr) (bc:Bx h pc 3 G9 c qc) (ok:TblOk l) (okc:CchOk c) (ar:Apart pr qr p q) (ac:Apart pc qc p q) (hl:x.length + (Z7 sp gen l c).length ≤ 1099511627776) :
  ∃ h' q',W K 58 [.one (.ptr d 0 0),.one (.ptr p 0 0)] h = some (.ret (.tup []) h')∧Wr h' p q' (x++Z7 sp gen l c)∧Only h h' p q q':=by
 obtain ⟨lo,hi⟩:=sp
 have hs:=os
 simp only [H5,oqd,oqj] at hs
 simp only [Z7,oqa] at hl
 obtain ⟨h1,q1,e1,w1,o1⟩:=v0q lo hi (by omega) (by omega) h p q x w (by omega)
 obtain ⟨h2,q2,e2,w2,o2⟩:=k0z gen h1 p q1 _ w1 (by simp only [oqa];omega)
 have o12:=o1.trans o2
 have br2:=m0I br ar o12
 have bc2:=m0I bc ac o12
 have ar2:=ar.keep o12 br.1 fun b hb=>br.lt hb
 have ac2:=ac.keep o12 bc.1 fun b hb=>bc.lt hb
 obtain ⟨h3,q3,e3,w3,o3⟩:=B0j w2 br2 ok ar2 (by simp only [oqa];omega)
 have bc3:=m0I bc2 ac2 o3
 have ac3:=ac2.keep o3 bc2.1 fun b hb=>bc2.lt hb
 obtain ⟨h4,q4,e4,w4,o4⟩:=B0Q w3 bc3 okc ac3 (by simp only [oqa];omega)
 have o13:=o12.trans o3
 have f1:h1.f d = _:=(o1.keep d hdn hdp hdq).trans hd
 have f2:h2.f d = _:=(o12.keep d hdn hdp hdq).trans hd
 have f3:h3.f d = _:=(o13.keep d hdn hdp hdq).trans hd
 refine ⟨h4,q4, ?_,by simpa [Z7,oqh] using w4,o13.trans o4⟩
 simp only [a0l] at hd f1 f2 f3
 refine A9 hp rfl rfl rfl func58 rfl (by simp [Tryz.f58]) ?_
 simp only [Tryz.f58]
 refine c7 ?_;intro Q1 hQ1
 repeat' (first
  | (replace hQ1:=hQ1;simp [A5,hd,f1,f2,f3,e1,e2,e3,e4])
  | refine hQ1 _ _ _ ?_)
def x0w (a b:BL):BL:=if Op.bytesLess a b then b else a
def g0h (a b:Span):Bool:=H5 a && (H5 b && (K8 a (x0w a.lo b.lo) && K8 b (x0w a.lo b.lo)))
theorem q0y (l1 h1 l2 h2:BL) (h:H):W K 61 [.agg [.str l1,.str h1],.agg [.str l2,.str h2]] h = some (.ret (.one (.bool (g0h ⟨l1,h1⟩ ⟨l2,h2⟩))) h):=by
 have r1:=Y0 l1 h1
 have r2:=Y0 l2 h2
 have m1:=f0s l1 h1 (x0w l1 l2)
 have m2:=f0s l2 h2 (x0w l1 l2)
 have mm:U5 true (.str l1) (.str l2) = some (.str (x0w l1 l2)):=rfl
 have hown:A8 S.own 61 = false:=by kernel_rfl
 refine p7 hp (by simp [s7,-U5,c5,l0]) (c6 rfl rfl (by kernel_rfl) func61 rfl (by simp [Tryz.f61]) ?_)
 simp only [Tryz.f61]
 refine c7 ?_;intro Q1 hQ1
 repeat' (first
  | (replace hQ1:=hQ1;simp [r1,r2,m1,m2,-U5,mm])
  | (refine hQ1 _ _ _ ?_;clear hQ1 Q1;first | simp only [] | simp [g0h,-U5,u6,u5,p9,c5,l5,hown])
  | (first | apply cF | apply wN | apply wS) <;> intro hcnd <;> (try simp only [hcnd]) <;> (try simp [-List.isEmpty_iff,-List.isEmpty_eq_false_iff] at hcnd))
 all_goals first | done | (simp_all [-List.isEmpty_iff,-List.isEmpty_eq_false_iff];done) | (simp_all;done) | (simp_all;omega) | (simp;omega) | (intros;omega) | (intros;simp only [oqj] at *;omega) | (intros;simp at *;omega) | skip
end Go.Proofs.YtiagcnfmgigllaaGreat
namespace Wm
open Go Go.Ab
structure TabD where
 span:Span
 gen:Int
 fr:Bool
 rows:List Named
 cache:List Tld
def noA (c:Int):Answer:=⟨c,none,⟨[],[]⟩,0,0,0,0,0,[],none⟩
def c0t (l:List Named) (o:Op):List Named × Int :=
 let r:=(W7 l o.row).1
 if holds r o.cond = false then (l,25) else
 let a:=apply r (ls o.l)
 if a.2 = 0 then f0k l o.row a.1 else (l,a.2)
def hiT (sp:Span) (hi:BL):BL:=if hi ≠ []∧(sp.hi = [] ∨ blt hi sp.hi = true) then hi else sp.hi
def opT (sp:Span) (l:List Named) (o:Op):Answer × List Named :=
 if o.kind = 1 then (if (W7 l o.row).2 = true then ⟨0,some [⟨o.row,(W7 l o.row).1⟩],⟨[],[]⟩,0,0,0,0,0,[],none⟩ else noA 0,l)
 else if o.kind = 2 then (noA (c0t l o).2,(c0t l o).1)
 else
  let r:=T8 l o.row (hiT sp o.hi) o.most
  (⟨0,nz r.1,⟨o.row,if r.2 = [] then hiT sp o.hi else r.2⟩,0,0,0,0,0,[],none⟩,l)
def c0B (a:Answer):Bool:=(h0T a.code 255 && (h0T a.group 255 && (h0T a.to 255 && h0T a.do_ 255))) && ((h0T a.gen 1073741824 && h0T a.old 1073741824) && (((ls a.rows).all fun x=>I6 x.name && P3 x.r) && (decide ((ls a.rows).length ≤ 16) && (H5 a.span && (decide (a.at_.length ≤ 16) && decide (d0E a.state ≤ 1048576))))))
def c0Q (a:Answer):BL:=u8 a.code::u8 (ls a.rows).length::((ls a.rows).flatMap I1++(I9 a.span++(u8 a.group::u8 a.to::u8 a.do_::(L7 a.gen++(L7 a.old++(D7 a.at_++D7 (ls a.state)))))))
def tlt (a b:TabD):Bool:=blt a.span.lo b.span.lo
structure TabOk (t:TabD):Prop where
 sp:H5 t.span = true
 gen:1 ≤ t.gen∧t.gen ≤ 1073741824
 rows:TblOk t.rows
 cache:CchOk t.cache
 inn:∀ x ∈ t.rows,K8 t.span x.name = true
end Wm
