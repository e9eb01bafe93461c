/- A part of a proof over the abstract machine. No conditions. -/
import Derived.Test.YtiagcnfmgigllaaGreatC1
import Derived.Test.YtiagcnfmgigllaaGreatC5s
import Derived.Test.YtiagcnfmgigllaaGreatAb5
import Derived.Test.YtiagcnfmgigllaaGreatT6
import Derived.Test.YtiagcnfmgigllaaGreatT11
set_option linter.all false
namespace Go.Proofs.YtiagcnfmgigllaaGreat
open Go Go.Ab Wm NumPlain Go.Proofs.Tryz
set_option maxRecDepth 10000
set_option maxHeartbeats 4000000
abbrev rT:Nat:=132
theorem w0H (h:H) (l:BL) (n:Nat) (hn:n <= l.length):N4 h 1 (bs (some l)) none (some (.one (ii n))) none = some (bs (some (l.take n))):=by
 rw [Z7,Z7]
 have hq:(l.map F7).length = l.length:=by simp
 simp [N4,U8,sub,hn,Nat.min_eq_left hn]
theorem q0G (h:H) (l:BL) (n:Nat) (hn:n <= l.length):N4 h 1 (bs (some l)) (some (.one (ii n))) none none = some (bs (some (l.drop n))):=by
 rw [Z7,Z7]
 have hq:(l.map F7).length = l.length:=by simp
 simp [N4,U8,sub,hn]
 exact List.take_of_length_le (by simp)
theorem u0X {h:H} {p:Nat} {l:BL} (n:Nat) (hn:n <= l.length) (hl:l.length <= 1099511627776) (hf:h.f p = some (rdB (some l))):W K 200 [.one (.ptr p 0 0),.one (ii n)] h = some (.ret (.one (bs (some (l.take n)))) (h.set p (rdB (some (l.drop n))))):=by
 have hc:=g0v (some (l.take n)) (by simp;omega)
 have hc':=fun h=>hc.pure hp h
 have h1:=fun h=>w0H h l n hn
 have h2:=fun h=>q0G h l n hn
 have hd:decide ((l.length:Int) < n) = false:=by simp;omega
 have hd2:¬ (l.length:Int) < n:=by omega
 refine zzD func200 rfl ?_
 simp only [f200]
 intro Q1 Y1
 repeat' (first
  | (replace Y1:=Y1;simp [hf,hc',h1,h2,hd2,y0q])
  | refine Y1 _ _ _ ?_)
theorem w0g {l:BL} {i:Nat} (hi:i < l.length):U7 prog 27 (bs (some l)) i = some (.rp (l.map F7) i):=by
 rw [Z7];simp [U7,hi]
theorem B0x (a r:BL) (b:UInt8):sub ((a++b::r).map F7) a.length 1 = some [F7 b]:=by
 simp [sub]
theorem p0o {h:H} {p:Nat} {l:BL} (n:Nat) (hn8:n <= 8) (hn:n <= l.length) (hl:l.length <= 1099511627776) (hf:h.f p = some (rdB (some l))):W K 149 [.one (.ptr p 0 0),.one (ii n)] h = some (.ret (.one (.int .u64 (g0A (l.take n)))) (h.set p (rdB (some (l.drop n))))):=by
 have ht:=u0X n hn hl hf
 have htl:(l.take n).length = n:=by simp;omega
 generalize l.take n = x at *
 refine zzD func149 rfl ?_
 simp only [f149]
 intro Q2 Y2
 repeat' (first
  | (replace Y2:=Y2;simp [ht])
  | refine Y2 _ _ _ ?_
  | (first | apply cF | apply wN | apply wS) <;> intro Ya <;> (try simp only [Ya]) <;> (try simp [-List.isEmpty_iff,-List.isEmpty_eq_false_iff] at Ya))
 refine I8 hp x (fun a r fr hh=>∃ j,fr = (j 0::j 1::j 2::j 3::j 4::(.one (.int .u64 (g0A a)))::j 6::j 7::j 8::j 9::(.one (bs (some x)))::(.one (ii x.length))::(.one (ii a.length))::j 13::j 14::j 15::j 16::j 17::j 18::j 19::j 20::j 21::j 22::[])/\hh = h.set p (rdB (some (l.drop n)))) ?_ ?_ _ _ (a0q (by simp) rfl)
 ·rintro a b r fr hh hx ⟨j,rfl,hh2⟩
  subst hx
  have hi:=w0g (l:=a++b::r) (i:=a.length) (by simp)
  have hr:=B0x a r b
  generalize (a++b::r).map F7 = M at hi hr
  have hw:IntKind.i64.wrap ((a.length:Int) + 1) = ((a++[b]).length:Int):=by rw [S4];exact J1 (by simp at htl;omega)
  have hb:b.toNat < 256:=b.toNat_lt
  have ha:g0A a < 72057594037927936:=by
   have h1:=s0U a
   have h2:256 ^ a.length <= 256 ^ 7:=Nat.pow_le_pow_right (by omega) (by simp at htl;omega)
   have h3:(256:Nat) ^ 7 = 72057594037927936:=by decide
   omega
  have hs:=v0N ha
  have ho:orI .u64 ((g0A a:Int) * 256) b.toNat = (g0A a:Int) * 256 + b.toNat:=by have:=z0f ha hb;simpa using this
  have hc:IntKind.u64.wrap (b.toNat:Int) = b.toNat:=c0M (by omega) (by omega)
  have hlt:decide ((a.length:Int) < (a++b::r).length) = true:=by simp;omega
  first | (refine s9 ?_;intro Q3 Y3) | have Y3:=oqk
  repeat' (first
   | (replace Y3:=Y3;simp [-List.length_append,hi,hr,hw,hs,ho,hc,B6,F7])
   | (refine Y3 _ _ _ ?_;clear Y3 Q3;first | simp only [] | simp [-List.length_append,hi,hr,hw,hs,ho,hc,B6,F7,i0q] | skip)
   | (refine F6 (by assumption) ?_;(try clear Y3);first | simp only [] | simp [-List.length_append,hi,hr,hw,hs,ho,hc,B6,F7,i0q] | skip)
   | ((fail_if_success replace Y3:=Y3);(first | refine s9 ?_ | refine A1 ?_ | refine A4 ?_);intro Q3 Y3)
   | (first | apply cF | apply wN | apply wS) <;> intro Ya <;> (try simp only [Ya]) <;> (try simp [-List.isEmpty_iff,-List.isEmpty_eq_false_iff] at Ya))
  all_goals first | omega | exact a0q (by simp [i0q]) hh2 | trace_state
 ·rintro fr hh ⟨j,rfl,hh2⟩
  first | (refine s9 ?_;intro Q4 Y4) | have Y4:=oqk
  repeat' (first
   | (replace Y4:=Y4;simp [hh2])
   | (refine Y4 _ _ _ ?_;clear Y4 Q4;first | simp only [] | simp [hh2] | skip)
   | (refine F6 (by assumption) ?_;(try clear Y4);first | simp only [] | simp [hh2] | skip)
   | ((fail_if_success replace Y4:=Y4);(first | refine s9 ?_ | refine A1 ?_ | refine A4 ?_);intro Q4 Y4)
   | (first | apply cF | apply wN | apply wS) <;> intro Ya <;> (try simp only [Ya]) <;> (try simp [-List.isEmpty_iff,-List.isEmpty_eq_false_iff] at Ya))
  all_goals trace_state
theorem l0s (h:H) (q:Nat):W K 96 [.one (.ptr q 0 0)] h = some (.pan (.ifc rT (.ptr q 0 0)) h):=by
 refine zzD func96 rfl ?_
 simp only [f96]
 intro Q5 Y5
 repeat' (first
  | (replace Y5:=Y5;simp)
  | refine Y5 _ _ _ ?_)
theorem w0L {h:H} {p:Nat} {o:Option BL} (n:Nat) (hn:(ls o).length < n) (hf:h.f p = some (rdB o)):W K 200 [.one (.ptr p 0 0),.one (ii n)] h = some (.pan (.ifc rT (.ptr p 0 0)) h):=by
 have hd:decide (((ls o).length:Int) < n) = true:=by simp;omega
 have hd2:((ls o).length:Int) < n:=by omega
 have hx:=l0s h p
 refine zzD func200 rfl ?_
 simp only [f200]
 intro Q6 Y6
 repeat' (first
  | (replace Y6:=Y6;simp [hf,hd2,hx])
  | refine Y6 _ _ _ ?_)
theorem p0u {h:H} {p:Nat} {o:Option BL} (n:Nat) (hn:(ls o).length < n) (hf:h.f p = some (rdB o)):W K 149 [.one (.ptr p 0 0),.one (ii n)] h = some (.pan (.ifc rT (.ptr p 0 0)) h):=by
 have ht:=w0L n hn hf
 refine zzD func149 rfl ?_
 simp only [f149]
 intro Q7 Y7
 repeat' (first
  | (replace Y7:=Y7;simp [ht])
  | refine Y7 _ _ _ ?_)
theorem C0A {α:Type} {o:Option (List α)} {n:Nat} (h:n + 1 <= (ls o).length):∃ l,o = some l:=by
 cases o with
 | none=>simp at h
 | some l=>exact ⟨l,rfl⟩
theorem c0t:g0L K rT 95 [] w0q (fun b=>.one (F7 b)):=by
 intro h q o w
 cases hl:ls o with
 | nil =>
  have hn:W K 149 [.one (.ptr q 0 0),.one (.int .i64 1)] h = _:=p0u (h:=h) (p:=q) (o:=o) 1 (by rw [hl];simp) w.rd
  refine ⟨.pan (.ifc rT (.ptr q 0 0)) h, ?_,h0P rfl w⟩
  refine zzD func95 rfl ?_
  simp only [f95]
  intro Q8 Y8
  repeat' (first
   | (replace Y8:=Y8;simp [hn])
   | refine Y8 _ _ _ ?_)
 | cons b l =>
  have ho:=w.room
  have hf:=w.rd
  obtain rfl:=a0R (a:=[]) hl
  have hn:W K 149 [.one (.ptr q 0 0),.one (.int .i64 1)] h = some (.ret (.one (.int .u64 b.toNat)) (h.set q (rdB (some l)))):=by
   have:=p0o 1 (by omega) (by simp) ho hf
   simpa [x0a] using this
  have hc:IntKind.u8.wrap (b.toNat:Int) = b.toNat:=g0o (by omega) (by have:=b.toNat_lt;omega)
  refine ⟨.ret (.one (F7 b)) (h.set q (rdB (some l))), ?_,l0O rfl (w.rdset (some l) (by simp at ho |-;omega)) rfl⟩
  refine zzD func95 rfl ?_
  simp only [f95]
  intro Q9 Y9
  repeat' (first
   | (replace Y9:=Y9;simp [hn,hc,B6,F7])
   | refine Y9 _ _ _ ?_)
theorem p0W (k:Nat) (hk:1 <= k/\k <= 8):g0L K rT 149 [.one (ii k)] (m0c k) (fun n=>.one (.int .u64 n)):=by
 intro h q o w
 unfold m0c
 by_cases hn:k <= (ls o).length
 ·obtain ⟨l,rfl⟩:=C0A (n:=k - 1) (o:=o) (by omega)
  rw [if_pos hn]
  exact ⟨_,p0o k hk.2 hn w.room w.rd,l0O rfl (w.rdset (some (l.drop k)) (by have:=w.room;simp at this |-;omega)) rfl⟩
 ·rw [if_neg hn]
  exact ⟨_,p0u k (by omega) w.rd,h0P rfl w⟩
theorem x0H:g0L K rT 204 [] (m0c 8) (fun n=>.one (.int .u64 n)):=by
 intro h q o w
 obtain ⟨r,e,hx⟩:=p0W 8 (by omega) h q o w
 refine ⟨r, ?_,hx⟩
 have e':W K 149 [.one (.ptr q 0 0),.one (.int .i64 8)] h = some r:=e
 unfold h0Z at hx
 split at hx
 ·obtain ⟨h',rfl,_⟩:=hx
  refine zzD func204 rfl ?_
  simp only [f204]
  intro Q10 Y10
  repeat' (first
   | (replace Y10:=Y10;simp [e'])
   | refine Y10 _ _ _ ?_)
 ·obtain ⟨h',o',rfl,_⟩:=hx
  refine zzD func204 rfl ?_
  simp only [f204]
  intro Q11 Y11
  repeat' (first
   | (replace Y11:=Y11;simp [e'])
   | refine Y11 _ _ _ ?_)
theorem s0J {k n:Nat} {l l':BL} (h:m0c k l = some (n,l')):n < 256 ^ k/\l'.length + k = l.length:=by
 unfold m0c at h
 split at h
 ·simp only [oqI,oqM] at h
  obtain ⟨rfl,rfl⟩:=h
  have:=s0U (l.take k)
  rw [oqo,Nat.min_eq_left (by omega)] at this
  exact ⟨this,by simp;omega⟩
 ·cases h
theorem j0h:g0L K rT 94 [] (m0c 4) (fun n=>.one (.int .u32 n)):=by
 intro h q o w
 obtain ⟨r,e,hx⟩:=p0W 4 (by omega) h q o w
 have e':W K 149 [.one (.ptr q 0 0),.one (.int .i64 4)] h = some r:=e
 unfold h0Z at hx
 split at hx
 ·rename_i n l hpe
  obtain ⟨h',rfl,w'⟩:=hx
  simp only [] at e'
  have hc:IntKind.u32.wrap (n:Int) = n:=h0w (by omega) (by have:=(s0J hpe).1;omega)
  refine ⟨.ret (.one (.int .u32 n)) h', ?_,l0O hpe w' rfl⟩
  refine zzD func94 rfl ?_
  simp only [f94]
  intro Q12 Y12
  repeat' (first
   | (replace Y12:=Y12;simp [e',hc,B6])
   | refine Y12 _ _ _ ?_)
 ·rename_i hpe
  obtain ⟨h',o',rfl,w'⟩:=hx
  refine ⟨_, ?_,h0P hpe w'⟩
  refine zzD func94 rfl ?_
  simp only [f94]
  intro Q13 Y13
  repeat' (first
   | (replace Y13:=Y13;simp [e'])
   | refine Y13 _ _ _ ?_)
theorem h0r (most:Nat) (hm:most <= 1048576):g0L K rT 164 [.one (ii most)] (l0i most) (fun x=>.one (bs (some x))):=by
 intro h q o w
 unfold l0i
 obtain ⟨r,e,hx⟩:=j0h h q o w
 unfold h0Z at hx
 split at hx
 ·rename_i n l hpe
  obtain ⟨h',rfl,w'⟩:=hx
  simp only [] at e
  simp only [hpe,oqS]
  have hn:=(s0J hpe).1
  have hc:IntKind.i64.wrap (n:Int) = n:=wrap_i64 (by omega) (by omega)
  by_cases h1:1048576 < n \/ most < n
  ·rw [if_pos h1]
   refine ⟨.pan (.ifc rT (.ptr q 0 0)) h', ?_,h0P rfl w'⟩
   have hx:=l0s h' q
   have hd:(decide (1048576 < n) || decide (most < n)) = true:=by simpa using h1
   rcases h1 with h1 | h1
   ·have hd1:decide (1048576 < n) = true:=by simp;omega
    refine zzD func164 rfl ?_
    simp only [f164]
    intro Q14 Y14
    repeat' (first
     | (replace Y14:=Y14;simp [e,hc,h1,hx,B6])
     | refine Y14 _ _ _ ?_)
   ·have hd1:decide (most < n) = true:=by simp;omega
    by_cases h2:1048576 < n
    ·refine zzD func164 rfl ?_
     simp only [f164]
     intro Q15 Y15
     repeat' (first
      | (replace Y15:=Y15;simp [e,hc,h2,hx,B6])
      | refine Y15 _ _ _ ?_)
    ·refine zzD func164 rfl ?_
     simp only [f164]
     intro Q16 Y16
     repeat' (first
      | (replace Y16:=Y16;simp [e,hc,h1,h2,hx,B6])
      | refine Y16 _ _ _ ?_)
  ·rw [if_neg h1]
   have hd1:¬ 1048576 < n:=by omega
   have hd2:¬ most < n:=by omega
   have hd3:decide (1048576 < n) = false:=by simp;omega
   have hd4:decide (most < n) = false:=by simp;omega
   by_cases h2:n <= l.length
   ·rw [if_pos h2]
    have ht:=u0X n h2 w'.room w'.rd
    refine ⟨.ret (.one (bs (some (l.take n)))) (h'.set q (rdB (some (l.drop n)))), ?_,l0O rfl (w'.rdset (some (l.drop n)) (by have:=w'.room;simp at this |-;omega)) rfl⟩
    refine zzD func164 rfl ?_
    simp only [f164]
    intro Q17 Y17
    repeat' (first
     | (replace Y17:=Y17;simp [e,ht,hc,hd1,hd2,B6])
     | refine Y17 _ _ _ ?_)
   ·rw [if_neg h2]
    have ht:=w0L (o:=some l) n (by simp;omega) w'.rd
    refine ⟨_, ?_,h0P rfl w'⟩
    refine zzD func164 rfl ?_
    simp only [f164]
    intro Q18 Y18
    repeat' (first
     | (replace Y18:=Y18;simp [e,ht,hc,hd1,hd2,B6])
     | refine Y18 _ _ _ ?_)
 ·rename_i hpe
  obtain ⟨h',o',rfl,w'⟩:=hx
  simp only [hpe,Option.bind_none]
  refine ⟨_, ?_,h0P rfl w'⟩
  refine zzD func164 rfl ?_
  simp only [f164]
  intro Q19 Y19
  repeat' (first
   | (replace Y19:=Y19;simp [e])
   | refine Y19 _ _ _ ?_)
end Go.Proofs.YtiagcnfmgigllaaGreat
namespace Wm
open Go Go.Ab
def h0Q (v:Value):Value:=if v.kind = 1 then ⟨1,some (ls v.b),0⟩ else v
def a0r (x:Version):Version:=⟨x.time,h0Q x.v⟩
def X7 (c:Column):Column:=⟨c.name,nz ((ls c.l).map a0r)⟩
def X0 (o:Row):Row:=nz ((ls o).map X7)
def i0s (l:BL):Option (Nat × BL):=(m0c 8 l).bind fun x=>if a0n x.1 = x.1 then some (a0n x.1,x.2) else none
def t0J (l:BL):Option (Value × BL):=(w0q l).bind fun x =>
 if (x.1.toNat:Int) = 1 then (l0i 16 x.2).bind fun y=>some (⟨x.1.toNat,some y.1,0⟩,y.2) else
 if (x.1.toNat:Int) = 2 then (i0s x.2).bind fun y=>some (⟨x.1.toNat,none,y.1⟩,y.2) else none
theorem v0e {v:Value} (ok:V7 v = true) (hc:M9 v = v) (hn:v.kind = 2->v.n < 256 ^ 8) (l:BL):t0J (a0W v++l) = some (h0Q v,l):=by
 obtain ⟨k,b,n⟩:=v
 by_cases h1:k = 1
 ·subst h1
  have hb:(ls b).length <= 16:=by
   have h:f0w b <= 16:=by simpa [V7] using ok
   cases b with
   | none=>simp
   | some l=>simpa [f0w] using h
  simp only [a0W,if_true,h0Q,oqm,t0J,Z9,oqS]
  rw [if_pos (by decide),a0K hb (by omega)]
  rfl
 ·by_cases h2:k = 2
  ·subst h2
   simp only [M9,Int.reduceEq,if_true,if_false,Value.mk.injEq,true_and] at hc
   obtain ⟨rfl,hc⟩:=hc
   simp only [a0W,Int.reduceEq,if_true,if_false,h0Q,oqm,t0J,Z9,oqS]
   rw [if_neg (by decide),if_pos (by decide),hc,i0s,c0f (hn rfl)]
   simp [hc]
  ·exfalso
   simp [V7,h1,h2] at ok
theorem t0N (v:Value):V7 (h0Q v) = V7 v:=by
 unfold h0Q
 split
 ·rename_i h
  obtain ⟨k,b,n⟩:=v
  simp only at h
  subst h
  cases b
  ·simp [V7,f0w]
  ·simp [V7,f0w];rfl
 ·rfl
theorem v0G (x:Version):b0B (a0r x) = b0B x:=by
 simp only [b0B,a0r,t0N];rfl
theorem x0s (c:Column):a0H (X7 c) = a0H c:=by
 simp only [a0H,X7,c0u,oqi,List.all_map]
 rw [b0Z (r:=d0q) (s:=d0q) (f:=a0r) (fun a b=>rfl)]
 have:(b0B ∘ a0r) = b0B:=funext fun x=>v0G x
 rw [this]
theorem h0I (o:Row):V5 (X0 o) = V5 o:=by
 simp only [V5,X0,c0u,oqi,List.all_map]
 rw [b0Z (r:=f0P) (s:=f0P) (f:=X7) (fun a b=>rfl)]
 have:(a0H ∘ X7) = a0H:=funext fun x=>x0s x
 rw [this]
end Wm
namespace Wm
open Go Go.Ab
def V1 (t:Tld):Tld:=⟨t.client,t.seq,some (ls t.b)⟩
def J6 (x:Named):Named:=⟨x.name,X0 x.r⟩
theorem y0C {a b:List Tld} (ok:CchOk (a++b)):CchOk a:=.of (c0N ok.srt) fun x hx=>ok.ok x (by simp [hx])
theorem o0m {l:List Tld} (ok:CchOk l):CchOk (l.map V1):=.of (by rw [b0Z (r:=b0L) (s:=b0L) (f:=V1) (fun a b=>rfl)];exact ok.srt) fun x hx=>by
 obtain ⟨y,hy,rfl⟩:=List.mem_map.1 hx
 exact ok.ok y hy
theorem r0d {a:List Tld} {x:Tld} (h:∀ y ∈ a,y.client < x.client) (hr:a0U x.client x.seq x.b = true):a0v a x.client x.seq x.b = (a++[x],true):=by
 have h1:=m0T h hr
 have h2:(a0v a x.client x.seq x.b).2 = true:=by
  unfold a0v at h1 |-
  split at h1
  ·have:=congrArg List.length h1;simp at this
  ·rename_i hc
   rw [if_neg hc]
   split <;> rfl
 exact Prod.ext h1 h2
end Wm
namespace Go.Proofs.YtiagcnfmgigllaaGreat
open Go Go.Ab Wm NumPlain Go.Proofs.Tryz
set_option maxRecDepth 10000
set_option maxHeartbeats 4000000
theorem B0T (n:Nat) (h:H):W K 252 [.one (.int .u64 n)] h = some (.ret (.one (.flt (a0n n))) h):=by
 have h1:=b0W n
 have h2:=g0e n
 simp only [Int.toNat_natCast] at h1
 refine zzP func252 rfl ?_
 simp only [f252]
 intro Yb Q1 Y1
 repeat' (first
  | (replace Y1:=Y1;simp [h1,h2,A7,A0,z9,c7,u9,Yb])
  | refine Y1 _ _ _ ?_)
theorem y0V:g0L K rT 234 [] i0s (fun n=>.one (.flt n)):=by
 have hfl:=l0s
 intro h q o w
 have hk:=oqk
 refine zzE func234 rfl ?_
 simp only [f234]
 intro Q2 Y2
 repeat' (first
  | (replace Y2:=Y2;simp [hfl])
  | refine Y2 _ _ _ ?_
  | ((with_reducible refine S7 ?_);first
   | (refine c0Y (x0H) (by first | assumption | exact RS.new (by assumption) _ | exact RS.set0 (by assumption) (by omega) _ | exact RS.set0 (RS.new (by assumption) _) (by omega) _ | exact RS.new (RS.new (by assumption) _) _ | exact RS.new (RS.set0 (by assumption) (by omega) _) _ | exact RS.set0 (RS.swap (by assumption)) (by omega) _ | exact RS.set0 (RS.swap (RS.set0 (by assumption) (by omega) _)) (by omega) _ | exact RS.set0 (RS.new (RS.new (by assumption) _) _) (by omega) _) (fun v l h' hpe ws' hk=>?_) (fun hpe h' o' ws'=>?_) <;> (have hnx:=ws'.next) <;> (try simp only [K6] at hpe) <;> (try simp only [g0U,J4,d0B,f0R,and_true] at hk) <;> (try simp [B0T,g0s,m0w])))
  | (first | apply cF | apply wN | apply wS) <;> intro Ya <;> (try simp only [Ya]) <;> (try simp [-List.isEmpty_iff,-List.isEmpty_eq_false_iff] at Ya))
 all_goals (try simp only [Int.natCast_inj] at Ya)
 all_goals first | exact h0P (by simp [i0s, *]) (by assumption) | exact l0O (v:=a0n _) (by simp [i0s,hpe,Ya];rfl) (by assumption) rfl | exact l0O (v:=a0n _) (by simp [i0s,hpe,Ya]) (by assumption) rfl
theorem F0P (v:UInt8) (h:H):B6 prog 5 3 (F7 v) h = some (.val (.one (ii v.toNat)) h):=by
 have hc:IntKind.i64.wrap (v.toNat:Int) = v.toNat:=wrap_i64 (by omega) (by have:=v.toNat_lt;omega)
 simp [B6,F7,hc]
theorem G0L:g0L K rT 205 [] t0J (fun v:Wm.Value=>.agg (a0t v)):=by
 have hfl:=l0s
 intro h q o w
 have hk:=oqk
 refine zzE func205 rfl ?_
 simp only [f205]
 intro Q3 Y3
 repeat' (first
  | (replace Y3:=Y3;simp [hfl])
  | refine Y3 _ _ _ ?_
  | ((with_reducible refine S7 ?_);first
   | (refine c0Y (c0t) (by first | assumption | exact RS.new (by assumption) _ | exact RS.set0 (by assumption) (by omega) _ | exact RS.set0 (RS.new (by assumption) _) (by omega) _ | exact RS.new (RS.new (by assumption) _) _ | exact RS.new (RS.set0 (by assumption) (by omega) _) _ | exact RS.set0 (RS.swap (by assumption)) (by omega) _ | exact RS.set0 (RS.swap (RS.set0 (by assumption) (by omega) _)) (by omega) _ | exact RS.set0 (RS.new (RS.new (by assumption) _) _) (by omega) _) (fun v l h' hpe ws' hk=>?_) (fun hpe h' o' ws'=>?_) <;> (have hnx:=ws'.next) <;> (try simp only [K6] at hpe) <;> (try simp only [g0U,J4,d0B,f0R,and_true] at hk) <;> (try simp [F0P]))
   | (refine c0Y (h0r 16 (by omega)) (by first | assumption | exact RS.new (by assumption) _ | exact RS.set0 (by assumption) (by omega) _ | exact RS.set0 (RS.new (by assumption) _) (by omega) _ | exact RS.new (RS.new (by assumption) _) _ | exact RS.new (RS.set0 (by assumption) (by omega) _) _ | exact RS.set0 (RS.swap (by assumption)) (by omega) _ | exact RS.set0 (RS.swap (RS.set0 (by assumption) (by omega) _)) (by omega) _ | exact RS.set0 (RS.new (RS.new (by assumption) _) _) (by omega) _) (fun v l h' hpe ws' hk=>?_) (fun hpe h' o' ws'=>?_) <;> (have hnx:=ws'.next) <;> (try simp only [K6] at hpe) <;> (try simp only [g0U,J4,d0B,f0R,and_true] at hk) <;> (try simp [hk]))
   | (refine c0Y (y0V) (by first | assumption | exact RS.new (by assumption) _ | exact RS.set0 (by assumption) (by omega) _ | exact RS.set0 (RS.new (by assumption) _) (by omega) _ | exact RS.new (RS.new (by assumption) _) _ | exact RS.new (RS.set0 (by assumption) (by omega) _) _ | exact RS.set0 (RS.swap (by assumption)) (by omega) _ | exact RS.set0 (RS.swap (RS.set0 (by assumption) (by omega) _)) (by omega) _ | exact RS.set0 (RS.new (RS.new (by assumption) _) _) (by omega) _) (fun v l h' hpe ws' hk=>?_) (fun hpe h' o' ws'=>?_) <;> (have hnx:=ws'.next) <;> (try simp only [K6] at hpe) <;> (try simp only [g0U,J4,d0B,f0R,and_true] at hk) <;> (try simp [hk])))
  | (first | apply cF | apply wN | apply wS) <;> intro Ya <;> (try simp only [Ya]) <;> (try simp [-List.isEmpty_iff,-List.isEmpty_eq_false_iff] at Ya))
 all_goals first | exact h0P (by simp [t0J, *]) (by first | assumption | exact RS.new (by assumption) _ | exact RS.set0 (by assumption) (by omega) _ | exact RS.set0 (RS.new (by assumption) _) (by omega) _ | exact RS.new (RS.new (by assumption) _) _ | exact RS.new (RS.set0 (by assumption) (by omega) _) _ | exact RS.set0 (RS.swap (by assumption)) (by omega) _ | exact RS.set0 (RS.swap (RS.set0 (by assumption) (by omega) _)) (by omega) _ | exact RS.set0 (RS.new (RS.new (by assumption) _) _) (by omega) _) | (refine v0y (by first | assumption | exact RS.new (by assumption) _ | exact RS.set0 (by assumption) (by omega) _ | exact RS.set0 (RS.new (by assumption) _) (by omega) _ | exact RS.new (RS.new (by assumption) _) _ | exact RS.new (RS.set0 (by assumption) (by omega) _) _ | exact RS.set0 (RS.swap (by assumption)) (by omega) _ | exact RS.set0 (RS.swap (RS.set0 (by assumption) (by omega) _)) (by omega) _ | exact RS.set0 (RS.new (RS.new (by assumption) _) _) (by omega) _) (by simp [t0J, *];first | exact ⟨rfl,rfl⟩ | rfl) ?_;first | rfl | simp [a0t,C9, *])
theorem M6 {α:Type} {f:Nat} {rest:List AV} {P:BL->Option (α × BL)} {enc:α->AV} (hr:g0L K rT f rest P enc) {h:H} {q:Nat} {L l:BL} {v:α} (hq:q < h.next) (hf:h.f q = some (rdB (some L))) (hl:L.length <= 1099511627776) (hP:P L = some (v,l)) :
  ∃ h',W K f (.one (.ptr q 0 0)::rest) h = some (.ret (enc v) h')/\h.next <= h'.next/\h'.f q = some (rdB (some l))/\∀ b,b < h.next->b ≠ q->h'.f b = h.f b:=by
 obtain ⟨r,e,hx⟩:=hr h q (some L) (RS.start hq hf hl)
 unfold h0Z at hx
 simp only [K6,hP] at hx
 obtain ⟨h',rfl,w⟩:=hx
 exact ⟨h',e,w.next,w.rd,w.same⟩
theorem p0O {n:Nat} (h:n < 256):F7 (u8 (n:Int)) = .int .u8 (n:Int):=by
 unfold F7 u8
 simp
 omega
structure VerRd (x:Version):Prop where
 t:0 <= x.time/\x.time <= 1099511627776
 v:V7 x.v = true
 c:M9 x.v = x.v
 n:x.v.kind = 2->x.v.n < 256 ^ 8
structure ColRd (c:Column):Prop where
 nm:J9 c.name = true
 n:(ls c.l).length <= 2
 ne:ls c.l ≠ []
 v:∀ x ∈ ls c.l,VerRd x
structure RowRd (o:Row):Prop where
 ok:V5 o = true
 n:(ls o).length <= 4
 c:∀ x ∈ ls o,ColRd x
theorem x0x {t:Int} (h:0 <= t/\t <= 1099511627776):IntKind.i64.wrap ((u64 t:Nat):Int) = t:=by
 have:((u64 t:Nat):Int) = t:=by unfold u64;omega
 rw [this,wrap_i64 (by omega) (by omega)]
theorem b0J (o:Option BL) (h:H):B6 prog 27 9 (bs o) h = some (.val (.one (.str (ls o))) h):=by
 have he:=p0m h o
 have hl:=y0B o
 have:∀ s,bs o ≠ .str s:=by cases o <;> simp [C9,Z7]
 simp only [B6]
 cases hbs:bs o <;> simp_all [W4,g0b]
theorem z0g {h h1:H} {q lo:Nat} {rest:BL} {R:Row} {s:AS} {rs:List RC} {o:Option BL} (a:RowAt h1 lo s rs R) (hlo:h.next <= lo) (hn:h.next <= h1.next) (hq:q < h.next) (h0:h.f q = some (rdB o)) (hf:h1.f q = some (rdB (some rest))) (hs:∀ b,b < h.next->b ≠ q->h1.f b = h.f b) :
  g0E false h (fun r=>∃ h',r = .ret (.agg (J8 R)) h'/\h.next <= h'.next/\h'.f q = some (rdB (some rest))/\∀ b,b < h.next->b ≠ q->h'.f b = h.f b) (.ret (.agg [s]) h1):=by
 by_cases hz:s = .nilslc
 ·have:=a.nil.1 hz
  subst this
  subst hz
  exact p0a (by simp [b0u,v9,c7]) ⟨h1,rfl,hn,hf,hs⟩
 ·have hp':b0u (.agg [s]) = false:=by
   rcases a.arr with ⟨e,_⟩ | ⟨b,v,z,e,_⟩
   ·exact absurd e hz
   ·rw [e];simp [b0u,v9,c7]
  have hfz:=a.frz (h:=h) hlo 61
  refine ⟨_,p0P (v':=.agg (J8 R)) hp' ⟨hn,fun b hb=>?_⟩ (by simp only [A0,List.mapM_cons,List.mapM_nil,hfz,oqE,oqS,oqP,J8]),h.back h1,rfl,by simp [H.back],by simp only [H.back,if_pos hq];exact hf,fun b hb hbq=>by simp only [H.back,if_pos hb];exact hs b hb hbq⟩
  by_cases e:b = q
  ·subst e
   exact .inr ⟨_,_,h0,hf,rfl,rfl,by simp [v9,f0T]⟩
  ·exact .inl (hs b hb e)
theorem u0T {h:H} {q:Nat} {R:Row} {rest:BL} (hR:RowRd R) (hq:q < h.next) (hf:h.f q = some (rdB (some (f0U (ls R)++rest)))) (hroom:(f0U (ls R)++rest).length <= 1099511627776) :
  ∃ r,W K 165 [.one (.ptr q 0 0)] h = some r/\∃ h',r = .ret (.agg (J8 (X0 R))) h'/\h.next <= h'.next/\h'.f q = some (rdB (some rest))/\∀ b,b < h.next->b ≠ q->h'.f b = h.f b:=by
 obtain ⟨B0,hB0⟩:∃ B:Blk,B = ⟨0,[1],true,[.nilslc]⟩:=⟨_,rfl⟩
 simp only [f0U,oqm] at hf hroom
 have hqn:¬ q = h.next:=by omega
 have hqn1:¬ q = h.next + 1:=by omega
 obtain ⟨g0,e0,n0,r0,s0⟩:=M6 c0t (h:=(h.new B0).new B0) (q:=q) (by simp;omega) (by rw [p0 (by simp;omega),p0 hqn];exact hf) hroom (Z9 _ _)
 simp only [A6] at n0 s0
 rw [p0O (by have:=hR.n;omega)] at e0
 have f0:g0.f h.next = some B0:=by rw [s0 _ (by omega) (Ne.symm hqn),p0 (by simp)];simp
 have f1:g0.f (h.next + 1) = some B0:=by rw [s0 _ (by omega) (Ne.symm hqn1)];simp
 obtain ⟨P,hP⟩:∃ P:CR->Prop,P = fun r=>∃ h',r = .ret (.agg (J8 (X0 R))) h'/\h.next <= h'.next/\h'.f q = some (rdB (some rest))/\∀ b,b < h.next->b ≠ q->h'.f b = h.f b:=⟨_,rfl⟩
 suffices hh:∃ r,W K 165 [.one (.ptr q 0 0)] h = some r/\P r by rw [hP] at hh;exact hh
 rw [hB0] at e0 f0 f1
 refine zzI func165 rfl ?_
 simp only [f165]
 intro Q1 Y1
 repeat' (first
  | (replace Y1:=Y1;simp [e0])
  | refine Y1 _ _ _ ?_)
 refine I8 hp (ls R) (fun a r fr hh=>(h.next + 1 + 1 <= hh.next/\(∀ b,b < h.next->b ≠ q->hh.f b = h.f b)/\hh.f q = some (rdB (some (r.flatMap b0N++rest)))/\(r.flatMap b0N++rest).length <= 1099511627776/\hh.f h.next = some ⟨0,[1],true,[.nilslc]⟩/\∃ s1 rs1,hh.f (h.next + 1) = some ⟨0,[1],true,[s1]⟩/\rs1.length = a.length/\RowAt hh (h.next + 1 + 1) s1 rs1 (nz (a.map X7)))/\∃ j:Nat->AV,fr = ((.one (.ptr q 0 0))::j 1::(.one (.ptr h.next 0 0))::(.one (.ptr (h.next + 1) 0 0))::(.one (.int .u8 r.length))::j 5::j 6::j 7::j 8::j 9::j 10::j 11::j 12::j 13::j 14::j 15::j 16::j 17::j 18::j 19::j 20::j 21::j 22::j 23::j 24::j 25::j 26::j 27::j 28::j 29::j 30::j 31::j 32::j 33::j 34::j 35::j 36::j 37::j 38::j 39::j 40::j 41::j 42::j 43::j 44::j 45::j 46::j 47::j 48::[])) ?_ ?_ _ _ ?_
 rotate_left 2
 ·refine ⟨⟨n0,fun b hb hbq=>?_,r0,by simp only [oqb] at hroom;omega,f0,.nilslc,[],f1,rfl,⟨.inl ⟨rfl,rfl⟩,by simp,by simp [z7],trivial,by simp⟩⟩,y0 (by simp)⟩
  rw [s0 b (by omega) hbq,p0 (by simp;omega),p0 (by omega)]
 ·rintro a x r fr hh hll ⟨⟨i1,i2,i3,i4,i5,s1,rs1,i6,i7,i8⟩,j,rfl⟩
  have hxR:=hR.c x (by rw [hll];simp)
  obtain ⟨xn,xl⟩:=x
  obtain ⟨x1,x2,x3,x4⟩:=hxR
  simp only at x1 x2 x3 x4
  have hrn:r.length < 255:=by have:=hR.n;rw [hll] at this;simp at this;omega
  obtain ⟨V,hV⟩:∃ V,ls xl = V:=⟨_,rfl⟩
  rw [hV] at x2 x3 x4
  obtain ⟨M,hM⟩:∃ M,r.flatMap b0N++rest = M:=⟨_,rfl⟩
  have hbytes:((⟨xn,xl⟩:Column)::r).flatMap b0N++rest = I1 xn++(u8 V.length::(V.flatMap a0T++M)):=by rw [<- hM,<- hV];simp [b0N]
  rw [hbytes] at i3 i4
  rw [hM]
  have hx16:xn.length <= 16:=by have:=x1;simp only [J9,oqd,oqj] at this;omega
  obtain ⟨g1,e1,n1,r1,t1⟩:=M6 (h0r 16 (by omega)) (h:=hh) (q:=q) (by omega) i3 i4 (a0K hx16 (by omega) _)
  have hroom1:(u8 V.length::(V.flatMap a0T++M)).length <= 1099511627776:=by rw [oqa] at i4;omega
  obtain ⟨g2,e2,n2,r2,t2⟩:=M6 c0t (h:=g1.new ⟨0,[2],true,[.str xn,.nilslc]⟩) (q:=q) (by simp;omega) (by rw [p0 (by omega)];exact r1) hroom1 (Z9 _ _)
  rw [p0O (by omega)] at e2
  simp only [A6] at n2 t2
  have hroom2:(V.flatMap a0T++M).length <= 1099511627776:=by simp only [oqb] at hroom1;omega
  have fc:g2.f g1.next = some ⟨0,[2],true,[.str xn,.nilslc]⟩:=by rw [t2 _ (by omega) (by omega)];simp
  have hd1:decide ((0:Int) < (r.length:Int) + 1) = true:=by rw [oqj];omega
  have hd2:(0:Int) < (r.length:Int) + 1:=by omega
  have e1':W K 164 [.one (.ptr q 0 0),.one (.int .i64 16)] hh = some (.ret (.one (bs (some xn))) g1):=e1
  first | (refine s9 ?_;intro Q2 Y2) | have Y2:=oqk
  repeat' (first
   | (replace Y2:=Y2;simp [hd2,e1',e2,b0J])
   | (refine Y2 _ _ _ ?_;clear Y2 Q2;first | simp only [] | simp [hd1,hd2,e1',e2,b0J] | skip)
   | (refine F6 (by assumption) ?_;(try clear Y2);first | simp only [] | simp [hd1,hd2,e1',e2,b0J] | skip)
   | ((fail_if_success replace Y2:=Y2);(first | refine s9 ?_ | refine A1 ?_ | refine A4 ?_);intro Q2 Y2))
  refine I8 hp V (fun a2 y2 fr h2=>(g2.next <= h2.next/\(∀ b,b < g2.next->b ≠ q->b ≠ g1.next->h2.f b = g2.f b)/\h2.f q = some (rdB (some (y2.flatMap a0T++M)))/\(y2.flatMap a0T++M).length <= 1099511627776/\∃ s2,h2.f g1.next = some ⟨0,[2],true,[.str xn,s2]⟩/\Sl h2 4 i9 s2 (a2.map a0r)/\(s2 = .nilslc ↔ a2 = [])/\∀ b,z7 s2 = some b->g2.next <= b)/\∃ j:Nat->AV,fr = ((.one (.ptr q 0 0))::j 1::(.one (.ptr h.next 0 0))::(.one (.ptr (h.next + 1) 0 0))::(.one (.int .u8 ((r.length:Int) + 1)))::(.one (.ptr g1.next 0 0))::(.one (.int .u8 y2.length))::j 7::j 8::j 9::j 10::j 11::j 12::j 13::j 14::j 15::j 16::j 17::j 18::j 19::j 20::j 21::j 22::j 23::j 24::j 25::j 26::j 27::j 28::j 29::j 30::j 31::j 32::j 33::j 34::j 35::j 36::j 37::j 38::j 39::j 40::j 41::j 42::j 43::j 44::j 45::j 46::j 47::j 48::[])) ?_ ?_ _ _ ?_
  rotate_left 2
  ·exact ⟨⟨oqg _,fun _ _ _ _=>rfl,r2,hroom2,.nilslc,fc,.inl ⟨rfl,rfl⟩,by simp,by simp [z7]⟩,y0 (by simp)⟩
  ·rintro a2 y y2 fr h2 hl2 ⟨⟨j1,j2,j3,j4,s2,j5,j6,j7,j8⟩,j',rfl⟩
   have hyR:=x4 y (by rw [hl2];simp)
   have hyn:y2.length < 255:=by rw [hl2] at x2;simp at x2;omega
   obtain ⟨yt,⟨yk,yb,yn⟩⟩:=y
   obtain ⟨y_t,y_v,y_c,y_n⟩:=hyR
   simp only at y_t y_v y_c y_n
   obtain ⟨N,hN⟩:∃ N,y2.flatMap a0T++M = N:=⟨_,rfl⟩
   have hbytes2:((⟨yt,⟨yk,yb,yn⟩⟩:Version)::y2).flatMap a0T++M = b0K yt++(a0W ⟨yk,yb,yn⟩++N):=by rw [<- hN];simp [a0T]
   rw [hbytes2] at j3 j4
   rw [hN]
   have h64:u64 yt < 256 ^ 8:=by unfold u64;omega
   obtain ⟨m1,eL,v1,w1,z1⟩:=M6 x0H (h:=h2) (q:=q) (by omega) j3 j4 (c0f h64 _)
   have hrm1:(a0W ⟨yk,yb,yn⟩++N).length <= 1099511627776:=by rw [oqa] at j4;omega
   obtain ⟨m3,eG,v3,w3,z3⟩:=M6 G0L (h:=m1.new ⟨0,[4],true,[ii yt,ii 0,.nilslc,.flt 0]⟩) (q:=q) (by simp;omega) (by rw [p0 (by omega)];exact w1) hrm1 (v0e y_v y_c y_n _)
   simp only [A6] at v3 z3
   have hrm3:N.length <= 1099511627776:=by rw [oqa] at hrm1;omega
   have hT:=x0x y_t
   obtain ⟨⟨wk,wb,wn⟩,hw⟩:∃ w,h0Q ⟨yk,yb,yn⟩ = w:=⟨_,rfl⟩
   rw [hw] at eG
   have hve:i9 (a0r ⟨yt,⟨yk,yb,yn⟩⟩) = [ii yt,ii wk,bs wb,.flt wn]:=by simp only [a0r,hw,i9]
   have fd:m3.f m1.next = some ⟨0,[4],true,[ii yt,ii 0,.nilslc,.flt 0]⟩:=by rw [z3 _ (by omega) (by omega)];simp
   have fc2:m3.f g1.next = some ⟨0,[2],true,[.str xn,s2]⟩:=by rw [z3 _ (by omega) (by omega),p0 (by omega),z1 _ (by omega) (by omega)];exact j5
   have hs2q:∀ b,z7 s2 = some b->b < h2.next/\b ≠ q/\b ≠ m1.next:=fun b hb=>by have:=j6.lt hb;have:=j8 b hb;omega
   have j6':Sl ((m3.set m1.next ⟨0,[4],true,[ii yt,ii wk,bs wb,.flt wn]⟩).new ⟨0,[4],true,i9 (a0r ⟨yt,⟨yk,yb,yn⟩⟩)⟩) 4 i9 s2 (a2.map a0r):=j6.keep (by simp;omega) fun b hb=>by
    obtain ⟨k1,k2,k3⟩:=hs2q b hb
    rw [p0 (by simp;omega),l0,if_neg k3,z3 b (by omega) k2,p0 (by omega),z1 b k1 k2]
   have ha2:a2.length <= 2:=by rw [hl2] at x2;simp at x2;omega
   obtain ⟨s3,h3,e3,⟨b3,v3',z3',hs3,ar3⟩,k1,k2,k3⟩:=P7 (P:=prog) (t:=89) underlying89 (by simp) (by simp) Tryz.bytes93 (by omega) J0 (a:=.slc m3.next 0 0 1 4 none) (m:=[a0r ⟨yt,⟨yk,yb,yn⟩⟩]) j6' rfl (by simp [C6,cat,hve,sub]) (by simp) (by simp only [oqi,oqb,oqc,Nat.zero_add,N3];omega)
   simp only [A6,b0f] at k1 k2 k3
   rw [hve] at e3 k2
   have hs2c:z7 s2 ≠ some g1.next:=fun e=>by have:=j8 _ e;omega
   have f3c:h3.f g1.next = some ⟨0,[2],true,[.str xn,s2]⟩:=by rw [k2 _ (by omega) hs2c,p0 (by simp;omega),l0,if_neg (by omega)];exact fc2
   have hmap:(a2++[(⟨yt,⟨yk,yb,yn⟩⟩:Version)]).map a0r = a2.map a0r++[a0r ⟨yt,⟨yk,yb,yn⟩⟩]:=by simp
   have hA0:(a2++[(⟨yt,⟨yk,yb,yn⟩⟩:Version)]) ≠ []:=by simp
   generalize hA3:(a2++[(⟨yt,⟨yk,yb,yn⟩⟩:Version)]) = A3 at *
   have hd3:decide ((0:Int) < (y2.length:Int) + 1) = true:=by rw [oqj];omega
   have hd4:(0:Int) < (y2.length:Int) + 1:=by omega
   have hdec:IntKind.u8.wrap (y2.length:Int) = y2.length:=g0o (by omega) (by omega)
   have hn1:¬ g1.next = m1.next:=by omega
   have hn2:¬ g1.next = m3.next:=by omega
   have hn3:¬ m1.next = m3.next:=by omega
   simp only [a0t] at eG
   first | (refine s9 ?_;intro Q3 Y3) | have Y3:=oqk
   repeat' (first
    | (replace Y3:=Y3;simp [hd4,eL,eG,hT,B6,fd,fc2,e3,f3c,hdec,hn1])
    | (refine Y3 _ _ _ ?_;clear Y3 Q3;first | simp only [] | simp [hd3,hd4,eL,eG,hT,B6,fd,fc2,e3,f3c,hdec,hn1,hn2,hn3] | skip)
    | (refine F6 (by assumption) ?_;(try clear Y3);first | simp only [] | simp [hd3,hd4,eL,eG,hT,B6,fd,fc2,e3,f3c,hdec,hn1,hn2,hn3] | skip)
    | ((fail_if_success replace Y3:=Y3);(first | refine s9 ?_ | refine A1 ?_ | refine A4 ?_);intro Q3 Y3))
   refine ⟨⟨by simp;omega,fun b hb hbq hbc=>?_, ?_,hrm3,s3,by simp,.inr ⟨b3,v3',z3',by rw [hs3,hmap], ?_⟩, ?_,fun b hb=>?_⟩,y0 (by simp)⟩
   ·rw [l0,if_neg hbc,k2 b (by omega) (fun e=>by have:=j8 b e;omega),p0 (by simp;omega),l0,if_neg (by omega),z3 b (by omega) hbq,p0 (by omega),z1 b (by omega) hbq];exact j2 b hb hbq hbc
   ·rw [l0,if_neg (by omega),k2 q (by omega) (fun e=>(hs2q q e).2.1 rfl),p0 (by simp;omega),l0,if_neg (by omega)];exact w3
   ·rw [hmap]
    refine ar3.keep (by simp) ?_
    rw [l0,if_neg]
    rintro rfl
    rcases k3 _ (by rw [hs3];rfl) with e | e
    ·exact hs2c e
    ·omega
   ·rw [hs3];simp [hA0]
   ·rcases k3 b hb with e | e
    ·exact j8 b e
    ·omega
  ·rintro fr h2 ⟨⟨j1,j2,j3,j4,s2,j5,j6,j7,j8⟩,j',rfl⟩
   have hfr:∀ b,b < hh.next->b ≠ q->h2.f b = hh.f b:=fun b hb hbq=>by rw [j2 b (by omega) hbq (by omega),t2 b (by omega) hbq,p0 (by omega),t1 b hb hbq]
   have f42:h2.f (h.next + 1) = some ⟨0,[1],true,[s1]⟩:=by rw [hfr _ (by omega) (by omega)];exact i6
   have hVn:nz (V.map a0r) = some (V.map a0r):=f0G (by simpa using x3)
   have hcol:ColAt h2 hh.next (xn,s2) (X7 ⟨xn,xl⟩):=⟨rfl,by simp only [X7,c0u,hV];exact j6,by simp only [X7,hV];rw [hVn,j7];simp [x3],fun b hb=>⟨by have:=j8 b hb;omega,j6.lt hb⟩⟩
   have hal:a.length <= 4:=by have:=hR.n;rw [hll] at this;simp at this;omega
   have hnq:∀ b,z7 s1 = some b \/ b ∈ a0G rs1->b ≠ q:=fun b hx=>by
    rcases hx with e | e
    ·have:=(i8.own _ e).1;omega
    ·have:=(i8.col.lt _ e).1;omega
   obtain ⟨s4,h4,e4,w4,k1,k2,k3⟩:=i8.push (P:=prog) (t:=79) underlying79 (by simp) (by simp) Tryz.bytes91 (by omega) (by omega) (fun b hb hx=>hfr b hb (hnq b hx)) hcol (by simp only [N3];omega)
   have hs1:z7 s1 ≠ some (h.next + 1):=fun e=>by have:=(i8.own _ e).1;omega
   have hs1q:z7 s1 ≠ some q:=fun e=>hnq q (.inl e) rfl
   have hs10:z7 s1 ≠ some h.next:=fun e=>by have:=(i8.own _ e).1;omega
   have f43:h4.f (h.next + 1) = some ⟨0,[1],true,[s1]⟩:=by rw [k2 _ (by omega) hs1,p0 (by omega)];exact f42
   have hmap:nz ((a++[(⟨xn,xl⟩:Column)]).map X7) = some (ls (nz (a.map X7))++[X7 ⟨xn,xl⟩]):=by simp [f0G]
   have hlo4:∀ b,z7 s4 = some b->b ≠ h.next + 1:=by
    rintro b hb rfl
    rcases k3 _ hb with e | e
    ·exact hs1 e
    ·omega
   have hA2l:(a++[(⟨xn,xl⟩:Column)]).length = a.length + 1:=by simp
   generalize hA2:a++[(⟨xn,xl⟩:Column)] = A2 at *
   have hdec:IntKind.u8.wrap (r.length:Int) = r.length:=g0o (by omega) (by omega)
   simp only [List.flatMap_nil,oql] at j3 j4
   first | (refine s9 ?_;intro Q4 Y4) | have Y4:=oqk
   repeat' (first
    | (replace Y4:=Y4;simp [f42,j5,e4,f43])
    | (refine Y4 _ _ _ ?_;clear Y4 Q4;first | simp only [] | simp [hdec] | skip)
    | (refine F6 (by assumption) ?_;(try clear Y4);first | simp only [] | simp [f42,j5,e4,f43,hdec] | skip)
    | ((fail_if_success replace Y4:=Y4);(first | refine s9 ?_ | refine A1 ?_ | refine A4 ?_);intro Q4 Y4))
   refine ⟨⟨by simp;omega,fun b hb hbq=>?_, ?_,j4, ?_,s4,rs1++[(xn,s2)],by simp, ?_, ?_⟩,y0 (by simp)⟩
   ·rw [l0,if_neg (by omega),k2 b (by omega) (fun e=>by have:=(i8.own b e).1;omega),p0 (by omega),hfr b (by omega) hbq];exact i2 b hb hbq
   ·rw [l0,if_neg (by omega),k2 q (by omega) hs1q,p0 (by omega)];exact j3
   ·rw [l0,if_neg (by omega),k2 _ (by omega) hs10,p0 (by omega),hfr _ (by omega) (by omega)];exact i5
   ·simp [i7,hA2l]
   ·rw [hmap]
    refine w4.keep (by simp) fun b hb hx=>?_
    rw [l0,if_neg]
    rintro rfl
    rcases hx with e | e
    ·exact hlo4 _ e rfl
    ·have:=(w4.col.lt _ e).1;omega
 ·rintro fr hh ⟨⟨i1,i2,i3,i4,i5,s1,rs1,i6,i7,i8⟩,j,rfl⟩
  have hB:V5 (nz ((ls R).map X7)) = true:=by have:=h0I R;rw [hR.ok] at this;exact this
  have hr:=v0V (Rw.RowAt.sees i8) (by have:=hR.n;simp only [c0u,oqi];omega)
  rw [hB] at hr
  have hne1:¬ h.next = h.next + 1:=by omega
  have i8':RowAt (hh.set h.next ⟨0,[1],true,[s1]⟩) (h.next + 1 + 1) s1 rs1 (nz ((ls R).map X7)):=i8.keep (by simp) fun b hb hx=>by
   rw [l0,if_neg]
   rintro rfl
   rcases hx with e | e
   ·have:=(i8.own _ e).1;omega
   ·have:=(i8.col.lt _ e).1;omega
  first | (refine s9 ?_;intro Q5 Y5) | have Y5:=oqk
  repeat' (first
   | (replace Y5:=Y5;simp [i5,i6,hr])
   | (refine Y5 _ _ _ ?_;clear Y5 Q5;first | simp only [] | simp [i5,i6,hr,hne1] | skip)
   | (refine F6 (by assumption) ?_;(try clear Y5);first | simp only [] | simp [i5] | skip)
   | ((fail_if_success replace Y5:=Y5);(first | refine s9 ?_ | refine A1 ?_ | refine A4 ?_);intro Q5 Y5))
  rw [hP]
  simp only [List.flatMap_nil,oql] at i3
  exact z0g i8' (by omega) (by simp;omega) hq hf (by rw [l0,if_neg hqn];exact i3) (fun b hb hbq=>by rw [l0,if_neg (by omega)];exact i2 b hb hbq)
theorem x0K {c:Int} (h:0 <= c/\c <= 255):(((u8 c).toNat:Nat):Int) = c:=by
 unfold u8
 simp
 omega
theorem o0t {s:Int} (h:0 <= s/\s <= 1073741824):((u32 s:Nat):Int) = s:=by unfold u32;omega
theorem r0Y {h:H} {q:Nat} {l:List Tld} {rest:BL} (ok:CchOk l) (hq:q < h.next) (hf:h.f q = some (rdB (some (b0M l++rest)))) (hroom:(b0M l++rest).length <= 1099511627776) :
  ∃ r,W K 152 [.one (.ptr q 0 0)] h = some r/\∃ h' q',r = .ret (.one (.ptr h.next 0 0)) h'/\h.next <= h'.next/\h'.f q = some (rdB (some rest))/\(∀ b,b < h.next->b ≠ q->h'.f b = h.f b)/\Bx h' h.next 3 J7 (l.map V1) q'/\l0P h h' (h.next::q'.toList):=by
 have hlen:=ok.len
 have hnew:=r0N h
 have hqn:¬ q = h.next:=by omega
 simp only [b0M,N8,oqh] at hf hroom
 have hu:u32 (l.length:Int) = l.length:=by unfold u32;omega
 rw [hu] at hf hroom
 obtain ⟨g0,e0,n0,r0,s0⟩:=M6 j0h (h:=h.new ⟨0,[1],true,[.nilslc]⟩) (q:=q) (by simp;omega) (by rw [p0 hqn];exact hf) hroom (c0f (by omega) _)
 simp only [A6] at n0 s0
 have hroom0:(l.flatMap b0q++rest).length <= 1099511627776:=by rw [oqa] at hroom;omega
 have f0:g0.f h.next = some ⟨0,[1],true,[.nilslc]⟩:=by rw [s0 _ (by omega) (Ne.symm hqn)];simp
 obtain ⟨P,hP⟩:∃ P:CR->Prop,P = fun r=>∃ h' q',r = .ret (.one (.ptr h.next 0 0)) h'/\h.next <= h'.next/\h'.f q = some (rdB (some rest))/\(∀ b,b < h.next->b ≠ q->h'.f b = h.f b)/\Bx h' h.next 3 J7 (l.map V1) q'/\l0P h h' (h.next::q'.toList):=⟨_,rfl⟩
 suffices hh:∃ r,W K 152 [.one (.ptr q 0 0)] h = some r/\P r by rw [hP] at hh;exact hh
 refine zzE func152 rfl ?_
 simp only [f152]
 intro Q1 Y1
 repeat' (first
  | (replace Y1:=Y1;simp [hnew,e0])
  | refine Y1 _ _ _ ?_)
 refine I8 hp l (fun a r fr hh=>(h.next < hh.next/\(∀ b,b < h.next->b ≠ q->hh.f b = h.f b)/\hh.f q = some (rdB (some (r.flatMap b0q++rest)))/\(r.flatMap b0q++rest).length <= 1099511627776/\∃ q1,Bx hh h.next 3 J7 (a.map V1) q1/\∀ b,q1 = some b->h.next < b)/\∃ L:Int,(∀ y ∈ r,L < y.client)/\∃ j:Nat->AV,fr = ((.one (.ptr q 0 0))::j 1::j 2::(.one (.ptr h.next 0 0))::(.one (.int .u32 r.length))::(.one (ii L))::j 6::j 7::j 8::j 9::j 10::j 11::j 12::j 13::j 14::j 15::j 16::j 17::j 18::j 19::j 20::j 21::j 22::j 23::j 24::j 25::j 26::j 27::j 28::j 29::j 30::j 31::j 32::j 33::j 34::j 35::j 36::j 37::j 38::[])) ?_ ?_ _ _ ?_
 rotate_left 2
 ·refine ⟨⟨by omega,fun b hb hbq=>by rw [s0 b (by omega) hbq,p0 (by omega)],r0,hroom0,none,⟨by omega,.nilslc,f0,.inl ⟨rfl,rfl⟩,rfl,by simp⟩,by simp⟩,-1,fun y hy=>by have:=(a0B (ok.ok y hy)).1;omega,y0 (by simp)⟩
 ·rintro a x r fr hh hll ⟨⟨i1,i2,i3,i4,q1,i5,i6⟩,L,hL,j,rfl⟩
  have hxr:=ok.ok x (by rw [hll];simp)
  have hxi:=a0B hxr
  have hLx:=hL x (by simp)
  have hokl:=ok
  rw [hll] at hokl
  have hoka:=o0m (y0C hokl)
  have hax:∀ y ∈ a.map V1,y.client < (V1 x).client:=by
   intro y hy
   obtain ⟨z,hz,rfl⟩:=List.mem_map.1 hy
   obtain ⟨i,hi,rfl⟩:=List.getElem_of_mem hz
   have:=(U0 b0i).1 hokl.srt i a.length hi (by simp)
   simp only [b0L,oqj] at this
   rw [List.getElem_append_left hi,List.getElem_append_right (oqg _)] at this
   simpa [V1] using this
  have hrx:∀ y ∈ r,x.client < y.client:=by
   intro y hy
   have:=c0b b0i (b0k hokl.srt) y hy
   simpa [b0L] using this
  have hks:=r0d hax (x:=V1 x) hxr
  have hrl:r.length < 1000:=by rw [hll] at hlen;simp at hlen;omega
  obtain ⟨M,hM⟩:∃ M,r.flatMap b0q++rest = M:=⟨_,rfl⟩
  obtain ⟨xc,xs,xb⟩:=x
  simp only [V1] at hks hLx hrx
  simp only at hxi
  have hbytes:((⟨xc,xs,xb⟩:Tld)::r).flatMap b0q++rest = u8 xc::(be 4 (u32 xs)++(I1 (ls xb)++M)):=by rw [<- hM];simp [b0q,N8]
  rw [hbytes] at i3 i4
  rw [hM]
  obtain ⟨g1,e1,n1,r1,t1⟩:=M6 c0t (h:=hh) (q:=q) (by omega) i3 i4 (Z9 _ _)
  have hr1:(be 4 (u32 xs)++(I1 (ls xb)++M)).length <= 1099511627776:=by simp only [oqb] at i4;omega
  have hu32:=o0t (s:=xs) (by omega)
  have hu8:=x0K (c:=xc) (by omega)
  have h32:u32 xs < 256 ^ 4:=by unfold u32;omega
  obtain ⟨g2,e2,n2,r2,t2⟩:=M6 j0h (h:=g1) (q:=q) (by omega) r1 hr1 (c0f h32 _)
  have hr2:(I1 (ls xb)++M).length <= 1099511627776:=by rw [oqa] at hr1;omega
  obtain ⟨g3,e3,n3,r3,t3⟩:=M6 (h0r 1048576 (by omega)) (h:=g2) (q:=q) (by omega) r2 hr2 (a0K hxi.2.2.2.2 (by omega) _)
  have hr3:M.length <= 1099511627776:=by rw [oqa] at hr2;omega
  have hfr:∀ b,b < hh.next->b ≠ q->g3.f b = hh.f b:=fun b hb hbq=>by rw [t3 b (by omega) hbq,t2 b (by omega) hbq,t1 b hb hbq]
  have i5':Bx g3 h.next 3 J7 (a.map V1) q1:=i5.keep (by omega) (hfr _ i1 (Ne.symm hqn)) fun b hb=>hfr b (i5.lt hb) (by have:=i6 b hb;omega)
  obtain ⟨h4,q4,e4,b4,o4⟩:=r0P i5' hoka xc xs (some (ls xb)) (by simp only [K6];omega)
  rw [hks] at e4 b4
  have hq1:q1 ≠ some q:=fun e=>by have:=i6 _ e;omega
  have o4n:=o4.next
  have e3':W K 164 [.one (.ptr q 0 0),.one (.int .i64 1048576)] g2 = some (.ret (.one (bs (some (ls xb)))) g3):=e3
  have hd1:decide ((0:Int) < (r.length:Int) + 1) = true:=by rw [oqj];omega
  have hd2:(0:Int) < (r.length:Int) + 1:=by omega
  have hd3:decide (xc <= L) = false:=by simp;omega
  have hd4:¬ xc <= L:=by omega
  have hw1:IntKind.i64.wrap xs = xs:=wrap_i64 (by omega) (by omega)
  have hdec:IntKind.u32.wrap (r.length:Int) = r.length:=h0w (by omega) (by omega)
  have hcv:∀ h,B6 prog 138 3 (.int .u32 ((u32 xs:Nat):Int)) h = some (.val (.one (ii xs)) h):=fun h=>by simp [B6,hu32,hw1]
  have hcb:∀ h,B6 prog 5 3 (F7 (u8 xc)) h = some (.val (.one (ii xc)) h):=fun h=>by rw [F0P,hu8]
  have hmap:(a++[(⟨xc,xs,xb⟩:Tld)]).map V1 = a.map V1++[⟨xc,xs,some (ls xb)⟩]:=by simp [V1]
  generalize hA2:a++[(⟨xc,xs,xb⟩:Tld)] = A2 at *
  first | (refine s9 ?_;intro Q2 Y2) | have Y2:=oqk
  repeat' (first
   | (replace Y2:=Y2;simp [hd2,e1,e2,e3',e4,hd4,hcv,hcb,hdec])
   | (refine Y2 _ _ _ ?_;clear Y2 Q2;first | simp only [] | skip)
   | (refine F6 (by assumption) ?_;(try clear Y2);first | simp only [] | skip)
   | ((fail_if_success replace Y2:=Y2);(first | refine s9 ?_ | refine A1 ?_ | refine A4 ?_);intro Q2 Y2))
  refine ⟨⟨by omega,fun b hb hbq=>?_, ?_,hr3,q4,by rw [hmap];exact b4,fun b hb=>?_⟩,xc,hrx,y0 (by simp)⟩
  ·rw [o4.keep b (by omega) (by omega) (fun e=>by have:=i6 _ e;omega),hfr b (by omega) hbq];exact i2 b hb hbq
  ·rw [o4.keep q (by omega) hqn hq1];exact r3
  ·rcases o4.own with e | ⟨y,e,hy⟩
   ·rw [e] at hb;exact i6 b hb
   ·rw [e] at hb;cases hb;omega
 ·rintro fr hh ⟨⟨i1,i2,i3,i4,q1,i5,i6⟩,L,hL,j,rfl⟩
  simp only [List.flatMap_nil,oql] at i3
  first | (refine s9 ?_;intro Q3 Y3) | have Y3:=oqk
  repeat' (first
   | (replace Y3:=Y3;simp)
   | (refine Y3 _ _ _ ?_;clear Y3 Q3;first | simp only [] | simp | skip)
   | (refine F6 (by assumption) ?_;(try clear Y3);first | simp only [] | simp | skip)
   | ((fail_if_success replace Y3:=Y3);(first | refine s9 ?_ | refine A1 ?_ | refine A4 ?_);intro Q3 Y3))
  rw [hP]
  refine ⟨hh,q1,rfl,by omega,i3,i2,i5, ?_⟩
  cases q1 with
  | none=>exact ⟨by simp,fun x hx=>by simp at hx;omega⟩
  | some y =>
   have:=i6 y rfl
   have h3:y < hh.next:=i5.lt rfl
   exact ⟨by simp;omega,fun x hx=>by simp at hx;omega⟩
theorem r0h {h:H} {q:Nat} {l:List Named} {rest:BL} (ok:TblOk l) (okr:∀ x ∈ l,RowRd x.r) (hq:q < h.next) (hf:h.f q = some (rdB (some (c0i l++rest)))) (hroom:(c0i l++rest).length <= 1099511627776) :
  ∃ r,W K 151 [.one (.ptr q 0 0)] h = some r/\∃ h' q',r = .ret (.one (.ptr h.next 0 0)) h'/\h.next <= h'.next/\h'.f q = some (rdB (some rest))/\(∀ b,b < h.next->b ≠ q->h'.f b = h.f b)/\Bx h' h.next 2 g9 (l.map J6) q'/\l0P h h' (h.next::q'.toList):=by
 have hlen:=ok.len
 have hnew:=x0l h
 have hqn:¬ q = h.next:=by omega
 simp only [c0i,N8,oqh] at hf hroom
 have hu:u32 (l.length:Int) = l.length:=by unfold u32;omega
 rw [hu] at hf hroom
 obtain ⟨g0,e0,n0,r0,s0⟩:=M6 j0h (h:=h.new ⟨0,[1],true,[.nilslc]⟩) (q:=q) (by simp;omega) (by rw [p0 hqn];exact hf) hroom (c0f (by omega) _)
 simp only [A6] at n0 s0
 have hroom0:(l.flatMap K9++rest).length <= 1099511627776:=by rw [oqa] at hroom;omega
 have f0:g0.f h.next = some ⟨0,[1],true,[.nilslc]⟩:=by rw [s0 _ (by omega) (Ne.symm hqn)];simp
 obtain ⟨P,hP⟩:∃ P:CR->Prop,P = fun r=>∃ h' q',r = .ret (.one (.ptr h.next 0 0)) h'/\h.next <= h'.next/\h'.f q = some (rdB (some rest))/\(∀ b,b < h.next->b ≠ q->h'.f b = h.f b)/\Bx h' h.next 2 g9 (l.map J6) q'/\l0P h h' (h.next::q'.toList):=⟨_,rfl⟩
 suffices hh:∃ r,W K 151 [.one (.ptr q 0 0)] h = some r/\P r by rw [hP] at hh;exact hh
 have hd0:decide ((32:Int) < (l.length:Int)) = false:=by simp;omega
 have hd00:¬ (32:Int) < (l.length:Int):=by omega
 have hd000:¬ 32 < l.length:=by omega
 refine zzE func151 rfl ?_
 simp only [f151]
 intro Q1 Y1
 repeat' (first
  | (replace Y1:=Y1;simp [hnew,e0,hd00])
  | refine Y1 _ _ _ ?_
  | (first | refine dF (id:=10) t0E [] ?_ | refine dF (id:=12) c0n [] ?_))
 refine I8 hp l (fun a r fr hh=>(h.next < hh.next/\(∀ b,b < h.next->b ≠ q->hh.f b = h.f b)/\hh.f q = some (rdB (some (r.flatMap K9++rest)))/\(r.flatMap K9++rest).length <= 1099511627776/\∃ q1,Bx hh h.next 2 g9 (a.map J6) q1/\∀ b,q1 = some b->h.next < b)/\∃ j:Nat->AV,fr = ((.one (.ptr q 0 0))::j 1::j 2::(.one (.ptr h.next 0 0))::(.one (.int .u32 r.length))::j 5::j 6::j 7::j 8::j 9::j 10::j 11::j 12::j 13::j 14::j 15::j 16::j 17::j 18::j 19::j 20::j 21::j 22::j 23::j 24::j 25::j 26::j 27::j 28::j 29::j 30::j 31::j 32::j 33::j 34::j 35::j 36::j 37::j 38::j 39::j 40::j 41::j 42::j 43::j 44::j 45::j 46::j 47::j 48::j 49::j 50::j 51::j 52::j 53::j 54::j 55::j 56::j 57::j 58::j 59::j 60::j 61::j 62::j 63::j 64::j 65::j 66::j 67::j 68::j 69::j 70::j 71::[])) ?_ ?_ _ _ ?_
 rotate_left 2
 ·exact ⟨⟨by omega,fun b hb hbq=>by rw [s0 b (by omega) hbq,p0 (by omega)],r0,hroom0,none,⟨by omega,.nilslc,f0,.inl ⟨rfl,rfl⟩,rfl,by simp⟩,by simp⟩,y0 (by simp)⟩
 ·rintro a x r fr hh hll ⟨⟨i1,i2,i3,i4,q1,i5,i6⟩,j,rfl⟩
  have hxm:x ∈ l:=by rw [hll];simp
  have hnm:=ok.nm x hxm
  have hrow:=ok.row x hxm
  have hrd:=okr x hxm
  have hrl:r.length < 1000/\a.length < 33:=by rw [hll] at hlen;simp at hlen;omega
  have hs2:=ok.srt
  rw [hll] at hs2
  obtain ⟨M,hM⟩:∃ M,r.flatMap K9++rest = M:=⟨_,rfl⟩
  obtain ⟨xn,xr⟩:=x
  simp only at hnm hrow hrd
  have hbytes:((⟨xn,xr⟩:Named)::r).flatMap K9++rest = I1 xn++(f0U (ls xr)++M):=by rw [<- hM];simp [K9,g0K,hrow.1]
  rw [hbytes] at i3 i4
  rw [hM]
  have hx16:xn.length <= 16:=by have:=hnm;simp only [J9,oqd,oqj] at this;omega
  obtain ⟨g1,e1,n1,r1,t1⟩:=M6 (h0r 16 (by omega)) (h:=hh) (q:=q) (by omega) i3 i4 (a0K hx16 (by omega) _)
  have hr1:(f0U (ls xr)++M).length <= 1099511627776:=by rw [oqa] at i4;omega
  obtain ⟨_,e2,g3,rfl,n3,r3,t3⟩:=u0T (h:=g1.new ⟨0,[2],true,[.str xn,.nilslc]⟩) (q:=q) hrd (by simp;omega) (by rw [p0 (by omega)];exact r1) hr1
  have hr3:M.length <= 1099511627776:=by rw [oqa] at hr1;omega
  simp only [A6] at n3 t3
  have hne:ls xr ≠ []:=fun e=>by
   have h1:=hrow.1
   have h2:=hrow.2
   unfold rowCopy at h1
   rw [if_pos hrd.ok,e] at h1
   exact h2 h1.symm
  have hNl:(ls (X0 xr)).length = (ls xr).length:=by simp [X0]
  have hx':J6 ⟨xn,xr⟩ = ⟨xn,X0 xr⟩:=rfl
  have hmap:(a++[(⟨xn,xr⟩:Named)]).map J6 = a.map J6++[⟨xn,X0 xr⟩]:=by simp [J6]
  have hNs:=c0S (o:=X0 xr) (by rw [h0I];exact hrd.ok)
  obtain ⟨NR,hNR⟩:∃ NR,X0 xr = NR:=⟨_,rfl⟩
  rw [hNR] at e2 hNl hx' hmap hNs
  have hln:(ls NR).length ≠ 0:=by rw [hNl];simpa using hne
  have hlz:¬ ((ls NR).length:Int) = 0:=by omega
  have hlzb:(((ls NR).length:Int) == 0) = false:=beq_eq_false_iff_ne.2 hlz
  have hlr:∀ (u:TypeId) (h':H),V9 (sl 2 l7 NR) (some (.slice u)) h' = some (one (ii (ls NR).length) h'):=fun u h'=>a0C ..
  have hfr:∀ b,b < hh.next->b ≠ q->g3.f b = hh.f b:=fun b hb hbq=>by rw [t3 b (by omega) hbq,p0 (by omega),t1 b hb hbq]
  have fd:g3.f g1.next = some ⟨0,[2],true,[.str xn,.nilslc]⟩:=by rw [t3 _ (by omega) (by omega)];simp
  obtain ⟨w1,s,w2,w3,w4,w5⟩:=i5
  have hsq:∀ b,z7 s = some b->b < hh.next/\b ≠ q/\h.next < b:=fun b hb=>by have:=i6 b (by rw [<- w4,hb]);have:=w3.lt hb;omega
  have w23:g3.f h.next = some ⟨0,[1],true,[s]⟩:=by rw [hfr _ i1 (Ne.symm hqn)];exact w2
  have w34:Sl (g3.set g1.next ⟨0,[2],true,[.str xn,sl 2 l7 NR]⟩) 2 g9 s (a.map J6):=w3.keep (by simp;omega) fun b hb=>by
   have:=hsq b hb
   rw [l0,if_neg (by omega),hfr b this.1 this.2.1]
  have w35:Sl ((g3.set g1.next ⟨0,[2],true,[.str xn,sl 2 l7 NR]⟩).new ⟨0,[2],true,g9 ⟨xn,NR⟩⟩) 2 g9 s (a.map J6):=w34.keep (by simp) fun b hb=>p0 (by have:=w34.lt hb;omega)
  obtain ⟨s5,h5,e5,⟨b5,v5,z5,hs5,ar5⟩,k1,k2,k3⟩:=P7 (P:=prog) (t:=48) underlying48 (by simp) (by simp) Tryz.bytes83 (by omega) C4 (a:=.slc g3.next 0 0 1 2 none) (m:=[⟨xn,NR⟩]) w35 rfl (by simp [C6,cat,g9,sub]) (by simp) (by simp only [oqi,oqb,oqc,Nat.zero_add,N3];omega)
  simp only [A6,b0f] at k1 k2 k3
  have hs0:z7 s ≠ some h.next:=fun e=>by have:=hsq _ e;omega
  have hsr:z7 s ≠ some q:=fun e=>(hsq _ e).2.1 rfl
  have f5:h5.f h.next = some ⟨0,[1],true,[s]⟩:=by rw [k2 _ (by omega) hs0,p0 (by simp;omega),l0,if_neg (by omega)];exact w23
  have hs50:z7 s5 ≠ some h.next:=fun e=>by
   rcases k3 _ e with e | e
   ·exact hs0 e
   ·omega
  have e1':W K 164 [.one (.ptr q 0 0),.one (.int .i64 16)] hh = some (.ret (.one (bs (some xn))) g1):=e1
  have hnm2:=d0A xn
  rw [hnm] at hnm2
  have hd1:decide ((0:Int) < (r.length:Int) + 1) = true:=by rw [oqj];omega
  have hd2:(0:Int) < (r.length:Int) + 1:=by omega
  have hdec:IntKind.u32.wrap (r.length:Int) = r.length:=h0w (by omega) (by omega)
  have hla:∀ (u:TypeId) (h':H),V9 s (some (.slice u)) h' = some (one (ii a.length) h'):=fun u h'=>by
   have:=U4 h' u (w3.sees C4) (by omega) (A8 C4 _)
   simpa using this
  have fin:(h.next < (h5.set h.next ⟨0,[1],true,[s5]⟩).next/\(∀ b,b < h.next->b ≠ q->(h5.set h.next ⟨0,[1],true,[s5]⟩).f b = h.f b)/\(h5.set h.next ⟨0,[1],true,[s5]⟩).f q = some (rdB (some M))/\M.length <= 1099511627776/\∃ q1,Bx (h5.set h.next ⟨0,[1],true,[s5]⟩) h.next 2 g9 ((a++[(⟨xn,xr⟩:Named)]).map J6) q1/\∀ b,q1 = some b->h.next < b):=by
   refine ⟨by simp;omega,fun b hb hbq=>?_, ?_,hr3,z7 s5,⟨by simp;omega,s5,by simp,.inr ⟨b5,v5,z5,by rw [hs5,hmap], ?_⟩,rfl,hs50⟩,fun b hb=>?_⟩
   ·rw [l0,if_neg (by omega),k2 b (by omega) (fun e=>by have:=hsq b e;omega),p0 (by simp;omega),l0,if_neg (by omega),hfr b (by omega) hbq];exact i2 b hb hbq
   ·rw [l0,if_neg hqn,k2 q (by omega) hsr,p0 (by simp;omega),l0,if_neg (by omega)];exact r3
   ·rw [hmap];exact ar5.keep (by simp) (by rw [l0,if_neg (fun e=>hs50 (by rw [hs5,<- e];rfl))])
   ·rcases k3 b hb with e | e
    ·exact (hsq b e).2.2
    ·omega
  simp only [g9] at e5
  simp only [J8] at e2
  have hn1:¬ h.next = g1.next:=by omega
  have hn2:¬ g1.next = g3.next:=by omega
  have hn3:¬ h.next = g3.next:=by omega
  generalize hA2:a++[(⟨xn,xr⟩:Named)] = A2 at *
  by_cases ha0:a.length = 0
  ·have hz:∀ (u:TypeId) (h':H),V9 s (some (.slice u)) h' = some (one (ii 0) h'):=fun u h'=>by rw [hla,ha0];rfl
   first | (refine s9 ?_;intro Q2 Y2) | have Y2:=oqk
   repeat' (first
    | (replace Y2:=Y2;simp [hd2,e1',e2,b0J,fd,hn1,hnm2,hlr,hlzb,w23,hz,e5,f5,hdec])
    | (refine Y2 _ _ _ ?_;clear Y2 Q2;first | simp only [] | skip)
    | (refine F6 (by assumption) ?_;(try clear Y2);first | simp only [] | skip)
    | ((fail_if_success replace Y2:=Y2);(first | refine s9 ?_ | refine A1 ?_ | refine A4 ?_);intro Q2 Y2)
    | (first | refine dF (id:=10) t0E [] ?_ | refine dF (id:=12) c0n [] ?_))
   exact ⟨fin,y0 (by simp)⟩
  ·have ha1:0 < a.length:=by omega
   obtain ⟨b,v,z,rfl,ar⟩:∃ b v z,s = .slc b v 0 a.length 2 none/\Arr (g3.set g1.next ⟨0,[2],true,[.str xn,sl 2 l7 NR]⟩) g9 b v (a.map J6) z:=by
    rcases w34 with ⟨_,e⟩ | ⟨b,v,z,e,ar⟩
    ·exact absurd (by simpa using congrArg List.length e) ha0
    ·exact ⟨b,v,z,by rw [e,oqi],ar⟩
   have hil:a.length - 1 < (a.map J6).length:=by simp;omega
   obtain ⟨fx,ex,Mc,m1,m2,m3⟩:=A0p ar hil
   have x1:=U5 (P:=prog) (size:=2) (b:=b) (v:=v) (n:=a.length) (i:=a.length - 1) underlying48 (by simp) (by omega) (by omega)
   have hlt2:Op.bytesLess (a.map J6)[a.length - 1].name xn = true:=by
    have:=(U0 b0b).1 hs2 (a.length - 1) a.length (by omega) (by simp)
    rw [List.getElem_append_left (by omega),List.getElem_append_right (oqg _)] at this
    simpa [f0A,blt,J6] using this
   obtain ⟨N1,hN1⟩:∃ N1,(a.map J6)[a.length - 1].name = N1:=⟨_,rfl⟩
   rw [hN1] at m3 hlt2
   have hsub:IntKind.i64.wrap ((a.length:Int) - 1) = ((a.length - 1:Nat):Int):=by rw [wrap_i64 (by omega) (by omega)];omega
   have hbn:¬ b = g1.next:=by have:=hsq b rfl;omega
   rw [l0,if_neg hbn] at m1
   clear hN1
   clear hil
   generalize hal:a.length - 1 = al at *
   first | (refine s9 ?_;intro Q3 Y3) | have Y3:=oqk
   repeat' (first
    | (replace Y3:=Y3;simp [bin,b0o,d0W,a0L,O7,hd2,e1',e2,b0J,fd,hn1,hnm2,hlr,hlzb,w23,ha1,hsub,x1,m1,m2,m3,hbn,hlt2,e5,f5,hdec])
    | (refine Y3 _ _ _ ?_;clear Y3 Q3;first | simp only [] | skip)
    | (refine F6 (by assumption) ?_;(try clear Y3);first | simp only [] | skip)
    | ((fail_if_success replace Y3:=Y3);(first | refine s9 ?_ | refine A1 ?_ | refine A4 ?_);intro Q3 Y3)
    | (first | refine dF (id:=10) t0E [] ?_ | refine dF (id:=12) c0n [] ?_))
   exact ⟨fin,y0 (by simp)⟩
 ·rintro fr hh ⟨⟨i1,i2,i3,i4,q1,i5,i6⟩,j,rfl⟩
  simp only [List.flatMap_nil,oql] at i3
  first | (refine s9 ?_;intro Q4 Y4) | have Y4:=oqk
  repeat' (first
   | (replace Y4:=Y4;simp)
   | (refine Y4 _ _ _ ?_;clear Y4 Q4;first | simp only [] | simp | skip)
   | (refine F6 (by assumption) ?_;(try clear Y4);first | simp only [] | simp | skip)
   | ((fail_if_success replace Y4:=Y4);(first | refine s9 ?_ | refine A1 ?_ | refine A4 ?_);intro Q4 Y4)
   | (first | refine dF (id:=10) t0E [] ?_ | refine dF (id:=12) c0n [] ?_))
  rw [hP]
  refine ⟨hh,q1,rfl,by omega,i3,i2,i5, ?_⟩
  cases q1 with
  | none=>exact ⟨by simp,fun x hx=>by simp at hx;omega⟩
  | some y =>
   have:=i6 y rfl
   have h3:y < hh.next:=i5.lt rfl
   exact ⟨by simp;omega,fun x hx=>by simp at hx;omega⟩
def n0p (l:BL):Option (Span × BL):=(l0i 16 l).bind fun x=>(l0i 16 x.2).bind fun y=>if K4 ⟨x.1,y.1⟩ then some (⟨x.1,y.1⟩,y.2) else none
theorem l0o:g0L K rT 150 [] n0p (fun s=>.agg (I5 s)):=by
 have hsr:=a0o
 have hfl:=l0s
 intro h q o w
 have hk:=oqk
 refine zzE func150 rfl ?_
 simp only [f150]
 intro Q1 Y1
 repeat' (first
  | (replace Y1:=Y1;simp [hfl,hk])
  | refine Y1 _ _ _ ?_
  | ((with_reducible refine S7 ?_);first
   | (refine c0Y (h0r 16 (by omega)) (by first | assumption | exact RS.new (by assumption) _ | exact RS.set0 (by assumption) (by omega) _ | exact RS.set0 (RS.new (by assumption) _) (by omega) _ | exact RS.new (RS.new (by assumption) _) _ | exact RS.new (RS.set0 (by assumption) (by omega) _) _ | exact RS.set0 (RS.swap (by assumption)) (by omega) _ | exact RS.set0 (RS.swap (RS.set0 (by assumption) (by omega) _)) (by omega) _ | exact RS.set0 (RS.new (RS.new (by assumption) _) _) (by omega) _) (fun v l h' hpe ws' hk=>?_) (fun hpe h' o' ws'=>?_) <;> (have hnx:=ws'.next) <;> (try simp only [K6] at hpe) <;> (try simp only [g0U,J4,d0B,f0R,and_true] at hk) <;> (try simp [b0J,hsr,hk])))
  | (first | apply cF | apply wN | apply wS) <;> intro Ya <;> (try simp only [Ya]) <;> (try simp [-List.isEmpty_iff,-List.isEmpty_eq_false_iff] at Ya))
 all_goals first | exact h0P (by simp [n0p, *]) (by first | assumption | exact RS.new (by assumption) _ | exact RS.set0 (by assumption) (by omega) _ | exact RS.set0 (RS.new (by assumption) _) (by omega) _ | exact RS.new (RS.new (by assumption) _) _ | exact RS.new (RS.set0 (by assumption) (by omega) _) _ | exact RS.set0 (RS.swap (by assumption)) (by omega) _ | exact RS.set0 (RS.swap (RS.set0 (by assumption) (by omega) _)) (by omega) _ | exact RS.set0 (RS.new (RS.new (by assumption) _) _) (by omega) _) | (refine v0y (by first | assumption | exact RS.new (by assumption) _ | exact RS.set0 (by assumption) (by omega) _ | exact RS.set0 (RS.new (by assumption) _) (by omega) _ | exact RS.new (RS.new (by assumption) _) _ | exact RS.new (RS.set0 (by assumption) (by omega) _) _ | exact RS.set0 (RS.swap (by assumption)) (by omega) _ | exact RS.set0 (RS.swap (RS.set0 (by assumption) (by omega) _)) (by omega) _ | exact RS.set0 (RS.new (RS.new (by assumption) _) _) (by omega) _) (by simp [n0p, *];first | exact ⟨rfl,rfl⟩ | rfl) ?_;first | rfl | simp [n0p, *])
theorem m0W {s:Span} (ok:K4 s = true) (l:BL):n0p (L7 s++l) = some (s,l):=by
 obtain ⟨lo,hi⟩:=s
 have h:=ok
 simp only [K4,oqd,oqj] at h
 simp only [L7,oqh,n0p]
 rw [a0K h.1.1 (by omega)]
 simp only [oqS]
 rw [a0K h.1.2 (by omega)]
 simp [ok]
theorem y0u (a:BL):blt a a = false:=X1 a
theorem x0N {l:List Named} (ok:TblOk l) {k:Nat} (hk:k < l.length):tix l l[k].name = k:=by
 have h1:=o0s ok.srt l[k].name k hk
 rw [f0b,y0u] at h1
 have h3:¬ k < tix l l[k].name:=fun e=>by have:=h1.1 e;cases this
 rcases Nat.eq_zero_or_pos k with h0 | h0
 ·omega
 ·have h2:=o0s ok.srt l[k].name (k - 1) (by omega)
  rw [f0b] at h2
  have:=h2.2 ((U0 b0b).1 ok.srt (k - 1) k (by omega) hk)
  omega
theorem A0h (l:List Named):tix l [] = 0:=by
 unfold tix
 cases l with
 | nil=>rfl
 | cons a l =>
  have:blt a.name [] = false:=by cases a.name <;> rfl
  simp [this]
theorem A0R {h:H} {p:Nat} {l:List Named} {q:Option Nat} (w:Bx h p 2 g9 l q) (ok:TblOk l):W K 43 [.one (.ptr p 0 0),.one (.str []),.one (.str [])] h = some (.ret (.one (sl 2 g9 (nz l))) h):=by
 have hlen:=ok.len
 have key:∃ r,W K 43 [.one (.ptr p 0 0),.one (.str []),.one (.str [])] h = some r/\r = .ret (.one (sl 2 g9 (nz l))) h:=by
  refine zzI func43 rfl ?_
  simp only [Tryz.f43]
  intro Q1 Y1
  repeat' (first
   | (replace Y1:=Y1;simp)
   | refine Y1 _ _ _ ?_)
  refine b0x hp (fun n fr hh=>Kept h hh/\∃ i lo s1,tix l lo = i/\i <= l.length/\n = l.length - i/\Sl hh 2 g9 s1 (l.take i)/\(s1 = .nilslc \/ l.take i ≠ [])/\(∀ b,z7 s1 = some b->h.next <= b)/\∃ j:Nat->AV,fr = ((.one (.ptr p 0 0))::(.one (.str lo))::(.one (.str []))::j 3::j 4::j 5::j 6::(.one s1)::j 8::j 9::j 10::j 11::j 12::j 13::j 14::j 15::j 16::j 17::j 18::j 19::j 20::j 21::j 22::j 23::[])) ?_ l.length _ _ ?_
  rotate_left
  ·exact ⟨b0X h,0,[],.nilslc,A0h l,by omega,rfl,.inl ⟨rfl,by simp⟩,.inl rfl,by simp [z7],y0 (by simp)⟩
  ·rintro n fr hh ⟨kk,i,lo,s1,i1,i2,i3,i4,i5,i6,j,rfl⟩
   have hn:=kk.1
   have wB:Bx hh p 2 g9 l q:=w.keep hn (kk.2 p w.1) fun b hb=>kk.2 b (w.lt hb)
   have hr:=p0j wB ok lo [] 16
   obtain ⟨rg,hrg⟩:∃ rg,a0l l lo [] 16 = rg:=⟨_,rfl⟩
   rw [hrg] at hr
   unfold a0l at hrg
   simp only [i1,if_true] at hrg
   have hm:((max 0 (min (16:Int) 16)).toNat) = 16:=by decide
   rw [hm] at hrg
   by_cases hi:l.length <= i
   ·rw [if_pos hi] at hrg
    subst hrg
    simp only [v0q] at hr
    have hil:i = l.length:=by omega
    subst hil
    rw [List.take_length] at i4 i5
    have hap:X9 prog 48 48 hh s1 .nilslc = some (s1,hh):=by
     rw [a0p (size:=2) (el:=83) (x:=.nilslc) (m:=0) (new:=[]) (u:=48) (by simp) (by simp) Tryz.bytes83 underlying48 rfl rfl]
     rcases i4 with ⟨rfl,_⟩ | ⟨bb,vv,zz,rfl,_⟩ <;> simp [M8]
    have hsn:sl 2 g9 none = .nilslc:=rfl
    rw [hsn] at hr
    have hr':W K 83 [.one (.ptr p 0 0),.one (.str lo),.one (.str []),.one (.int .i64 16)] hh = some (.ret (.tup [(false,[.nilslc]),(false,[.str []])]) hh):=hr
    first | (refine s9 ?_;intro Q2 Y2) | have Y2:=oqk
    repeat' (first
     | (replace Y2:=Y2;simp [O7,hr',hap])
     | (refine Y2 _ _ _ ?_;clear Y2 Q2;first | simp only [] | simp [O7,hr',hap] | skip)
     | (refine F6 (by assumption) ?_;(try clear Y2);first | simp only [] | simp [O7] | skip)
     | ((fail_if_success replace Y2:=Y2);(first | refine s9 ?_ | refine A1 ?_ | refine A4 ?_);intro Q2 Y2))
    exact n0E C4 c0K i4 i6 i5 kk rfl
   ·rw [if_neg hi,List.take_length] at hrg
    obtain ⟨D,hD⟩:∃ D,l.drop i = D:=⟨_,rfl⟩
    rw [hD] at hrg
    have hDl:D.length = l.length - i:=by rw [<- hD,List.length_drop]
    have hl2:l = l.take i++D:=by rw [<- hD,List.take_append_drop]
    have app:∀ m:List Named,m ≠ []->m.length <= 32->∃ s2 h2,X9 prog 48 48 hh s1 (sl 2 g9 (some m)) = some (s2,h2)/\Sl h2 2 g9 s2 (l.take i++m)/\Kept h h2/\∀ b,z7 s2 = some b->h.next <= b:=by
     intro m hm hml
     obtain ⟨s2,h2,e,⟨b,v,z,hs2,ar⟩,k1,k2,k3⟩:=P7 (P:=prog) (t:=48) underlying48 (by simp) (by simp) Tryz.bytes83 (by omega) C4 (a:=sl 2 g9 (some m)) (m:=m) i4 (by simp [sl,U9]) (l0p C4 (by omega) hh (some m)) hm (by simp only [N3,oqo];omega)
     refine ⟨s2,h2,e,.inr ⟨b,v,z,hs2,ar⟩,⟨by omega,fun b hb=>?_⟩,fun b hb=>?_⟩
     ·rw [k2 b (by omega) (fun e=>by have:=i6 b e;omega)];exact kk.2 b hb
     ·rcases k3 b hb with e | e
      ·exact i6 b e
      ·omega
    have hDn:D ≠ []:=fun e=>by rw [e] at hDl;simp at hDl;omega
    by_cases h16:D.length <= 16
    ·rw [if_pos h16] at hrg
     subst hrg
     rw [f0G hDn] at hr
     obtain ⟨s2,h2,e2,a1,a2,a3⟩:=app D hDn (by omega)
     rw [<- hl2] at a1
     have hr':W K 83 [.one (.ptr p 0 0),.one (.str lo),.one (.str []),.one (.int .i64 16)] hh = some (.ret (.tup [(false,[sl 2 g9 (some D)]),(false,[.str []])]) hh):=hr
     first | (refine s9 ?_;intro Q3 Y3) | have Y3:=oqk
     repeat' (first
      | (replace Y3:=Y3;simp [O7,hr',e2])
      | (refine Y3 _ _ _ ?_;clear Y3 Q3;first | simp only [] | simp [O7,hr',e2] | skip)
      | (refine F6 (by assumption) ?_;(try clear Y3);first | simp only [] | simp [O7] | skip)
      | ((fail_if_success replace Y3:=Y3);(first | refine s9 ?_ | refine A1 ?_ | refine A4 ?_);intro Q3 Y3))
     exact n0E C4 c0K a1 a3 (.inr (fun e=>by rw [e] at hlen hi;simp at hi)) a2 rfl
    ·rw [if_neg h16] at hrg
     have h16':16 < D.length:=by omega
     rw [List.getElem?_eq_getElem h16'] at hrg
     simp only at hrg
     subst hrg
     have hil:i + 16 < l.length:=by omega
     have hxe:D[16] = l[i + 16]:=by simp only [<- hD];rw [List.getElem_drop]
     have hD16:D.take 16 ≠ []:=fun e=>by have:=congrArg List.length e;rw [oqo,oqc] at this;omega
     rw [f0G hD16,hxe] at hr
     obtain ⟨s2,h2,e2,a1,a2,a3⟩:=app (D.take 16) hD16 (by simp;omega)
     have htk:l.take i++D.take 16 = l.take (i + 16):=by rw [<- hD,List.take_add]
     rw [htk] at a1
     have hnx:=x0N ok hil
     have hnn:=ok.nm _ (List.getElem_mem hil)
     obtain ⟨N,hN⟩:∃ N,l[i + 16].name = N:=⟨_,rfl⟩
     rw [hN] at hr hnx hnn
     have hNe:N ≠ []:=fun e=>by rw [e] at hnn;simp [J9] at hnn
     have hNb:(N == []) = false:=by simp [hNe]
     have hr':W K 83 [.one (.ptr p 0 0),.one (.str lo),.one (.str []),.one (.int .i64 16)] hh = some (.ret (.tup [(false,[sl 2 g9 (some (D.take 16))]),(false,[.str N])]) hh):=hr
     generalize sl 2 g9 (some (D.take 16)) = Z at *
     first | (refine s9 ?_;intro Q4 Y4) | have Y4:=oqk
     repeat' (first
      | (replace Y4:=Y4;simp [O7,hNb,hr',e2])
      | (refine Y4 _ _ _ ?_;clear Y4 Q4;first | simp only [] | simp [O7,hNe,hNb,hr',e2] | skip)
      | (refine F6 (by assumption) ?_;(try clear Y4);first | simp only [] | simp [O7,hNe,hNb,hr',e2] | skip)
      | ((fail_if_success replace Y4:=Y4);(first | refine s9 ?_ | refine A1 ?_ | refine A4 ?_);intro Q4 Y4))
     exact ⟨l.length - (i + 16),by omega,a2,i + 16,N,s2,hnx,by omega,rfl,a1,.inr (fun e=>by have:=congrArg List.length e;rw [oqo,oqc] at this;omega),a3,y0 (by simp)⟩
 obtain ⟨r,e,rfl⟩:=key
 exact e
theorem g0W {v:Wm.Value} (hc:M9 v = v):M9 (h0Q v) = h0Q v:=by
 unfold h0Q
 split
 ·simp [M9]
 ·exact hc
theorem q0w {o:Row} (h:RowRd o):rowCopy (X0 o) = X0 o:=by
 have hB:V5 (X0 o) = true:=by rw [h0I];exact h.ok
 unfold rowCopy
 rw [if_pos hB]
 unfold X0
 rw [c0u,List.map_map]
 congr 1
 refine List.map_congr_left fun c hc=>?_
 have hcR:=h.c c hc
 simp only [Function.comp,W7,X7,c0u,List.map_map]
 congr 2
 refine List.map_congr_left fun x hx=>?_
 simp only [Function.comp,a0e,a0r]
 rw [g0W (hcR.v x hx).c]
theorem y0s {l:List Named} (ok:TblOk l) (okr:∀ x ∈ l,RowRd x.r):TblOk (l.map J6) where
 srt:=by rw [b0Z (r:=f0A) (s:=f0A) (f:=J6) (fun a b=>rfl)];exact ok.srt
 nm x hx:=by obtain ⟨y,hy,rfl⟩:=List.mem_map.1 hx;exact ok.nm y hy
 row x hx:=by
  obtain ⟨y,hy,rfl⟩:=List.mem_map.1 hx
  refine ⟨q0w (okr y hy),fun e=>?_⟩
  have h1:=(ok.row y hy).1
  have h2:=(ok.row y hy).2
  have h3:ls y.r = []:=by
   have:ls (X0 y.r) = []:=by rw [show X0 y.r = none from e];rfl
   simpa [X0] using this
  unfold rowCopy at h1
  rw [if_pos (okr y hy).ok,h3] at h1
  exact h2 h1.symm
 len:=by simpa using ok.len
abbrev Y0 (sp:Span) (gen:Int) (fr:Bool) (pr pc:AS):Blk:=⟨0,[6],true,[.str sp.lo,.str sp.hi,ii gen,.bool fr,pr,pc]⟩
theorem n0a {h:H} {q:Nat} {sp:Span} {gen:Int} {l:List Named} {c:List Tld} {rest:BL} (os:K4 sp = true) (og:1 <= gen/\gen <= 1073741824) (ok:TblOk l) (okr:∀ x ∈ l,RowRd x.r) (okc:CchOk c) (hin:∀ x ∈ l,G9 sp x.name = true) (hq:q < h.next)
  (hf:h.f q = some (rdB (some (L7 sp++(N8 gen++(c0i l++(b0M c++rest))))))) (hroom:(L7 sp++(N8 gen++(c0i l++(b0M c++rest)))).length <= 1099511627776) :
  ∃ r,W K 97 [.one (.ptr q 0 0)] h = some r/\∃ h' d pr pc qr qc,r = .ret (.one (.ptr d 0 0)) h'/\h'.f q = some (rdB (some rest))/\(∀ b,b < h.next->b ≠ q->h'.f b = h.f b)/\h'.f d = some (Y0 sp gen false (.ptr pr 0 0) (.ptr pc 0 0))/\Bx h' pr 2 g9 (l.map J6) qr/\Bx h' pc 3 J7 (c.map V1) qc/\l0P h h' (d::pr::pc::(qr.toList++qc.toList)):=by
 obtain ⟨P,hP⟩:∃ P:CR->Prop,P = fun r=>∃ h' d pr pc qr qc,r = .ret (.one (.ptr d 0 0)) h'/\h'.f q = some (rdB (some rest))/\(∀ b,b < h.next->b ≠ q->h'.f b = h.f b)/\h'.f d = some (Y0 sp gen false (.ptr pr 0 0) (.ptr pc 0 0))/\Bx h' pr 2 g9 (l.map J6) qr/\Bx h' pc 3 J7 (c.map V1) qc/\l0P h h' (d::pr::pc::(qr.toList++qc.toList)):=⟨_,rfl⟩
 suffices hh:∃ r,W K 97 [.one (.ptr q 0 0)] h = some r/\P r by rw [hP] at hh;exact hh
 obtain ⟨lo,hi⟩:=sp
 obtain ⟨g1,e1,n1,r1,t1⟩:=M6 l0o (h:=h) (q:=q) hq hf hroom (m0W os _)
 have hr1:(N8 gen++(c0i l++(b0M c++rest))).length <= 1099511627776:=by rw [oqa] at hroom;omega
 have h32:u32 gen < 256 ^ 4:=by unfold u32;omega
 have hu32:=o0t (s:=gen) (by omega)
 obtain ⟨g3,e3,n3,r3,t3⟩:=M6 j0h (h:=g1.new ⟨0,[6],true,[.str lo,.str hi,ii 0,.bool false,.nilptr,.nilptr]⟩) (q:=q) (by simp;omega) (by rw [p0 (by omega)];exact r1) hr1 (c0f h32 _)
 simp only [A6] at n3 t3
 have hr3:(c0i l++(b0M c++rest)).length <= 1099511627776:=by rw [oqa] at hr1;omega
 have fd3:g3.f g1.next = some ⟨0,[6],true,[.str lo,.str hi,ii 0,.bool false,.nilptr,.nilptr]⟩:=by rw [t3 _ (by omega) (by omega)];simp
 obtain ⟨_,e5,g5,qr,rfl,n5,r5,t5,b5,w5⟩:=r0h (h:=g3.set g1.next ⟨0,[6],true,[.str lo,.str hi,ii gen,.bool false,.nilptr,.nilptr]⟩) (q:=q) ok okr (by simp;omega) (by rw [l0,if_neg (by omega)];exact r3) hr3
 simp only [b0f] at e5 n5 t5 b5 w5
 have hr5:(b0M c++rest).length <= 1099511627776:=by rw [oqa] at hr3;omega
 have fd5:g5.f g1.next = some ⟨0,[6],true,[.str lo,.str hi,ii gen,.bool false,.nilptr,.nilptr]⟩:=by rw [t5 _ (by omega) (by omega)];simp
 obtain ⟨_,e7,g7,qc,rfl,n7,r7,t7,b7,w7⟩:=r0Y (h:=g5.set g1.next ⟨0,[6],true,[.str lo,.str hi,ii gen,.bool false,.ptr g3.next 0 0,.nilptr]⟩) (q:=q) okc (by simp;omega) (by rw [l0,if_neg (by omega)];exact r5) hr5
 simp only [b0f] at e7 n7 t7 b7 w7
 have hb5:=b5.1
 have fd7:g7.f g1.next = some ⟨0,[6],true,[.str lo,.str hi,ii gen,.bool false,.ptr g3.next 0 0,.nilptr]⟩:=by rw [t7 _ (by omega) (by omega)];simp
 have w5':∀ b,qr = some b->g3.next < b/\b < g5.next:=fun b hb=>by
  subst hb
  have h1:=w5.1
  have h2:=w5.2 b (by simp)
  simp only [b0f] at h2
  refine ⟨?_,h2.2⟩
  have:g3.next ≠ b:=fun e=>by subst e;simp at h1
  omega
 have b8:Bx (g7.set g1.next ⟨0,[6],true,[.str lo,.str hi,ii gen,.bool false,.ptr g3.next 0 0,.ptr g5.next 0 0]⟩) g3.next 2 g9 (l.map J6) qr:=b5.keep (by simp;omega) (by rw [l0,if_neg (by omega),t7 _ (by omega) (by omega),l0,if_neg (by omega)]) fun b hb=>by
  have:=w5' b hb
  rw [l0,if_neg (by omega),t7 _ (by omega) (by omega),l0,if_neg (by omega)]
 have okn:=y0s ok okr
 have hall:=A0R b8 okn
 have hw1:IntKind.i64.wrap gen = gen:=wrap_i64 (by omega) (by omega)
 have hcv:∀ h,B6 prog 138 3 (.int .u32 ((u32 gen:Nat):Int)) h = some (.val (.one (ii gen)) h):=fun h=>by simp [B6,hu32,hw1]
 simp only [I5] at e1
 have hla:∀ (u:TypeId) (h':H),V9 (sl 2 g9 (nz (l.map J6))) (some (.slice u)) h' = some (one (ii (l.map J6).length) h'):=fun u h'=>by rw [a0C];simp
 have hinN:∀ x ∈ l.map J6,G9 ⟨lo,hi⟩ x.name = true:=fun x hx=>by obtain ⟨y,hy,rfl⟩:=List.mem_map.1 hx;exact hin y hy
 have hN32:=okn.len
 have w7':∀ b,qc = some b->g5.next < b/\b < g7.next:=fun b hb=>by
  subst hb
  have h1:=w7.1
  have h2:=w7.2 b (by simp)
  simp only [b0f] at h2
  refine ⟨?_,h2.2⟩
  have:g5.next ≠ b:=fun e=>by subst e;simp at h1
  omega
 have hb7:=b7.1
 obtain ⟨G,hG⟩:∃ G,g7.set g1.next ⟨0,[6],true,[.str lo,.str hi,ii gen,.bool false,.ptr g3.next 0 0,.ptr g5.next 0 0]⟩ = G:=⟨_,rfl⟩
 have Gn:G.next = g7.next:=by rw [<- hG];simp
 have Gd:G.f g1.next = some ⟨0,[6],true,[.str lo,.str hi,ii gen,.bool false,.ptr g3.next 0 0,.ptr g5.next 0 0]⟩:=by rw [<- hG];simp
 have Gq:G.f q = some (rdB (some rest)):=by rw [<- hG,l0,if_neg (by omega)];exact r7
 have Gf:∀ b,b < h.next->b ≠ q->G.f b = h.f b:=fun b hb hbq=>by rw [<- hG,l0,if_neg (by omega),t7 b (by omega) hbq,l0,if_neg (by omega),t5 b (by omega) hbq,l0,if_neg (by omega),t3 b (by omega) hbq,p0 (by omega),t1 b hb hbq]
 have b9:Bx G g5.next 3 J7 (c.map V1) qc:=b7.keep (by omega) (by rw [<- hG,l0,if_neg (by omega)]) fun b hb=>by have:=w7' b hb;rw [<- hG,l0,if_neg (by omega)]
 have hg1:decide (gen < 1) = false:=by simp;omega
 have hg2:¬ gen < 1:=by omega
 have hnews:∀ H2:H,g7.next <= H2.next->l0P h H2 (g1.next::g3.next::g5.next::(qr.toList++qc.toList)):=fun H2 hH2=>by
  cases qr with
  | none =>
   cases qc with
   | none=>exact ⟨by simp;omega,fun x hx=>by simp at hx;omega⟩
   | some y=>have:=w7' y rfl;exact ⟨by simp;omega,fun x hx=>by simp at hx;omega⟩
  | some x =>
   have:=w5' x rfl
   cases qc with
   | none=>exact ⟨by simp;omega,fun x hx=>by simp at hx;omega⟩
   | some y=>have:=w7' y rfl;exact ⟨by simp;omega,fun x hx=>by simp at hx;omega⟩
 rw [hG] at b8 hall
 generalize hLN:l.map J6 = LN at *
 refine zzE func97 rfl ?_
 simp only [f97]
 intro Q1 Y1
 repeat' (first
  | (replace Y1:=Y1;simp [e1,e3,hcv,fd3,e5,fd5,e7,fd7,hG,Gd,hall,hla])
  | refine Y1 _ _ _ ?_
  | refine dF (id:=8) zl8 [] ?_)
 refine I8 hp LN (fun a r fr hh=>(G.next <= hh.next/\∀ b,b < G.next->hh.f b = G.f b)/\∃ j:Nat->AV,fr = (j 0::j 1::j 2::(.one (.ptr g1.next 0 0))::j 4::j 5::j 6::j 7::j 8::j 9::j 10::j 11::j 12::j 13::j 14::j 15::j 16::j 17::j 18::j 19::j 20::j 21::j 22::j 23::j 24::j 25::j 26::j 27::j 28::j 29::(.one (sl 2 g9 (nz LN)))::(.one (ii LN.length))::(.one (ii a.length))::j 33::j 34::j 35::j 36::j 37::j 38::j 39::j 40::j 41::j 42::j 43::j 44::j 45::j 46::j 47::j 48::j 49::j 50::j 51::j 52::j 53::j 54::[])) ?_ ?_ _ _ ?_
 rotate_left 2
 ·exact ⟨⟨oqg _,fun _ _=>rfl⟩,y0 (by simp)⟩
 ·rintro a x r fr hh hll ⟨⟨i1,i2⟩,j,rfl⟩
  have hil:a.length < LN.length:=by rw [hll];simp
  have hnz:nz LN = some LN:=f0G (fun e=>by rw [e] at hil;simp at hil)
  have hix:=N6 (P:=prog) (enc:=g9) (s:=2) (l:=LN) (i:=a.length) underlying48 (by simp) (by omega) hil
  have hrd:=O9 (enc:=g9) (s:=2) C4 a x r (o:=0) (n:=2) (by omega)
  rw [<- hll] at hrd
  simp only [Nat.add_zero,L4 (C4 _)] at hrd
  have hxi:=hinN x (by rw [hll];simp)
  obtain ⟨xn,xr⟩:=x
  have hHas:=g0h lo hi xn
  rw [hxi] at hHas
  simp only [g9] at hrd
  have fdh:hh.f g1.next = some ⟨0,[6],true,[.str lo,.str hi,ii gen,.bool false,.ptr g3.next 0 0,.ptr g5.next 0 0]⟩:=by rw [i2 _ (by omega)];exact Gd
  have hne1:¬ g1.next = hh.next:=by omega
  have hw:IntKind.i64.wrap ((a.length:Int) + 1) = ((a++[(⟨xn,xr⟩:Named)]).length:Int):=by rw [S4];exact J1 (by omega)
  generalize hA2:a++[(⟨xn,xr⟩:Named)] = A2 at *
  rw [hnz]
  first | (refine s9 ?_;intro Q2 Y2) | have Y2:=oqk
  repeat' (first
   | (replace Y2:=Y2;simp [hix,hrd,hil,hHas,fdh,hne1,hw])
   | (refine Y2 _ _ _ ?_;clear Y2 Q2;first | simp only [] | simp [hix,hrd,hil,hHas,fdh,hne1,hw] | skip)
   | (refine F6 (by assumption) ?_;(try clear Y2);first | simp only [] | simp [hix,hrd,hil,hHas,fdh,hne1,hw] | skip)
   | ((fail_if_success replace Y2:=Y2);(first | refine s9 ?_ | refine A1 ?_ | refine A4 ?_);intro Q2 Y2)
   | refine dF (id:=8) zl8 [] ?_)
  exact ⟨⟨by simp;omega,fun b hb=>by rw [p0 (by omega)];exact i2 b hb⟩,y0 (by simp)⟩
 ·rintro fr hh ⟨⟨i1,i2⟩,j,rfl⟩
  have fdh:hh.f g1.next = some ⟨0,[6],true,[.str lo,.str hi,ii gen,.bool false,.ptr g3.next 0 0,.ptr g5.next 0 0]⟩:=by rw [i2 _ (by omega)];exact Gd
  first | (refine s9 ?_;intro Q3 Y3) | have Y3:=oqk
  repeat' (first
   | (replace Y3:=Y3;simp [fdh,hg2])
   | (refine Y3 _ _ _ ?_;clear Y3 Q3;first | simp only [] | simp [fdh,hg1,hg2] | skip)
   | (refine F6 (by assumption) ?_;(try clear Y3);first | simp only [] | simp [fdh] | skip)
   | ((fail_if_success replace Y3:=Y3);(first | refine s9 ?_ | refine A1 ?_ | refine A4 ?_);intro Q3 Y3)
   | refine dF (id:=8) zl8 [] ?_)
  rw [hP]
  exact ⟨hh,g1.next,g3.next,g5.next,qr,qc,rfl,by rw [i2 _ (by omega)];exact Gq,fun b hb hbq=>by rw [i2 b (by omega)];exact Gf b hb hbq,fdh,b8.keep i1 (i2 _ b8.1) fun b hb=>i2 b (b8.lt hb),b9.keep i1 (i2 _ b9.1) fun b hb=>i2 b (b9.lt hb),hnews hh (by omega)⟩
def a0E (sp:Span) (gen:Int) (l:List Named) (c:List Tld):BL:=L7 sp++(N8 gen++(c0i l++b0M c))
theorem Apart.keep {t p:Nat} {tq q q':Option Nat} {h h':H} (a:Apart t tq p q) (o:Only h h' p q q') (ht:t < h.next) (hq:∀ b,tq = some b->b < h.next):Apart t tq p q' where
 tp:=a.tp
 qt:=by
  rcases o.own with e | ⟨y,e,hy⟩
  ·rw [e];exact a.qt
  ·rw [e];intro hc;cases hc;omega
 bp:=a.bp
 qb b hb:=by
  rcases o.own with e | ⟨y,e,hy⟩
  ·rw [e];exact a.qb b hb
  ·rw [e];intro hc;cases hc;have:=hq _ hb;omega
theorem n0I {α:Type} {h h':H} {t p size:Nat} {enc:α->List AS} {l:List α} {tq q q':Option Nat} (b:Bx h t size enc l tq) (a:Apart t tq p q) (o:Only h h' p q q'):Bx h' t size enc l tq :=
 b.keep o.next (o.keep t b.1 a.tp a.qt) fun x hx=>o.keep x (b.lt hx) (fun e=>a.bp (by rw [hx,e])) (a.qb x hx)
theorem v0a {h:H} {p d pr pc:Nat} {q qr qc:Option Nat} {x:BL} {sp:Span} {gen:Int} {fr:Bool} {l:List Named} {c:List Tld} (w:Wr h p q x) (os:K4 sp = true) (hd:h.f d = some (Y0 sp gen fr (.ptr pr 0 0) (.ptr pc 0 0))) (hdn:d < h.next) (hdp:d ≠ p) (hdq:q ≠ some d)
  (br:Bx h pr 2 g9 l qr) (bc:Bx h pc 3 J7 c qc) (ok:TblOk l) (okc:CchOk c) (ar:Apart pr qr p q) (ac:Apart pc qc p q) (hl:x.length + (a0E sp gen l c).length <= 1099511627776) :
  ∃ h' q',W K 58 [.one (.ptr d 0 0),.one (.ptr p 0 0)] h = some (.ret (.tup []) h')/\Wr h' p q' (x++a0E sp gen l c)/\Only h h' p q q':=by
 obtain ⟨lo,hi⟩:=sp
 have hs:=os
 simp only [K4,oqd,oqj] at hs
 simp only [a0E,oqa] at hl
 obtain ⟨h1,q1,e1,w1,o1⟩:=w0T lo hi (by omega) (by omega) h p q x w (by omega)
 obtain ⟨h2,q2,e2,w2,o2⟩:=j0a gen h1 p q1 _ w1 (by simp only [oqa];omega)
 have o12:=o1.trans o2
 have br2:=n0I br ar o12
 have bc2:=n0I bc ac o12
 have ar2:=ar.keep o12 br.1 fun b hb=>br.lt hb
 have ac2:=ac.keep o12 bc.1 fun b hb=>bc.lt hb
 obtain ⟨h3,q3,e3,w3,o3⟩:=C0C w2 br2 ok ar2 (by simp only [oqa];omega)
 have bc3:=n0I bc2 ac2 o3
 have ac3:=ac2.keep o3 bc2.1 fun b hb=>bc2.lt hb
 obtain ⟨h4,q4,e4,w4,o4⟩:=B0K w3 bc3 okc ac3 (by simp only [oqa];omega)
 have o13:=o12.trans o3
 have f1:h1.f d = _:=(o1.keep d hdn hdp hdq).trans hd
 have f2:h2.f d = _:=(o12.keep d hdn hdp hdq).trans hd
 have f3:h3.f d = _:=(o13.keep d hdn hdp hdq).trans hd
 refine ⟨h4,q4, ?_,by simpa [a0E,oqh] using w4,o13.trans o4⟩
 simp only [Y0] at hd f1 f2 f3
 refine zzD func58 rfl ?_
 simp only [f58]
 intro Q1 Y1
 repeat' (first
  | (replace Y1:=Y1;simp [B6,hd,f1,f2,f3,e1,e2,e3,e4])
  | refine Y1 _ _ _ ?_)
def v0E (a b:BL):BL:=if Op.bytesLess a b then b else a
def f0c (a b:Span):Bool:=K4 a && (K4 b && (G9 a (v0E a.lo b.lo) && G9 b (v0E a.lo b.lo)))
theorem r0b (l1 h1 l2 h2:BL) (h:H):W K 61 [.agg [.str l1,.str h1],.agg [.str l2,.str h2]] h = some (.ret (.one (.bool (f0c ⟨l1,h1⟩ ⟨l2,h2⟩))) h):=by
 have r1:=a0o l1 h1
 have r2:=a0o l2 h2
 have m1:=g0h l1 h1 (v0E l1 l2)
 have m2:=g0h l2 h2 (v0E l1 l2)
 have mm:X8 true (.str l1) (.str l2) = some (.str (v0E l1 l2)):=rfl
 refine zzP (hv:=by simp [M5,-X8,c7,v9]) func61 rfl ?_
 simp only [f61]
 intro Yb Q1 Y1
 repeat' (first
  | (replace Y1:=Y1;simp [r1,r2,m1,m2,-X8,mm])
  | (refine Y1 _ _ _ ?_;clear Y1 Q1;first | simp only [] | simp [f0c,-X8,A7,A0,z9,c7,u9,Yb])
  | (first | apply cF | apply wN | apply wS) <;> intro Ya <;> (try simp only [Ya]) <;> (try simp [-List.isEmpty_iff,-List.isEmpty_eq_false_iff] at Ya))
 all_goals first | done | (simp_all [-List.isEmpty_iff,-List.isEmpty_eq_false_iff];done) | (simp_all;first | done | omega) | (simp;omega) | (intros;first | omega | (simp only [oqj] at *;omega) | (simp at *;omega))
end Go.Proofs.YtiagcnfmgigllaaGreat
namespace Wm
open Go Go.Ab
structure TabD where
 span:Span
 gen:Int
 fr:Bool
 rows:List Named
 cache:List Tld
def noA (c:Int):Answer:=⟨c,none,⟨[],[]⟩,0,0,0,0,0,[],none⟩
def f0v (l:List Named) (o:Op):List Named × Int :=
 let r:=(b0g l o.row).1
 if holds r o.cond = false then (l,25) else
 let a:=apply r (ls o.l)
 if a.2 = 0 then i0p l o.row a.1 else (l,a.2)
def hiT (sp:Span) (hi:BL):BL:=if hi ≠ []/\(sp.hi = [] \/ blt hi sp.hi = true) then hi else sp.hi
def opT (sp:Span) (l:List Named) (o:Op):Answer × List Named :=
 if o.kind = 1 then (if (b0g l o.row).2 = true then ⟨0,some [⟨o.row,(b0g l o.row).1⟩],⟨[],[]⟩,0,0,0,0,0,[],none⟩ else noA 0,l)
 else if o.kind = 2 then (noA (f0v l o).2,(f0v l o).1)
 else
  let r:=a0l l o.row (hiT sp o.hi) o.most
  (⟨0,nz r.1,⟨o.row,if r.2 = [] then hiT sp o.hi else r.2⟩,0,0,0,0,0,[],none⟩,l)
def d0G (a:Answer):Bool:=(i0J a.code 255 && (i0J a.group 255 && (i0J a.to 255 && i0J a.do_ 255))) && ((i0J a.gen 1073741824 && i0J a.old 1073741824) && (((ls a.rows).all fun x=>J9 x.name && V5 x.r) && (decide ((ls a.rows).length <= 16) && (K4 a.span && (decide (a.at_.length <= 16) && decide (f0w a.state <= 1048576))))))
def b0I (a:Answer):BL:=u8 a.code::u8 (ls a.rows).length::((ls a.rows).flatMap K9++(L7 a.span++(u8 a.group::u8 a.to::u8 a.do_::(N8 a.gen++(N8 a.old++(I1 a.at_++I1 (ls a.state)))))))
def g0T (a:Answer):Answer:=⟨a.code,nz ((ls a.rows).map J6),a.span,a.group,a.gen,a.old,a.to,a.do_,a.at_,some (ls a.state)⟩
def tlt (a b:TabD):Bool:=blt a.span.lo b.span.lo
structure TabOk (t:TabD):Prop where
 sp:K4 t.span = true
 gen:1 <= t.gen/\t.gen <= 1073741824
 rows:TblOk t.rows
 cache:CchOk t.cache
 inn:∀ x ∈ t.rows,G9 t.span x.name = true
end Wm
