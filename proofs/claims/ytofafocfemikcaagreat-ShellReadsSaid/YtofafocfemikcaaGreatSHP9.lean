/- A part of a proof over the abstract machine. No conditions. -/
import Derived.Test.YtofafocfemikcaaGreatSHP7
import Derived.Test.YtofafocfemikcaaGreatSHW2s
import Derived.Test.YtofafocfemikcaaGreatSHR3
import Derived.Test.YtofafocfemikcaaGreatSJ2
set_option linter.unusedSimpArgs false
set_option linter.unnecessarySimpa false
set_option linter.unusedVariables false
namespace Go.Proofs.YtofafocfemikcaaGreat
open Go Go.Ab Wm NumPlain
set_option maxRecDepth 10000
set_option maxHeartbeats 4000000
theorem app_nil (h:H) (o:Option BL) (hn:(ls o).length ≤ 1048576):∃ s' h',appendA Tryz.prog 31 31 h .nilslc (bs o) = some (s',h')∧((ls o = []∧s' = .nilslc) ∨ Byt h' s' (ls o)):=by
 rw [append_slice (x:=bs o) (t:=31) (by simp) (by simp) Tryz.bytes5 Tryz.underlying31 (lenS_bs _) (elems_bs h o)]
 by_cases h0:ls o = []
 ·rw [h0]
  exact ⟨.nilslc,h,by simp [appendL],.inl ⟨rfl,rfl⟩⟩
 ·have hp:(ls o).length ≠ 0:=fun e=>h0 (List.eq_nil_of_length_eq_zero e)
  generalize ls o = l at *
  exact ⟨.slc h.next 0 0 l.length 1 none,h.new ⟨0,[l.length],false,l.map byteS⟩,by simp [appendL,h0,limit];omega,.inr (byt_at (fx:=false) (by simp) (by simp))⟩
theorem law_reads (x:Raw) (hx:RawOk x) (b:Option BL) (hb:(ls b).length < 9223372036854775808) (at_:Int) (hat:I64 at_) (turn:UInt8) (h:H):∃ r,W K 4 [.agg [ii x.c.groups,ii x.c.n,ii x.c.clients,sl 19 encDraw x.l,sl 5 encItem x.items,.bool x.tame],.one (bs b),.one (ii at_),.one (byteS turn)] h = some r∧Rets (fun v h'=>v = .one (.bool true)) r:=by
 have hm:=made_c x hx
 have hml:=mkL_len x
 obtain ⟨g,hg⟩:∃ g,(mkC x).groups = g:=⟨_,rfl⟩
 obtain ⟨n,hn⟩:∃ n,(mkC x).n = n:=⟨_,rfl⟩
 obtain ⟨c,hc⟩:∃ c,(mkC x).clients = c:=⟨_,rfl⟩
 obtain ⟨o,ho⟩:∃ o,opt (mkL x) = o:=⟨_,rfl⟩
 have hl:(ls o).length ≤ 42:=by rw [← ho,ls_opt];omega
 rw [hg,hn,hc,ho] at hm
 obtain ⟨⟨cg,cn,cc⟩,xl,xi,tame⟩:=x
 have hk:=known_c
 have hr:=sright_c g n c o (by omega)
 have hcut:∀ h,W K 12 [.one (bs b),.one (.int .i64 100)] h = some (.ret (.one (bs (cutB b 100))) h):=fun h=>cut_c b 100 (by omega) h
 have hrb:=reads_c b hb
 refine Rets.intro fun P hP=>?_
 cases hok:ShellPlain.okS (scP g n c o) with
 | false =>
  rw [hok] at hr
  clear hml hg hn hc ho
  obtain ⟨C,hC⟩:∃ C,cutB b 100 = C:=⟨_,rfl⟩
  have hCl:(ls C).length ≤ 1000:=by
   rw [← hC]
   unfold cutB
   split
   ·simp <;> omega
   ·omega
  rw [hC] at hcut
  obtain ⟨s',h',ea,hs⟩:=app_nil (((h.new ⟨0,[6],true,[ii cg,ii cn,ii cc,sl 19 encDraw xl,sl 5 encItem xi,.bool tame]⟩).new ⟨0,[4],true,[.int .i64 0,.int .i64 0,.int .i64 0,.nilslc]⟩).set (h.next + 1) ⟨0,[4],true,[ii g,ii n,ii c,sl 5 encItem o]⟩) C (by omega)
  have SL:=fun h=>slice_to h (ls C++marks) (ls C).length (by simp)
  rw [List.take_left] at SL
  have bz:=bs_size (some (ls C++marks))
  have r1:=reads_c (some (ls C)) (by simp;omega)
  rcases hs with ⟨e0,rfl⟩ | hs
  ·have q1:=fun h=>roomy_c none (by simp) h
   have q2:=fun h=>intact_c [] none rfl (by simp) h
   rw [e0] at SL bz r1
   simp only [bs_none,ls_none,List.nil_append,List.length_nil] at q1 q2 SL bz
   have SL2:∀ h,sliceA h 1 (bs (some marks)) none (some (.one (.int .i64 0))) none = some (bs (some [])):=fun h=>slice_to h marks 0 (by simp)
   refine W_doesQ hp rfl rfl rfl Tryz.func4 rfl (by simp [Tryz.f4]) ?_
   simp only [Tryz.f4]
   refine hide ?_;intro Q1 hQ1
   repeat' (first
    | (replace hQ1:=hQ1;simp [hm,hr,hk,hcut,hrb,ea,q1,q2,SL2,bz,r1])
    | refine hQ1 _ _ _ ?_
    | (first | apply cF | apply wN | apply wS) <;> intro hcnd <;> (try simp only [hcnd]) <;> (try simp [-List.isEmpty_iff,-List.isEmpty_eq_false_iff] at hcnd))
   all_goals first | exact hP _ _ rfl | trace_state
  ·have q1:=roomy_v hs (by omega)
   have q2:=intact_v hs (by omega)
   have qL:∀ h,lenA s' (some (.slice 5)) h = some (one (ii (ls C).length) h):=by
    obtain ⟨b',v',rfl,_⟩:=byt_slc hs
    intro h;rfl
   generalize ls C++marks = F at *
   refine W_doesQ hp rfl rfl rfl Tryz.func4 rfl (by simp [Tryz.f4]) ?_
   simp only [Tryz.f4]
   refine hide ?_;intro Q2 hQ2
   repeat' (first
    | (replace hQ2:=hQ2;simp [hm,hr,hk,hcut,hrb,ea,q1,q2,qL,SL,bz,r1])
    | refine hQ2 _ _ _ ?_
    | (first | apply cF | apply wN | apply wS) <;> intro hcnd <;> (try simp only [hcnd]) <;> (try simp [-List.isEmpty_iff,-List.isEmpty_eq_false_iff] at hcnd))
   all_goals first | exact hP _ _ rfl | trace_state
 | true =>
  have hall:=okS_all hok
  have hTl:((ls o).flatMap itBs).length ≤ (ls o).length * 65550:=flat_len fun y hy=>itB_len (hall y hy)
  rw [hok] at hr
  obtain ⟨C,hC⟩:∃ C,cutB b 100 = C:=⟨_,rfl⟩
  have hCl:(ls C).length ≤ 1000:=by
   rw [← hC]
   unfold cutB
   split
   ·simp <;> omega
   ·omega
  rw [hC] at hcut
  obtain ⟨wx,hw⟩:=written_c g n c o (by omega) hall (((h.new ⟨0,[6],true,[ii cg,ii cn,ii cc,sl 19 encDraw xl,sl 5 encItem xi,.bool tame]⟩).new ⟨0,[4],true,[.int .i64 0,.int .i64 0,.int .i64 0,.nilslc]⟩).set (h.next + 1) ⟨0,[4],true,[ii g,ii n,ii c,sl 5 encItem o]⟩)
  obtain ⟨B,hB⟩:∃ B,ShellPlain.scB (scP g n c o) = B:=⟨_,rfl⟩
  have hB3:3 ≤ B.length∧B.length ≤ 2800000:=by
   rw [← hB,scB_eq]
   simp only [List.length_append,List.length_cons,List.length_nil]
   omega
  rw [hB] at hw
  clear hml hg hn hc ho hC hB hTl hall hok
  obtain ⟨H0,hH0⟩:∃ H0,(((h.new ⟨0,[6],true,[ii cg,ii cn,ii cc,sl 19 encDraw xl,sl 5 encItem xi,.bool tame]⟩).new ⟨0,[4],true,[.int .i64 0,.int .i64 0,.int .i64 0,.nilslc]⟩).set (h.next + 1) ⟨0,[4],true,[ii g,ii n,ii c,sl 5 encItem o]⟩) = H0:=⟨_,rfl⟩
  obtain ⟨H1,hH1⟩:∃ H1,H0.new (blkOf (B.map byteS) wx) = H1:=⟨_,rfl⟩
  obtain ⟨b0,hb0⟩:∃ b0,H0.next = b0:=⟨_,rfl⟩
  have f1:H1.f b0 = some ⟨0,[B.length],wx,B.map byteS⟩:=by rw [← hH1,← hb0];simp
  have n1:b0 < H1.next:=by rw [← hH1,← hb0];simp
  have hwH:W K 9 [.agg [ii g,ii n,ii c,sl 5 encItem o]] (((h.new ⟨0,[6],true,[ii cg,ii cn,ii cc,sl 19 encDraw xl,sl 5 encItem xi,.bool tame]⟩).new ⟨0,[4],true,[.int .i64 0,.int .i64 0,.int .i64 0,.nilslc]⟩).set (h.next + 1) ⟨0,[4],true,[ii g,ii n,ii c,sl 5 encItem o]⟩) = some (.ret (.one (.slc b0 0 0 B.length 1 none)) H1):=by
   rw [hw,← hH1,← hb0,← hH0]
  clear hw
  obtain ⟨Q,hQ,hQB⟩:∃ Q:Nat,withinI at_ 0 ((B.length:Int) - 1) = (Q:Int)∧Q < B.length:=by
   have:=@withinI_bounds at_ 0 ((B.length:Int) - 1) (by omega)
   exact ⟨(withinI at_ 0 ((B.length:Int) - 1)).toNat,by omega,by omega⟩
  have hwi:=within_c at_ 0 ((B.length:Int) - 1) (by omega) (by omega) (by omega) hat
  rw [hQ] at hwi
  obtain ⟨c0,hrd⟩:=cell_r B Q hQB H1 b0 wx f1
  obtain ⟨c1,hxo⟩:=xor8 c0 turn
  have hwr:=cell_w B Q hQB c1 H1 b0 wx f1
  obtain ⟨H2,hH2⟩:∃ H2,H1.set b0 ⟨0,[B.length],wx,(B.set Q c1).map byteS⟩ = H2:=⟨_,rfl⟩
  have f2:H2.f b0 = some ⟨0,[(B.set Q c1).length],wx,(B.set Q c1).map byteS⟩:=by rw [← hH2,List.length_set];simp
  have n2:b0 < H2.next:=by rw [← hH2];simpa using n1
  rw [hH2] at hwr
  have by2:=byt_at n2 f2
  rw [List.length_set] at by2
  obtain ⟨D,hD⟩:∃ D,B.set Q c1 = D:=⟨_,rfl⟩
  have hDl:D.length = B.length:=by rw [← hD,List.length_set]
  rw [hD] at by2
  obtain ⟨s',h',ea,hs,_⟩:=os_append (P:=Tryz.prog) (t:=31) Tryz.underlying31 (by simp) (by simp) Tryz.bytes5 (a:=bs C) (x:=ls C) (kept:=[]) ⟨by2,trivial,fun e he=>by cases he⟩ (lenS_bs _) (elems_bs H2 C) (by omega)
  have hs:=hs.byt
  obtain ⟨E,hE⟩:∃ E,D++ls C = E:=⟨_,rfl⟩
  have hEl:E.length ≤ 3000000:=by rw [← hE,List.length_append];omega
  rw [hE] at hs
  have SL:=fun h=>slice_to h (E++marks) E.length (by simp)
  rw [List.take_left] at SL
  have bz:=bs_size (some (E++marks))
  have r1:=reads_c (some E) (by simp;omega)
  have q1:=roomy_v hs (by omega)
  have q2:=intact_v hs (by omega)
  have qL:∀ h,lenA s' (some (.slice 5)) h = some (one (ii E.length) h):=by
   obtain ⟨b',v',rfl,_⟩:=byt_slc hs
   intro h;rfl
  have hi:=arr_index (P:=Tryz.prog) (size:=1) (b:=b0) (v:=0) (n:=B.length) (i:=Q) Tryz.underlying31 (by simp) (by omega) hQB
  rw [Nat.mul_one] at hi
  have hwl:IntKind.i64.wrap ((B.length:Int) - 1) = (B.length:Int) - 1:=wrap_i64 (by omega) (by omega)
  generalize E++marks = F at *
  simp at hrd hwr
  clear hH0 hH1 hb0 f1 n1 f2 n2 by2 hH2 hD hs hE
  refine W_doesQ hp rfl rfl rfl Tryz.func4 rfl (by simp [Tryz.f4]) ?_
  simp only [Tryz.f4]
  refine hide ?_;intro Q3 hQ3
  repeat' (first
   | (replace hQ3:=hQ3;simp [hm,hr,hk,hcut,hrb,hwH,hwi,hwl,hi,hrd,hxo,hwr,ea,q1,q2,qL,SL,bz,r1])
   | refine hQ3 _ _ _ ?_
   | (first | apply cF | apply wN | apply wS) <;> intro hcnd <;> (try simp only [hcnd]) <;> (try simp [-List.isEmpty_iff,-List.isEmpty_eq_false_iff] at hcnd))
  all_goals first | exact hP _ _ rfl | trace_state
end Go.Proofs.YtofafocfemikcaaGreat
