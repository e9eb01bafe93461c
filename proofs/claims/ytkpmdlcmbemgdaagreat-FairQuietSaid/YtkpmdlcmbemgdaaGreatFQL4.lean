/- A part of a proof over the abstract machine. No conditions. -/
import Derived.Test.YtkpmdlcmbemgdaaGreatFQL3
set_option linter.unusedSimpArgs false
set_option linter.unnecessarySimpa false
set_option linter.unusedVariables false
namespace Go.Proofs.YtkpmdlcmbemgdaaGreat
open Go Go.Ab Go.Fa Wm
set_option maxRecDepth 10000
set_option maxHeartbeats 4000000
section
variable {G N C:Nat} {V0 V1 V2:View} {V:(Nat→Int)→View} {n:Nat} {ld bl rp:Nat→Nat}
theorem quiet_c (q:Qt G N C V0 V1 V2 V n ld bl rp) (hV:∀ x,(V x).next = n) (hG:G ≤ 3) (hld:∀ k,ld k < 1000) (hbl:∀ k,bl k < 1000)
  (kn:∀ h,∃ h',W K 15 [] h = some (.ret (.one (.bool true)) h'))
  (x0 x1 x2 more:Int) (hm:I64 more) (h0 h1:H) (hc:W K 4 [.one (ii x0),.one (ii x1),.one (ii x2)] h0 = some (.ret (.agg [ii G,ii N,ii C]) h1)) :
  ∃ h',W K 3 [.one (ii x0),.one (ii x1),.one (ii x2),.one (ii more)] h0 = some (.ret (.one (.bool true)) h'):=by
 suffices hs:∃ r,W K 3 [.one (ii x0),.one (ii x1),.one (ii x2),.one (ii more)] h0 = some r∧Rets (fun v h'=>v = .one (.bool true)) r by
  obtain ⟨r,e,hr⟩:=hs
  obtain ⟨v,h',rfl,rfl⟩:=hr.ret
  exact ⟨h',e⟩
 refine Rets.intro fun P hP=>?_
 obtain ⟨hA,hAe⟩:∃ hA,hA = h1.new ⟨0,[3],true,[ii G,ii N,ii C]⟩:=⟨_,rfl⟩
 have hAf:hA.f h1.next = some ⟨0,[3],true,[ii G,ii N,ii C]⟩:=by rw [hAe];simp [new_at]
 have hAn:hA.next = h1.next + 1:=by rw [hAe];simp
 have hs1:=new_set h1 ⟨0,[3],true,[ii 0,ii 0,ii 0]⟩ ⟨0,[3],true,[ii G,ii N,ii C]⟩
 obtain ⟨hO,ρ0,eO,aO,nO,kO,bO⟩:=q.opened hA
 have eO:W K 5 [.agg [ii G,ii N,ii C]] hA = some (.ret (.one (.ptr (ρ0 4) 0 0)) hO):=eO
 have iO:Inv V0 V1 V2 V n (ρ0 4) hA.next hA 0 hO:=⟨_,ρ0,⟨rfl,aO⟩,rfl,bO,nO,kO⟩
 generalize ρ0 4 = w at *
 clear aO bO kO nO
 obtain ⟨bc,hbc⟩:∃ bc,h1.next = bc:=⟨_,rfl⟩
 rw [hbc] at hAf hAn hs1
 refine W_doesQ hp rfl rfl rfl Tryz.func3 rfl (by simp [Tryz.f3]) ?_
 simp only [Tryz.f3]
 refine hide ?_;intro Q1 hQ1
 repeat' (first
  | (replace hQ1:=hQ1;simp [hc,hs1,← hAe,eO,hbc,hAf,bin,ford,equalA])
  | refine hQ1 _ _ _ ?_
  | (first | refine dF (id:=19) [0,1,2,3,4,5,6,7,8] [] ?_ | refine dF (id:=29) [0,1,2,3,4,5,6,7,8,9,10,11,12,13,14,15,16,17,18,19,20,21,22,23,24,25] [(15,18)] ?_)
  | (first | apply cF | apply wN | apply wS) <;> intro hcnd <;> (try simp only [hcnd]) <;> (try simp [-List.isEmpty_iff,-List.isEmpty_eq_false_iff] at hcnd))
 obtain ⟨I,hI⟩:∃ I:Nat→Fr→H→Prop,I = fun (k:Nat) fr hh=>Inv V0 V1 V2 V n w hA.next hA k hh∧∃ j:Nat→AV,fr = (j 0::j 1::j 2::(.one (ii more))::j 4::j 5::j 6::j 7::(.one (.bool false))::(.one (.ptr bc 0 0))::(.one (.ptr w 0 0))::(.one (ii (k:Int)))::j 12::j 13::j 14::j 15::j 16::j 17::j 18::j 19::j 20::j 21::j 22::j 23::j 24::j 25::j 26::j 27::j 28::j 29::j 30::j 31::j 32::j 33::j 34::j 35::j 36::j 37::j 38::j 39::j 40::j 41::j 42::j 43::j 44::j 45::j 46::j 47::j 48::j 49::j 50::j 51::j 52::j 53::j 54::j 55::j 56::j 57::j 58::j 59::j 60::j 61::j 62::j 63::j 64::j 65::j 66::j 67::j 68::j 69::j 70::j 71::j 72::j 73::j 74::j 75::j 76::j 77::j 78::j 79::j 80::j 81::j 82::j 83::j 84::j 85::j 86::j 87::j 88::j 89::j 90::j 91::j 92::j 93::j 94::j 95::j 96::j 97::j 98::j 99::j 100::j 101::j 102::j 103::j 104::j 105::j 106::j 107::j 108::j 109::j 110::j 111::j 112::j 113::j 114::j 115::j 116::j 117::j 118::j 119::j 120::j 121::j 122::j 123::j 124::j 125::j 126::j 127::j 128::j 129::j 130::j 131::j 132::j 133::j 134::j 135::j 136::j 137::j 138::[]):=⟨_,rfl⟩
 refine does_count hp 64 I ?_ ?_ _ _ (by rw [hI];exact ⟨iO,ex_get' (by simp)⟩)
 ·intro k fr hh hk hx
  rw [hI] at hx
  obtain ⟨hi,j,rfl⟩:=hx
  obtain ⟨s,hR,v,h',e1,e2,i2⟩:=inv_go q hi
  obtain ⟨_,_,_,_,_,_,kB⟩:=hi
  have hBc:hh.f bc = some ⟨0,[3],true,[ii G,ii N,ii C]⟩:=by rw [kB bc (by omega)];exact hAf
  have hlt:(k:Int) < 64:=by omega
  have hltb:decide ((k:Int) < 64) = true:=by simpa using hlt
  have hw1:IntKind.i64.wrap ((k:Int) + 1) = ((k + 1:Nat):Int):=by rw [wrap_i64 (by omega) (by omega)];omega
  first | (refine hide ?_;intro Q2 hQ2) | have hQ2:=True.intro
  repeat' (first
   | (replace hQ2:=hQ2;simp [hBc,hlt,hltb,e1,e2,hw1])
   | (refine hQ2 _ _ _ ?_;clear hQ2 Q2;first | simp only [] | simp [hBc,hlt,hltb,e1,e2,hw1] | skip)
   | (refine hadQ (by assumption) ?_;(try clear hQ2);first | simp only [] | simp [hBc,hlt,hltb,e1,e2,hw1] | skip)
   | ((fail_if_success replace hQ2:=hQ2);(first | refine hide ?_ | refine hideS ?_ | refine hideB ?_);intro Q2 hQ2)
   | (first | refine dF (id:=19) [0,1,2,3,4,5,6,7,8] [] ?_ | refine dF (id:=29) [0,1,2,3,4,5,6,7,8,9,10,11,12,13,14,15,16,17,18,19,20,21,22,23,24,25] [(15,18)] ?_)
   | (first | apply cF | apply wN | apply wS) <;> intro hcnd <;> (try simp only [hcnd]) <;> (try simp [-List.isEmpty_iff,-List.isEmpty_eq_false_iff] at hcnd))
  all_goals (rw [hI];exact ⟨i2,ex_get' (by simp)⟩)
 ·intro fr hh hx
  rw [hI] at hx
  obtain ⟨⟨m,ρ,⟨hm,sx⟩,rfl,bB,nB,kB⟩,j,rfl⟩:=hx
  clear hI I hm
  have hBc:hh.f bc = some ⟨0,[3],true,[ii G,ii N,ii C]⟩:=by rw [kB bc (by omega)];exact hAf
  obtain ⟨h5,e5,s5,k5⟩:=q.settled ρ hh sx
  have e5:W K 8 [.one (.ptr (ρ 4) 0 0)] hh = some (.ret (.one (.bool true)) h5):=by simpa [mV,mS,p] using e5
  obtain ⟨h6,hh6⟩:∃ h6,h6 = (h5.new ⟨0,[4],true,[ii 0,ii 0,ii 0,ii 0]⟩).new ⟨0,[4],true,[ii 0,ii 0,ii 0,ii 0]⟩:=⟨_,rfl⟩
  generalize hw:ρ 4 = w at *
  first | (refine hide ?_;intro Q3 hQ3) | have hQ3:=True.intro
  repeat' (first
   | (replace hQ3:=hQ3;simp [hBc,e5,← hh6])
   | (refine hQ3 _ _ _ ?_;clear hQ3 Q3;first | simp only [] | simp [hBc,e5,← hh6] | skip)
   | (refine hadQ (by assumption) ?_;(try clear hQ3);first | simp only [] | simp [hBc,e5,← hh6] | skip)
   | ((fail_if_success replace hQ3:=hQ3);(first | refine hide ?_ | refine hideS ?_ | refine hideB ?_);intro Q3 hQ3)
   | (first | refine dF (id:=19) [0,1,2,3,4,5,6,7,8] [] ?_ | refine dF (id:=29) [0,1,2,3,4,5,6,7,8,9,10,11,12,13,14,15,16,17,18,19,20,21,22,23,24,25] [(15,18)] ?_)
   | (first | apply cF | apply wN | apply wS) <;> intro hcnd <;> (try simp only [hcnd]) <;> (try simp [-List.isEmpty_iff,-List.isEmpty_eq_false_iff] at hcnd))
  obtain ⟨b1,hb1⟩:∃ b,h5.next = b:=⟨_,rfl⟩
  rw [hb1]
  have hlo:∀ a,a < n→ρ a < b1:=fun a ha=>by rw [← hb1];exact std_next hV s5 ha
  have f1:F4 h6 b1 [ii 0,ii 0,ii 0,ii 0]:=⟨by rw [hh6,← hb1];simp [new_at],rfl⟩
  have f2:F4 h6 (b1 + 1) [ii 0,ii 0,ii 0,ii 0]:=⟨by rw [hh6,← hb1];simp [new_at],rfl⟩
  have n6:b1 + 2 ≤ h6.next:=by rw [hh6,← hb1];simp
  have s6:Std V ρ h6:=s5.keep hV (by omega) fun b hb=>by
   have:=hlo b hb
   rw [hh6];simp only [new_at,new_next,hb1,show ¬ ρ b = b1 by omega,show ¬ ρ b = b1 + 1 by omega,if_false]
  have hbc1:bc < b1∧∀ a,a < n→ρ a ≠ bc:=⟨by have:=k5.1;omega,fun a ha=>by have:=bB a;omega⟩
  have c6:h6.f bc = some ⟨0,[3],true,[ii G,ii N,ii C]⟩:=by
   rw [hh6];simp only [new_at,new_next,hb1,show ¬ bc = b1 by omega,show ¬ bc = b1 + 1 by omega,if_false]
   rw [k5.2 bc (by omega) hbc1.2];exact hBc
  have kf:∀ {h h':H} {b:Nat} {l:List AS},Kept n ρ h h'→b1 ≤ b→b < h.next→F4 h b l→F4 h' b l:=fun k h1 h2 f=>⟨by rw [k.2 _ h2 fun a ha=>by have:=hlo a ha;omega];exact f.1,f.2⟩
  have kc:∀ {h h':H},Kept n ρ h h'→b1 ≤ h.next→h.f bc = some ⟨0,[3],true,[ii G,ii N,ii C]⟩→h'.f bc = some ⟨0,[3],true,[ii G,ii N,ii C]⟩:=fun k h2 f=>by rw [k.2 _ (by omega) hbc1.2];exact f
  clear hh6 hBc e5 k5 s5 hb1
  obtain ⟨J,hJ⟩:∃ J:Nat→Fr→H→Prop,J = fun (k:Nat) fr hh=>(∃ l1 l2,Std V ρ hh∧b1 + 2 ≤ hh.next∧hh.f bc = some ⟨0,[3],true,[ii G,ii N,ii C]⟩∧F4 hh b1 l1∧F4 hh (b1 + 1) l2∧(∀ a,a < k→l1[a]? = some (ii (ld a))∧l2[a]? = some (ii (bl a))))∧∃ j:Nat→AV,fr = (j 0::j 1::j 2::(.one (ii more))::j 4::j 5::j 6::j 7::(.one (.bool false))::(.one (.ptr bc 0 0))::(.one (.ptr w 0 0))::j 11::(.one (.ptr b1 0 0))::(.one (.ptr (b1 + 1) 0 0))::(.one (ii (k:Int)))::j 15::j 16::j 17::j 18::j 19::j 20::j 21::j 22::j 23::j 24::j 25::j 26::j 27::j 28::j 29::j 30::j 31::j 32::j 33::j 34::j 35::j 36::j 37::j 38::j 39::j 40::j 41::j 42::j 43::j 44::j 45::j 46::j 47::j 48::j 49::j 50::j 51::j 52::j 53::j 54::j 55::j 56::j 57::j 58::j 59::j 60::j 61::j 62::j 63::j 64::j 65::j 66::j 67::j 68::j 69::j 70::j 71::j 72::j 73::j 74::j 75::j 76::j 77::j 78::j 79::j 80::j 81::j 82::j 83::j 84::j 85::j 86::j 87::j 88::j 89::j 90::j 91::j 92::j 93::j 94::j 95::j 96::j 97::j 98::j 99::j 100::j 101::j 102::j 103::j 104::j 105::j 106::j 107::j 108::j 109::j 110::j 111::j 112::j 113::j 114::j 115::j 116::j 117::j 118::j 119::j 120::j 121::j 122::j 123::j 124::j 125::j 126::j 127::j 128::j 129::j 130::j 131::j 132::j 133::j 134::j 135::j 136::j 137::j 138::[]):=⟨_,rfl⟩
  refine does_count hp (G + 1) J ?_ ?_ _ _ (by rw [hJ];exact ⟨⟨_,_,s6,n6,c6,f1,f2,fun a ha=>absurd ha (Nat.not_lt_zero a)⟩,ex_get' (by simp)⟩)
  ·intro k fr hh hk hx
   rw [hJ] at hx
   obtain ⟨⟨l1,l2,sx,nx,cx,g1,g2,gx⟩,j,rfl⟩:=hx
   obtain ⟨a1,a2,a3,a4,u1,u2,u3,u4,v1,v2,v3,v4,s4⟩:=group_c q sx (k:=k) (by omega)
   rw [hw] at u1 u2
   have k4:k < 4:=by omega
   have hle:(k:Int) ≤ (G:Int):=by omega
   have hleb:decide ((k:Int) ≤ (G:Int)) = true:=by simpa using hle
   have hw1:IntKind.i64.wrap ((k:Int) + 1) = ((k + 1:Nat):Int):=by rw [wrap_i64 (by omega) (by omega)];omega
   have hix:∀ b,indexA Tryz.prog 32 (.ptr b 0 0) k = some (.ptr b 0 k):=fun b=>by simp [indexA,k4]
   have p1:=(kf v4 (by omega) (by omega) g1).1
   have p2:=(kf v4 (by omega) (by omega) g2).1
   have y1:=g1.2
   have y2:=g2.2
   have k41:k + 1 ≤ 4:=by omega
   have t1:List.take k l1++ii (ld k)::List.drop (k + 1) l1 = l1.set k (ii (ld k)):=by rw [List.set_eq_take_append_cons_drop,if_pos (by omega)]
   have t2:List.take k l2++ii (bl k)::List.drop (k + 1) l2 = l2.set k (ii (bl k)):=by rw [List.set_eq_take_append_cons_drop,if_pos (by omega)]
   first | (refine hide ?_;intro Q4 hQ4) | have hQ4:=True.intro
   repeat' (first
    | (replace hQ4:=hQ4;simp [cx,hle,hleb,u1,u2,u3,u4,hw1,hix,p1,p2,y1,y2,k41,t1,t2,bin,binI,ford,equalA])
    | (refine hQ4 _ _ _ ?_;clear hQ4 Q4;first | simp only [] | simp [cx,hle,hleb,u1,u2,u3,u4,hw1,hix,p1,p2,y1,y2,k41,t1,t2,bin,binI,ford,equalA] | skip)
    | (refine hadQ (by assumption) ?_;(try clear hQ4);first | simp only [] | simp [cx,hle,hleb,u1,u2,u3,u4,hw1,hix,p1,p2,y1,y2,k41,t1,t2,bin,binI,ford,equalA] | skip)
    | ((fail_if_success replace hQ4:=hQ4);(first | refine hide ?_ | refine hideS ?_ | refine hideB ?_);intro Q4 hQ4)
    | (first | refine dF (id:=19) [0,1,2,3,4,5,6,7,8] [] ?_ | refine dF (id:=29) [0,1,2,3,4,5,6,7,8,9,10,11,12,13,14,15,16,17,18,19,20,21,22,23,24,25] [(15,18)] ?_)
    | (first | apply cF | apply wN | apply wS) <;> intro hcnd <;> (try simp only [hcnd]) <;> (try simp [-List.isEmpty_iff,-List.isEmpty_eq_false_iff] at hcnd))
   have hb0:¬ bc = b1:=by omega
   have hb9:¬ bc = b1 + 1:=by omega
   have c4:=kc v4 (by omega) cx
   all_goals
    rw [hJ]
    refine ⟨⟨l1.set k (ii (ld k)),l2.set k (ii (bl k)),s4.keep hV (Nat.le_refl _) (fun b hb=>by have:=hlo b hb;simp [H.set,show ¬ ρ b = b1 by omega,show ¬ ρ b = b1 + 1 by omega]),by have:=v4.1;simp [H.set];omega,by simp [H.set,hb0,hb9,c4],⟨by simp [H.set],by simpa using g1.2⟩,⟨by simp [H.set],by simpa using g2.2⟩,fun a ha=>?_⟩,ex_get' (by simp)⟩
    rcases Nat.lt_or_ge a k with h | h
    ·rw [List.getElem?_set_ne (by omega),List.getElem?_set_ne (by omega)];exact gx a h
    ·obtain rfl:a = k:=by omega
     rw [List.getElem?_set_self (by omega),List.getElem?_set_self (by omega)];exact ⟨rfl,rfl⟩
  ·intro fr hh hx
   rw [hJ] at hx
   obtain ⟨⟨l1,l2,sx,nx,cx,g1,g2,gx⟩,j,rfl⟩:=hx
   clear hJ J
   have hle:¬ ((G + 1:Nat):Int) ≤ (G:Int):=by omega
   have hleb:decide (((G + 1:Nat):Int) ≤ (G:Int)) = false:=by simpa using hle
   have hwi:=within_c more 1 30 (by omega) (by omega) (by omega) hm
   have hwb:=@withinI_bounds more 1 30 (by omega)
   have hgn:¬ (G:Int) + 1 ≤ (G:Int):=by omega
   have hgb:decide ((G:Int) + 1 ≤ (G:Int)) = false:=decide_eq_false hgn
   obtain ⟨m3,hm3⟩:∃ m:Nat,withinI more 1 30 = m:=⟨(withinI more 1 30).toNat,by omega⟩
   rw [hm3] at hwi hwb
   first | (refine hide ?_;intro Q5 hQ5) | have hQ5:=True.intro
   repeat' (first
    | (replace hQ5:=hQ5;simp [cx,hgn,hgb,hwi])
    | (refine hQ5 _ _ _ ?_;clear hQ5 Q5;first | simp only [] | simp [cx,hgn,hgb,hwi] | skip)
    | (refine hadQ (by assumption) ?_;(try clear hQ5);first | simp only [] | simp [cx,hgn,hgb,hwi] | skip)
    | ((fail_if_success replace hQ5:=hQ5);(first | refine hide ?_ | refine hideS ?_ | refine hideB ?_);intro Q5 hQ5)
    | (first | refine dF (id:=19) [0,1,2,3,4,5,6,7,8] [] ?_ | refine dF (id:=29) [0,1,2,3,4,5,6,7,8,9,10,11,12,13,14,15,16,17,18,19,20,21,22,23,24,25] [(15,18)] ?_)
    | (first | apply cF | apply wN | apply wS) <;> intro hcnd <;> (try simp only [hcnd]) <;> (try simp [-List.isEmpty_iff,-List.isEmpty_eq_false_iff] at hcnd))
   obtain ⟨L,hL⟩:∃ L:Nat→Fr→H→Prop,L = fun (k:Nat) fr hh=>(Std V ρ hh∧b1 + 2 ≤ hh.next∧hh.f bc = some ⟨0,[3],true,[ii G,ii N,ii C]⟩∧F4 hh b1 l1∧F4 hh (b1 + 1) l2)∧∃ j:Nat→AV,fr = (j 0::j 1::j 2::j 3::j 4::j 5::j 6::j 7::(.one (.bool false))::(.one (.ptr bc 0 0))::(.one (.ptr w 0 0))::j 11::(.one (.ptr b1 0 0))::(.one (.ptr (b1 + 1) 0 0))::j 14::j 15::j 16::j 17::(.one (ii ((m3:Int) - (k:Int))))::j 19::j 20::j 21::j 22::j 23::j 24::j 25::j 26::j 27::j 28::j 29::j 30::j 31::j 32::j 33::j 34::j 35::j 36::j 37::j 38::j 39::j 40::j 41::j 42::j 43::j 44::j 45::j 46::j 47::j 48::j 49::j 50::j 51::j 52::j 53::j 54::j 55::j 56::j 57::j 58::j 59::j 60::j 61::j 62::j 63::j 64::j 65::j 66::j 67::j 68::j 69::j 70::j 71::j 72::j 73::j 74::j 75::j 76::j 77::j 78::j 79::j 80::j 81::j 82::j 83::j 84::j 85::j 86::j 87::j 88::j 89::j 90::j 91::j 92::j 93::j 94::j 95::j 96::j 97::j 98::j 99::j 100::j 101::j 102::j 103::j 104::j 105::j 106::j 107::j 108::j 109::j 110::j 111::j 112::j 113::j 114::j 115::j 116::j 117::j 118::j 119::j 120::j 121::j 122::j 123::j 124::j 125::j 126::j 127::j 128::j 129::j 130::j 131::j 132::j 133::j 134::j 135::j 136::j 137::j 138::[]):=⟨_,rfl⟩
   refine does_count hp m3 L ?_ ?_ _ _ (by rw [hL];exact ⟨⟨sx,nx,cx,g1,g2⟩,ex_get' (by simp)⟩)
   ·intro k fr hh hk hx
    rw [hL] at hx
    obtain ⟨⟨sx,nx,cx,g1,g2⟩,j,rfl⟩:=hx
    obtain ⟨s,hR,v,h',e1,e2,s7,k7⟩:=std_go q hV sx
    rw [hw] at e2
    have hgt:(0:Int) < (m3:Int) - (k:Int):=by omega
    have hgtb:decide ((0:Int) < (m3:Int) - (k:Int)) = true:=by simpa using hgt
    have hw1:IntKind.i64.wrap ((m3:Int) - (k:Int) - 1) = (m3:Int) - ((k + 1:Nat):Int):=by rw [wrap_i64 (by omega) (by omega)];omega
    have hgt2:(k:Int) < (m3:Int):=by omega
    have hgtb2:decide (k < m3) = true:=by simpa using hk
    have hgtb3:decide ((k:Int) < (m3:Int)) = true:=by simpa using hk
    have c7:=kc k7 (by omega) cx
    have g8:=kf k7 (by omega) (by omega) g1
    have g9:=kf k7 (by omega) (by omega) g2
    have n7:b1 + 2 ≤ h'.next:=by have:=k7.1;omega
    first | (refine hide ?_;intro Q6 hQ6) | have hQ6:=True.intro
    repeat' (first
     | (replace hQ6:=hQ6;simp [cx,hgt,hgtb,hgt2,hk,hgtb2,hgtb3,e1,e2])
     | (refine hQ6 _ _ _ ?_;clear hQ6 Q6;first | simp only [] | simp [cx,hgt,hgtb,hgt2,hk,hgtb2,hgtb3,e1,e2] | skip)
     | (refine hadQ (by assumption) ?_;(try clear hQ6);first | simp only [] | simp [cx,hgt,hgtb,hgt2,hk,hgtb2,hgtb3,e1,e2] | skip)
     | ((fail_if_success replace hQ6:=hQ6);(first | refine hide ?_ | refine hideS ?_ | refine hideB ?_);intro Q6 hQ6)
     | (first | refine dF (id:=19) [0,1,2,3,4,5,6,7,8] [] ?_ | refine dF (id:=29) [0,1,2,3,4,5,6,7,8,9,10,11,12,13,14,15,16,17,18,19,20,21,22,23,24,25] [(15,18)] ?_)
     | (first | apply cF | apply wN | apply wS) <;> intro hcnd <;> (try simp only [hcnd]) <;> (try simp [-List.isEmpty_iff,-List.isEmpty_eq_false_iff] at hcnd))
    clear cx g1 g2 nx sx e1 e2 k7 hgt hgtb
    obtain ⟨M,hM⟩:∃ M:Nat→Fr→H→Prop,M = fun (a:Nat) fr hh=>(Std V ρ hh∧b1 + 2 ≤ hh.next∧hh.f bc = some ⟨0,[3],true,[ii G,ii N,ii C]⟩∧F4 hh b1 l1∧F4 hh (b1 + 1) l2)∧∃ j:Nat→AV,fr = (j 0::j 1::j 2::j 3::j 4::j 5::j 6::j 7::(.one (.bool false))::(.one (.ptr bc 0 0))::(.one (.ptr w 0 0))::j 11::(.one (.ptr b1 0 0))::(.one (.ptr (b1 + 1) 0 0))::j 14::j 15::j 16::j 17::(.one (ii ((m3:Int) - (k:Int))))::(.one (ii (a:Int)))::j 20::j 21::j 22::j 23::j 24::j 25::j 26::j 27::j 28::j 29::j 30::j 31::j 32::j 33::j 34::j 35::j 36::j 37::j 38::j 39::j 40::j 41::j 42::j 43::j 44::j 45::j 46::j 47::j 48::j 49::j 50::j 51::j 52::j 53::j 54::j 55::j 56::j 57::j 58::j 59::j 60::j 61::j 62::j 63::j 64::j 65::j 66::j 67::j 68::j 69::j 70::j 71::j 72::j 73::j 74::j 75::j 76::j 77::j 78::j 79::j 80::j 81::j 82::j 83::j 84::j 85::j 86::j 87::j 88::j 89::j 90::j 91::j 92::j 93::j 94::j 95::j 96::j 97::j 98::j 99::j 100::j 101::j 102::j 103::j 104::j 105::j 106::j 107::j 108::j 109::j 110::j 111::j 112::j 113::j 114::j 115::j 116::j 117::j 118::j 119::j 120::j 121::j 122::j 123::j 124::j 125::j 126::j 127::j 128::j 129::j 130::j 131::j 132::j 133::j 134::j 135::j 136::j 137::j 138::[]):=⟨_,rfl⟩
    refine does_count hp (G + 1) M ?_ ?_ _ _ (by rw [hM];exact ⟨⟨s7,n7,c7,g8,g9⟩,ex_get' (by simp)⟩)
    ·intro a fr hh ha hx
     rw [hM] at hx
     obtain ⟨⟨sx,nx,cx,g1,g2⟩,j,rfl⟩:=hx
     obtain ⟨a1,a2,a3,a4,u1,u2,u3,u4,v1,v2,v3,v4,s4⟩:=group2_c q sx (k:=a) (by omega)
     rw [hw] at u1 u2
     have k4:a < 4:=by omega
     have hle:(a:Int) ≤ (G:Int):=by omega
     have hleb:decide ((a:Int) ≤ (G:Int)) = true:=by simpa using hle
     have hle2:a ≤ G:=by omega
     have hleb2:decide (a ≤ G) = true:=by simpa using hle2
     have hw2:IntKind.i64.wrap ((a:Int) + 1) = ((a + 1:Nat):Int):=by rw [wrap_i64 (by omega) (by omega)];omega
     have hix:∀ b,indexA Tryz.prog 32 (.ptr b 0 0) a = some (.ptr b 0 a):=fun b=>by simp [indexA,k4]
     have k41:a + 1 ≤ 4:=by omega
     obtain ⟨gx1,gx2⟩:=gx a (by omega)
     have p1:=(kf v1 (by omega) (by omega) g1).1
     have p2:=(kf v2 (by omega) (by omega) g1).1
     have p3:=(kf v3 (by omega) (by omega) g2).1
     have q2:=(kf v2 (by omega) (by omega) g2).1
     have t1:sub l1 a 1 = some [ii (ld a)]:=by
      simp only [sub,g1.2,if_pos k41]
      rw [List.drop_eq_getElem_cons (by have:=g1.2;omega)]
      rw [List.getElem?_eq_getElem (by have:=g1.2;omega)] at gx1
      rw [Option.some.inj gx1];rfl
     have t2:sub l2 a 1 = some [ii (bl a)]:=by
      simp only [sub,g2.2,if_pos k41]
      rw [List.drop_eq_getElem_cons (by have:=g2.2;omega)]
      rw [List.getElem?_eq_getElem (by have:=g2.2;omega)] at gx2
      rw [Option.some.inj gx2];rfl
     first | (refine hide ?_;intro Q7 hQ7) | have hQ7:=True.intro
     repeat' (first
      | (replace hQ7:=hQ7;simp [cx,hle,hleb,hle2,hleb2,u1,u2,u3,u4,hw2,hix,p1,p2,p3,q2,k41,t1,t2,bin,binI,ford,equalA])
      | (refine hQ7 _ _ _ ?_;clear hQ7 Q7;first | simp only [] | simp [cx,hle,hleb,hle2,hleb2,u1,u2,u3,u4,hw2,hix,p1,p2,p3,q2,k41,t1,t2,bin,binI,ford,equalA] | skip)
      | (refine hadQ (by assumption) ?_;(try clear hQ7);first | simp only [] | simp [cx,hle,hleb,hle2,hleb2,u1,u2,u3,u4,hw2,hix,p1,p2,p3,q2,k41,t1,t2,bin,binI,ford,equalA] | skip)
      | ((fail_if_success replace hQ7:=hQ7);(first | refine hide ?_ | refine hideS ?_ | refine hideB ?_);intro Q7 hQ7)
      | (first | refine dF (id:=19) [0,1,2,3,4,5,6,7,8] [] ?_ | refine dF (id:=29) [0,1,2,3,4,5,6,7,8,9,10,11,12,13,14,15,16,17,18,19,20,21,22,23,24,25] [(15,18)] ?_)
      | (first | apply cF | apply wN | apply wS) <;> intro hcnd <;> (try simp only [hcnd]) <;> (try simp [-List.isEmpty_iff,-List.isEmpty_eq_false_iff] at hcnd))
     all_goals (rw [hM];exact ⟨⟨s4,by have:=v4.1;omega,kc v4 (by omega) cx,kf v4 (by omega) (by omega) g1,kf v4 (by omega) (by omega) g2⟩,ex_get' (by simp)⟩)
    ·intro fr hh hx
     rw [hM] at hx
     obtain ⟨⟨sx,nx,cx,g1,g2⟩,j,rfl⟩:=hx
     clear hM M
     have hgn:¬ (G:Int) + 1 ≤ (G:Int):=by omega
     have hgb:decide ((G:Int) + 1 ≤ (G:Int)) = false:=decide_eq_false hgn
     first | (refine hide ?_;intro Q8 hQ8) | have hQ8:=True.intro
     repeat' (first
      | (replace hQ8:=hQ8;simp [cx,hgn,hgb,hw1])
      | (refine hQ8 _ _ _ ?_;clear hQ8 Q8;first | simp only [] | simp [cx,hgn,hgb,hw1] | skip)
      | (refine hadQ (by assumption) ?_;(try clear hQ8);first | simp only [] | simp [cx,hgn,hgb,hw1] | skip)
      | ((fail_if_success replace hQ8:=hQ8);(first | refine hide ?_ | refine hideS ?_ | refine hideB ?_);intro Q8 hQ8)
      | (first | refine dF (id:=19) [0,1,2,3,4,5,6,7,8] [] ?_ | refine dF (id:=29) [0,1,2,3,4,5,6,7,8,9,10,11,12,13,14,15,16,17,18,19,20,21,22,23,24,25] [(15,18)] ?_)
      | (first | apply cF | apply wN | apply wS) <;> intro hcnd <;> (try simp only [hcnd]) <;> (try simp [-List.isEmpty_iff,-List.isEmpty_eq_false_iff] at hcnd))
     all_goals (rw [hL];exact ⟨⟨sx,nx,cx,g1,g2⟩,ex_get' (by simp)⟩)
   ·intro fr hh hx
    rw [hL] at hx
    obtain ⟨⟨sx,nx,cx,g1,g2⟩,j,rfl⟩:=hx
    clear hL L
    obtain ⟨z1,e1,s1,_⟩:=q.settled ρ hh sx
    obtain ⟨z2,e2,s2,_⟩:=q.events ρ z1 s1
    obtain ⟨z3,e3⟩:=kn z2
    have e1:W K 8 [.one (.ptr w 0 0)] hh = some (.ret (.one (.bool true)) z1):=by rw [← hw];simpa [mV,mS,p] using e1
    have e2:W K 14 [.one (.ptr w 0 0)] z1 = some (.ret (.one .nilslc) z2):=by rw [← hw];simpa [mV,mS,p,o] using e2
    have hz:(m3:Int) - (m3:Int) = 0:=by omega
    first | (refine hide ?_;intro Q9 hQ9) | have hQ9:=True.intro
    repeat' (first
     | (replace hQ9:=hQ9;simp [cx,hz,e1,e2,e3])
     | (refine hQ9 _ _ _ ?_;clear hQ9 Q9;first | simp only [] | simp [cx,hz,e1,e2,e3] | skip)
     | (refine hadQ (by assumption) ?_;(try clear hQ9);first | simp only [] | simp [cx,hz,e1,e2,e3] | skip)
     | ((fail_if_success replace hQ9:=hQ9);(first | refine hide ?_ | refine hideS ?_ | refine hideB ?_);intro Q9 hQ9)
     | (first | refine dF (id:=19) [0,1,2,3,4,5,6,7,8] [] ?_ | refine dF (id:=29) [0,1,2,3,4,5,6,7,8,9,10,11,12,13,14,15,16,17,18,19,20,21,22,23,24,25] [(15,18)] ?_)
     | (first | apply cF | apply wN | apply wS) <;> intro hcnd <;> (try simp only [hcnd]) <;> (try simp [-List.isEmpty_iff,-List.isEmpty_eq_false_iff] at hcnd))
    all_goals exact hP _ _ rfl
end
end Go.Proofs.YtkpmdlcmbemgdaaGreat
