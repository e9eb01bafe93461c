/- A part of a proof over the abstract machine. No conditions. -/
import Derived.Test.YtmmhjaeekkbceaaGreatMGL2
set_option linter.unusedSimpArgs false
set_option linter.unnecessarySimpa false
set_option linter.unusedVariables false
namespace Go.Proofs.YtmmhjaeekkbceaaGreat
open Go Go.Ab Go.Fa Wm
set_option maxRecDepth 100000
set_option maxHeartbeats 4000000
theorem does_X {c:Code} {fr:Fr} {h:H} {Q:Ex→Fr→H→Prop} (hd:Does K c fr h Q):∃ x fr' h',X K c fr h = some (x,fr',h')∧Q x fr' h':=hd
theorem mid_c (rows a:Int) (hr:I64 rows) (j:Nat→AV) (h:H):∃ (n:Nat) (j':Nat→AV),10 ≤ n∧n ≤ 30∧X K (seqL ((L.drop 5).take 3)) (frL 162 [(0,.one (ii rows)),(1,.one (ii a)),(5,.one (p 1))] j) h = some (.normal,frL 162 (sB (ii a) (i n) 0 0) j',h):=by
 have hw:=within_c rows 10 30 (by omega) (by omega) (by omega) hr
 have hb:=@withinI_bounds rows 10 30 (by omega)
 generalize withinI rows 10 30 = m at *
 have hd:Does K (seqL ((L.drop 5).take 3)) ((.one (ii rows))::(.one (ii a))::j 2::j 3::j 4::(.one (p 1))::j 6::j 7::j 8::j 9::j 10::j 11::j 12::j 13::j 14::j 15::j 16::j 17::j 18::j 19::j 20::j 21::j 22::j 23::j 24::j 25::j 26::j 27::j 28::j 29::j 30::j 31::j 32::j 33::j 34::j 35::j 36::j 37::j 38::j 39::j 40::j 41::j 42::j 43::j 44::j 45::j 46::j 47::j 48::j 49::j 50::j 51::j 52::j 53::j 54::j 55::j 56::j 57::j 58::j 59::j 60::j 61::j 62::j 63::j 64::j 65::j 66::j 67::j 68::j 69::j 70::j 71::j 72::j 73::j 74::j 75::j 76::j 77::j 78::j 79::j 80::j 81::j 82::j 83::j 84::j 85::j 86::j 87::j 88::j 89::j 90::j 91::j 92::j 93::j 94::j 95::j 96::j 97::j 98::j 99::j 100::j 101::j 102::j 103::j 104::j 105::j 106::j 107::j 108::j 109::j 110::j 111::j 112::j 113::j 114::j 115::j 116::j 117::j 118::j 119::j 120::j 121::j 122::j 123::j 124::j 125::j 126::j 127::j 128::j 129::j 130::j 131::j 132::j 133::j 134::j 135::j 136::j 137::j 138::j 139::j 140::j 141::j 142::j 143::j 144::j 145::j 146::j 147::j 148::j 149::j 150::j 151::j 152::j 153::j 154::j 155::j 156::j 157::j 158::j 159::j 160::j 161::[]) h (fun x fr' h'=>x = .normal∧h' = h∧∃ j',fr' = frL 162 (sB (ii a) (ii m) 0 0) j'):=by
  have e:seqL ((L.drop 5).take 3) = .seq (nth L 5) (.seq (nth L 6) (nth L 7)):=by kernel_rfl
  rw [e]
  simp only [L,bodyOf,Tryz.f3,flatC,nth,List.cons_append,List.nil_append,Option.getD]
  first | (refine hide ?_;intro Q1 hQ1) | have hQ1:=True.intro
  repeat' (first
   | (replace hQ1:=hQ1;simp [hw])
   | (refine hQ1 _ _ _ ?_;clear hQ1 Q1;first | simp only [] | simp [hw] | skip)
   | (refine hadQ (by assumption) ?_;(try clear hQ1);first | simp only [] | simp [hw] | skip)
   | ((fail_if_success replace hQ1:=hQ1);(first | refine hide ?_ | refine hideS ?_ | refine hideB ?_);intro Q1 hQ1)
   | (first | refine dF (id:=15) [0,1,2,3,4,5,6,7,8,9,10,11] [(3,9),(3,10),(5,9),(5,10)] ?_ | refine dF (id:=26) [0,1,2,3,4,5,6,7,8] [(3,5)] ?_)
   | (first | apply cF | apply wN | apply wS) <;> intro hcnd <;> (try simp only [hcnd]) <;> (try simp [-List.isEmpty_iff,-List.isEmpty_eq_false_iff] at hcnd))
  all_goals (refine ⟨trivial,trivial,frame_of rfl ?_⟩;simp [sB,Fr.get,i])
 obtain ⟨x,fr',h',e,rfl,rfl,j',rfl⟩:=does_X hd
 refine ⟨m.toNat,j',by omega,by omega, ?_⟩
 have e1:i m.toNat = ii m:=by simp [i];omega
 rw [e1]
 exact e
theorem test_c (a:AS) (n k q:Nat) (hn:n ≤ 30) (hk:k ≤ 30) (j:Nat→AV) (h:H):∃ j',X K (seqL [nth LB 0,nth LB 1]) (frL 162 (sB a (i n) q k) j) h = some (if k < n then .normal else .exit 0,frL 162 (sB a (i n) q k) j',h):=by
 have hd:Does K (seqL [nth LB 0,nth LB 1]) (j 0::(.one a)::j 2::j 3::j 4::(.one (p 1))::(.one (ii (n:Int)))::(.one (i q))::(.one (ii (k:Int)))::j 9::j 10::j 11::j 12::j 13::j 14::j 15::j 16::j 17::j 18::j 19::j 20::j 21::j 22::j 23::j 24::j 25::j 26::j 27::j 28::j 29::j 30::j 31::j 32::j 33::j 34::j 35::j 36::j 37::j 38::j 39::j 40::j 41::j 42::j 43::j 44::j 45::j 46::j 47::j 48::j 49::j 50::j 51::j 52::j 53::j 54::j 55::j 56::j 57::j 58::j 59::j 60::j 61::j 62::j 63::j 64::j 65::j 66::j 67::j 68::j 69::j 70::j 71::j 72::j 73::j 74::j 75::j 76::j 77::j 78::j 79::j 80::j 81::j 82::j 83::j 84::j 85::j 86::j 87::j 88::j 89::j 90::j 91::j 92::j 93::j 94::j 95::j 96::j 97::j 98::j 99::j 100::j 101::j 102::j 103::j 104::j 105::j 106::j 107::j 108::j 109::j 110::j 111::j 112::j 113::j 114::j 115::j 116::j 117::j 118::j 119::j 120::j 121::j 122::j 123::j 124::j 125::j 126::j 127::j 128::j 129::j 130::j 131::j 132::j 133::j 134::j 135::j 136::j 137::j 138::j 139::j 140::j 141::j 142::j 143::j 144::j 145::j 146::j 147::j 148::j 149::j 150::j 151::j 152::j 153::j 154::j 155::j 156::j 157::j 158::j 159::j 160::j 161::[]) h (fun x fr' h'=>x = (if k < n then .normal else .exit 0)∧h' = h∧∃ j',fr' = frL 162 (sB a (i n) q k) j'):=by
  have e:seqL [nth LB 0,nth LB 1] = .seq (nth LB 0) (nth LB 1):=rfl
  rw [e]
  simp only [LB,L,inB,bodyOf,Tryz.f3,flatC,nth,List.cons_append,List.nil_append,Option.getD]
  by_cases hlt:k < n
  ·have h1:(k:Int) < (n:Int):=by omega
   have h2:decide ((k:Int) < (n:Int)) = true:=decide_eq_true h1
   first | (refine hide ?_;intro Q2 hQ2) | have hQ2:=True.intro
   repeat' (first
    | (replace hQ2:=hQ2;simp [h1,h2])
    | (refine hQ2 _ _ _ ?_;clear hQ2 Q2;first | simp only [] | simp [h1,h2] | skip)
    | (refine hadQ (by assumption) ?_;(try clear hQ2);first | simp only [] | simp [h1,h2] | skip)
    | ((fail_if_success replace hQ2:=hQ2);(first | refine hide ?_ | refine hideS ?_ | refine hideB ?_);intro Q2 hQ2)
    | (first | refine dF (id:=15) [0,1,2,3,4,5,6,7,8,9,10,11] [(3,9),(3,10),(5,9),(5,10)] ?_ | refine dF (id:=26) [0,1,2,3,4,5,6,7,8] [(3,5)] ?_)
    | (first | apply cF | apply wN | apply wS) <;> intro hcnd <;> (try simp only [hcnd]) <;> (try simp [-List.isEmpty_iff,-List.isEmpty_eq_false_iff] at hcnd))
   all_goals (refine ⟨by rw [if_pos hlt],trivial,frame_of rfl ?_⟩;simp [sB,Fr.get,i])
  ·have h1:¬ (k:Int) < (n:Int):=by omega
   have h2:decide ((k:Int) < (n:Int)) = false:=decide_eq_false h1
   first | (refine hide ?_;intro Q3 hQ3) | have hQ3:=True.intro
   repeat' (first
    | (replace hQ3:=hQ3;simp [h1,h2])
    | (refine hQ3 _ _ _ ?_;clear hQ3 Q3;first | simp only [] | simp [h1,h2] | skip)
    | (refine hadQ (by assumption) ?_;(try clear hQ3);first | simp only [] | simp [h1,h2] | skip)
    | ((fail_if_success replace hQ3:=hQ3);(first | refine hide ?_ | refine hideS ?_ | refine hideB ?_);intro Q3 hQ3)
    | (first | refine dF (id:=15) [0,1,2,3,4,5,6,7,8,9,10,11] [(3,9),(3,10),(5,9),(5,10)] ?_ | refine dF (id:=26) [0,1,2,3,4,5,6,7,8] [(3,5)] ?_)
    | (first | apply cF | apply wN | apply wS) <;> intro hcnd <;> (try simp only [hcnd]) <;> (try simp [-List.isEmpty_iff,-List.isEmpty_eq_false_iff] at hcnd))
   all_goals (refine ⟨by rw [if_neg hlt],trivial,frame_of rfl ?_⟩;simp [sB,Fr.get,i])
 obtain ⟨x,fr',h',e,rfl,rfl,j',rfl⟩:=does_X hd
 exact ⟨j',e⟩
theorem loop_c {VB:Nat→View} {n:Nat} (hn:n ≤ 30) (hB:∀ k,k < 30→∀ (a nn:AS) (j:Nat→AV) (h:H),Kw (VB k) h→∃ j' h',X K cB (frL 162 (sB a nn (2 * k) k) j) h = some (.normal,frL 162 (sB a nn (2 * k + 2) (k + 1)) j',h')∧Kw (VB (k + 1)) h') (a:AS) :
  ∀ (m k:Nat) (j:Nat→AV) (h:H),k + m = n→Kw (VB k) h→∃ j' h',X K (.loop (inLoop (nth (inB (nth L 8)) 0))) (frL 162 (sB a (i n) (2 * k) k) j) h = some (.exit 0,frL 162 (sB a (i n) (2 * n) n) j',h')∧Kw (VB n) h':=by
 intro m
 induction m with
 | zero =>
  intro k j h hk kw
  obtain rfl:k = n:=by omega
  obtain ⟨j1,e1⟩:=test_c a k k (2 * k) hn hn j h
  refine ⟨j1,h, ?_,kw⟩
  rw [X_loop hp,← X_flat hp,lb_cut,X_app hp,e1,if_neg (by omega)]
  rfl
 | succ m ih =>
  intro k j h hk kw
  obtain ⟨j1,e1⟩:=test_c a n k (2 * k) hn (by omega) j h
  rw [if_pos (by omega)] at e1
  obtain ⟨j2,h2,e2,kw2⟩:=hB k (by omega) a (i n) j1 h kw
  obtain ⟨j3,h3,e3,kw3⟩:=ih (k + 1) j2 h2 (by omega) kw2
  refine ⟨j3,h3, ?_,kw3⟩
  rw [X_loop hp,← X_flat hp,lb_cut,X_app hp,e1,then_normal]
  have e4:X K (seqL [nth LB 2,nth LB 3]) (frL 162 (sB a (i n) (2 * k) k) j1) h = _:=e2
  rw [e4,then_normal]
  exact e3
theorem block_c {VB:Nat→View} {n:Nat} (hn:n ≤ 30) (hB:∀ k,k < 30→∀ (a nn:AS) (j:Nat→AV) (h:H),Kw (VB k) h→∃ j' h',X K cB (frL 162 (sB a nn (2 * k) k) j) h = some (.normal,frL 162 (sB a nn (2 * k + 2) (k + 1)) j',h')∧Kw (VB (k + 1)) h') (a:AS) (j:Nat→AV) (h:H) (kw:Kw (VB 0) h) :
  ∃ j' h',X K (nth L 8) (frL 162 (sB a (i n) 0 0) j) h = some (.normal,frL 162 [(1,.one a),(5,.one (p 1)),(6,.one (i n))] j',h')∧Kw (VB n) h':=by
 obtain ⟨j1,h1,e1,kw1⟩:=loop_c hn hB a n 0 j h (by omega) kw
 obtain ⟨j2,e2⟩:=frame_of (frL_len 162 (sB a (i n) (2 * n) n) j1) (l:=[(1,.one a),(5,.one (p 1)),(6,.one (i n))]) (by
  intro x hx
  simp only [List.mem_cons,List.not_mem_nil,or_false] at hx
  rcases hx with rfl | rfl | rfl <;> (rw [frL_get (by omega)];rfl))
 refine ⟨j2,h1, ?_,kw1⟩
 rw [block_cut,X_block hp,e1,e2]
 rfl
theorem want_c {h:H} {V:View} {un:List Nat} {next:Nat} {wt:List (Nat × Blk)} (c:List AS) (hr:pieceW S true 2000 200 28 cW (.one (p 0)::.agg c::List.replicate 26 .undef) V un [4] next wt [] = some ([v1 (i 0)],[])) (k:Kw V h) :
  ∃ h',W K 5 [.one (p 0),.agg c] h = some (.ret (.one (i 0)) h')∧Kw ⟨next,wt++V.l⟩ h':=by
 obtain ⟨j,h',e,kw⟩:=piece_fr (xs:=[i 0]) hr dW rfl (by omega) k
 refine ⟨h',W_does hp rfl rfl rfl Tryz.func5 rfl (by simp [Tryz.f5]) ?_,kw⟩
 refine ⟨_,_,_,e,.one (i 0), ?_,rfl⟩
 have hg:Fr.get (frL 28 ([4].zip ([i 0].map AV.one)) j) 4 = .one (i 0):=by rw [frL_get (by omega)];rfl
 show resultA K _ _ [.tmp 4] = _
 simp only [resultA,resVar,hg,oqE,oqS,partOf]
 rfl
def blkIn:Code→Code
 | .block _ b=>b
 | c=>c
theorem settle_cut:bodyOf Tryz.f6 = .seq (nth SL 0) (.block 0 (.loop (inLoop (nth (inB (nth SL 1)) 0)))):=by kernel_rfl
theorem ob_cut:flatC (inLoop (nth (inB (nth SL 1)) 0)) = [nth OB 0,nth OB 1]++([nth OB 2]++[nth OB 3]):=by kernel_rfl
theorem ob2_cut:nth OB 2 = .block 1 (blkIn (nth OB 2)):=by kernel_rfl
theorem c1_cut:flatC (blkIn (nth OB 2)) = [nth C1 0,nth C1 1]++[nth C1 2]:=by kernel_rfl
theorem c12_cut:nth C1 2 = .block 2 IB:=by kernel_rfl
theorem ib_cut:IB = .loop IBB:=by kernel_rfl
theorem settle_X {fr fr2 fr3:Fr} {h h2 h3:H} (e1:X K cS fr h = some (.normal,fr2,h2)) (e2:X K cT fr2 h2 = some (.normal,fr3,h3)):X K (bodyOf Tryz.f6) fr h = some (.normal,fr3,h3):=by
 have key:∀ {a:Option (Ex × Fr × H)} {b:Fr→H→Option (Ex × Fr × H)} {f:Fr} {g:H},Then a b = some (.normal,f,g)→∃ f1 g1,a = some (.normal,f1,g1)∧b f1 g1 = some (.normal,f,g):=by
  intro a b f g hab
  rcases a with _ | ⟨x,f1,g1⟩
  ·cases hab
  ·cases x with
   | normal=>exact ⟨f1,g1,rfl,hab⟩
   | _=>cases hab
 have hS:X K (seqL ([nth SL 0]++([nth OB 0,nth OB 1]++([nth C1 0,nth C1 1]++[IBB,IBB])))) fr h = some (.normal,fr2,h2):=e1
 rw [X_app hp] at hS
 obtain ⟨f1,g1,a1,hS⟩:=key hS
 rw [X_app hp] at hS
 obtain ⟨f2,g2,a2,hS⟩:=key hS
 rw [X_app hp] at hS
 obtain ⟨f3,g3,a3,hS⟩:=key hS
 have hS:X K (.seq IBB IBB) f3 g3 = some (.normal,fr2,h2):=hS
 rw [X_seq hp] at hS
 obtain ⟨f4,g4,a4,a5⟩:=key hS
 have l1:X K (nth C1 2) f3 g3 = outOf 2 (X K IB fr2 h2):=by
  rw [c12_cut,X_block hp]
  congr 1
  rw [ib_cut,X_loop hp,a4,then_normal,X_loop hp,a5,then_normal]
 have l2:X K (nth C1 2) fr2 h2 = outOf 2 (X K IB fr2 h2):=by rw [c12_cut,X_block hp]
 have l3:X K (nth OB 2) f2 g2 = X K (.block 1 (nth C1 2)) fr2 h2:=by
  rw [ob2_cut,X_block hp,X_block hp,← X_flat hp,c1_cut,X_app hp,a3,then_normal,l2,← l1]
  rfl
 have l4:X K (.loop (inLoop (nth (inB (nth SL 1)) 0))) f1 g1 = X K (seqL [.block 1 (nth C1 2),nth OB 3,nth (inB (nth SL 1)) 0]) fr2 h2:=by
  have e5:nth (inB (nth SL 1)) 0 = .loop (inLoop (nth (inB (nth SL 1)) 0)):=by kernel_rfl
  rw [X_loop hp,← X_flat hp,ob_cut,X_app hp,a2,then_normal,X_app hp]
  have:X K (seqL [nth OB 2]) f2 g2 = X K (.block 1 (nth C1 2)) fr2 h2:=l3
  rw [this,then_assoc]
  refine Eq.trans ?_ (X_cons hp (a:=.block 1 (nth C1 2)) (l:=[nth OB 3,nth (inB (nth SL 1)) 0])).symm
  congr 1
  funext f g
  rw [← e5]
  exact (X_cons hp (a:=nth OB 3) (l:=[nth (inB (nth SL 1)) 0])).symm
 have a1':X K (nth SL 0) fr h = some (.normal,f1,g1):=a1
 rw [settle_cut,X_seq hp,a1',then_normal,X_block hp,l4]
 have e2':outOf 0 (X K (seqL [.block 1 (nth C1 2),nth OB 3,nth (inB (nth SL 1)) 0]) fr2 h2) = some (.normal,fr3,h3):=by
  rw [← X_block hp];exact e2
 exact e2'
theorem settle_c {h:H} {V:View} {un un2:List Nat} {next next2:Nat} {wS wT xT:List (Nat × Blk)} {bs:List Nat}
  (hS:pieceW S false 2000 200 32 cS (.one (p 1)::.one (i 2)::List.replicate 30 .undef) V un [0,1,4,5] next wS [] = some ([v1 (p 1),v1 (i 2),v1 (i 0),v1 (i 2)],[]))
  (hT:∀ j,pieceW S false 2000 200 32 cT (frL 32 sS j) ⟨next,wS++V.l⟩ un2 [0] next2 wT bs = some ([v1 (p 1)],xT)) (k:Kw V h) :
  ∃ h',W K 6 [.one (p 1),.one (i 2)] h = some (.ret (.tup []) h')∧Kw ⟨next2,xT++(wT++(wS++V.l))⟩ h':=by
 obtain ⟨j,h1,e1,kw1⟩:=piece_fr (xs:=[p 1,i 2,i 0,i 2]) hS dS rfl (by omega) k
 obtain ⟨j2,h2,e2,kw2⟩:=piece_fr (xs:=[p 1]) (hT j) dT (frL_len ..) (by omega) kw1
 refine ⟨h2,W_does hp rfl rfl rfl Tryz.func6 rfl (by simp [Tryz.f6]) ?_,kw2⟩
 exact ⟨_,_,_,settle_X e1 e2,.tup [],rfl,rfl⟩
end Go.Proofs.YtmmhjaeekkbceaaGreat
