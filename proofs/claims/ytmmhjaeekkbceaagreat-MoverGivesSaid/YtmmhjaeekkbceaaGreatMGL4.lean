/- A part of a proof over the abstract machine. No conditions. -/
import Derived.Test.YtmmhjaeekkbceaaGreatMGL3
set_option linter.unusedSimpArgs false
set_option linter.unnecessarySimpa false
set_option linter.unusedVariables false
namespace Go.Proofs.YtmmhjaeekkbceaaGreat
open Go Go.Ab Go.Fa Wm
set_option maxRecDepth 100000
set_option maxHeartbeats 4000000
theorem turn_c {a:Int} {k:Nat} {h h1 h2:H} {c1 c2 c3 c4:AS} (j:Nat→AV) (hB:h.f 1 = some ⟨0,[5],true,[p 0,c1,c2,c3,c4]⟩) (hnx:1 < h.next)
  (hrow:W K 15 [.one (ii a)] h = some (.ret (.one (.str (rwn k))) (h.new lit)))
  (hw:W K 5 [.one (p 0),.agg (cmdM (rwn k))] (h.new lit) = some (.ret (.one (i 0)) h1))
  (hs:W K 6 [.one (p 1),.one (i 2)] h1 = some (.ret (.tup []) h2)) :
  ∃ j',X K (seqL ((L.drop 18).take 3)) (frL 162 [(1,.one (ii a)),(5,.one (p 1))] j) h = some (.normal,frL 162 [(5,.one (p 1))] j',h2):=by
 have hB2:(h.new lit).f 1 = some ⟨0,[5],true,[p 0,c1,c2,c3,c4]⟩:=by rw [new_f (by omega)];exact hB
 generalize hX:h.new lit = h3 at *
 generalize rwn k = nm at *
 simp [cmdM,i,z,o,p] at hw hs hB hB2
 have hd:Does K (seqL ((L.drop 18).take 3)) (j 0::(.one (ii a))::j 2::j 3::j 4::(.one (.ptr 1 0 0))::j 6::j 7::j 8::j 9::j 10::j 11::j 12::j 13::j 14::j 15::j 16::j 17::j 18::j 19::j 20::j 21::j 22::j 23::j 24::j 25::j 26::j 27::j 28::j 29::j 30::j 31::j 32::j 33::j 34::j 35::j 36::j 37::j 38::j 39::j 40::j 41::j 42::j 43::j 44::j 45::j 46::j 47::j 48::j 49::j 50::j 51::j 52::j 53::j 54::j 55::j 56::j 57::j 58::j 59::j 60::j 61::j 62::j 63::j 64::j 65::j 66::j 67::j 68::j 69::j 70::j 71::j 72::j 73::j 74::j 75::j 76::j 77::j 78::j 79::j 80::j 81::j 82::j 83::j 84::j 85::j 86::j 87::j 88::j 89::j 90::j 91::j 92::j 93::j 94::j 95::j 96::j 97::j 98::j 99::j 100::j 101::j 102::j 103::j 104::j 105::j 106::j 107::j 108::j 109::j 110::j 111::j 112::j 113::j 114::j 115::j 116::j 117::j 118::j 119::j 120::j 121::j 122::j 123::j 124::j 125::j 126::j 127::j 128::j 129::j 130::j 131::j 132::j 133::j 134::j 135::j 136::j 137::j 138::j 139::j 140::j 141::j 142::j 143::j 144::j 145::j 146::j 147::j 148::j 149::j 150::j 151::j 152::j 153::j 154::j 155::j 156::j 157::j 158::j 159::j 160::j 161::[]) h (fun x fr' h'=>x = .normal∧h' = h2∧∃ j',fr' = frL 162 [(5,.one (p 1))] j'):=by
  have e:seqL ((L.drop 18).take 3) = .seq (nth L 18) (.seq (nth L 19) (nth L 20)):=by kernel_rfl
  rw [e]
  simp only [L,bodyOf,Tryz.f3,flatC,nth,List.cons_append,List.nil_append,Option.getD]
  first | (refine hide ?_;intro Q1 hQ1) | have hQ1:=True.intro
  repeat' (first
   | (replace hQ1:=hQ1;simp [hB,hB2,hrow,hw,hs])
   | (refine hQ1 _ _ _ ?_;clear hQ1 Q1;first | simp only [] | simp [hB,hB2,hrow,hw,hs] | skip)
   | (refine hadQ (by assumption) ?_;(try clear hQ1);first | simp only [] | simp [hB,hB2,hrow,hw,hs] | skip)
   | ((fail_if_success replace hQ1:=hQ1);(first | refine hide ?_ | refine hideS ?_ | refine hideB ?_);intro Q1 hQ1)
   | (first | refine dF (id:=15) [0,1,2,3,4,5,6,7,8,9,10,11] [(3,9),(3,10),(5,9),(5,10)] ?_ | refine dF (id:=26) [0,1,2,3,4,5,6,7,8] [(3,5)] ?_)
   | (first | apply cF | apply wN | apply wS) <;> intro hcnd <;> (try simp only [hcnd]) <;> (try simp [-List.isEmpty_iff,-List.isEmpty_eq_false_iff] at hcnd))
  all_goals (refine ⟨trivial,trivial,frame_of rfl ?_⟩;simp [Fr.get,p])
 obtain ⟨x,fr',h',e,rfl,rfl,j',rfl⟩:=does_X hd
 exact ⟨j',e⟩
end Go.Proofs.YtmmhjaeekkbceaaGreat
