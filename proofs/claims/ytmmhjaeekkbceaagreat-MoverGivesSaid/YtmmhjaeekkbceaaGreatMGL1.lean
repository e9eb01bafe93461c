/- A part of a proof over the abstract machine. No conditions. -/
import Derived.Test.YtmmhjaeekkbceaaGreatW5m
import Derived.Test.YtmmhjaeekkbceaaGreatSeatF
import Derived.Test.YtmmhjaeekkbceaaGreatMG0
import Derived.Test.YtmmhjaeekkbceaaGreatAb5
import Derived.Test.YtmmhjaeekkbceaaGreatAb3
set_option linter.unusedSimpArgs false
set_option linter.unnecessarySimpa false
set_option linter.unusedVariables false
namespace Go.Proofs.YtmmhjaeekkbceaaGreat
open Go Go.Ab Wm
set_option maxRecDepth 10000
set_option maxHeartbeats 4000000
@[simp] theorem KP:K.P = Tryz.prog:=rfl
theorem within_c (n lo hi:Int) (h1:-1099511627776 ≤ lo) (h2:lo ≤ hi) (h3:hi ≤ 1099511627776) (hn:-9223372036854775808 ≤ n∧n < 9223372036854775808) (h:H):W K 7 [.one (ii n),.one (ii lo),.one (ii hi)] h = some (.ret (.one (ii (withinI n lo hi))) h):=by
 have hd:0 < hi - lo + 1:=by omega
 have m1:=Int.tmod_lt_of_pos n hd
 have m2:-(hi - lo + 1) < n.tmod (hi - lo + 1):=by
  rcases Int.le_total 0 n with h | h
  ·have:=Int.tmod_nonneg (hi - lo + 1) h;omega
  ·have h3:=Int.tmod_lt_of_pos (-n) hd
   rw [Int.neg_tmod] at h3;omega
 have w1:IntKind.i64.wrap (hi - lo) = hi - lo:=wrap_i64 (by omega) (by omega)
 have w2:IntKind.i64.wrap (hi - lo + 1) = hi - lo + 1:=wrap_i64 (by omega) (by omega)
 have e0:¬ hi - lo + 1 = 0:=by omega
 unfold withinI
 generalize hm:n.tmod (hi - lo + 1) = m at *
 have w3:IntKind.i64.wrap (m + hi) = m + hi:=wrap_i64 (by omega) (by omega)
 have w4:IntKind.i64.wrap (m + hi - lo) = m + hi - lo:=wrap_i64 (by omega) (by omega)
 have w5:IntKind.i64.wrap (m + hi - lo + 1) = m + hi - lo + 1:=wrap_i64 (by omega) (by omega)
 have w6:IntKind.i64.wrap (lo + m) = lo + m:=wrap_i64 (by omega) (by omega)
 have w7:IntKind.i64.wrap (lo + (m + hi - lo + 1)) = lo + (m + hi - lo + 1):=wrap_i64 (by omega) (by omega)
 refine W_does hp rfl rfl rfl Tryz.func7 rfl (by simp [Tryz.f7]) ?_
 simp only [Tryz.f7]
 refine hide ?_;intro Q1 hQ1
 repeat' (first
  | (replace hQ1:=hQ1;simp [w1,w2,w3,w4,w5,w6,w7,e0,hm])
  | (refine hQ1 _ _ _ ?_;clear hQ1 Q1;first | simp only [] | simp [w1,w2,w3,w4,w5,w6,w7,e0,hm])
  | (first | apply cF | apply wN | apply wS) <;> intro hcnd <;> (try simp only [hcnd]) <;> (try simp [-List.isEmpty_iff,-List.isEmpty_eq_false_iff] at hcnd))
 all_goals first | done | (simp_all [-List.isEmpty_iff,-List.isEmpty_eq_false_iff,← List.isEmpty_iff];done) | (simp_all;done) | (simp_all;omega) | (simp;omega) | (intros;omega) | (intros;simp only [decide_eq_true_eq] at *;omega) | (intros;simp at *;omega) | skip
def I64 (n:Int):Prop:=-9223372036854775808 ≤ n∧n < 9223372036854775808
theorem pick_c (at':Int) (ha:I64 at') (h:H) (b:Nat) (hb:h.f b = some lit):∃ k,k < 8∧W K 38 [.one (.slc b 0 0 8 1 none),.one (ii at')] h = some (.ret (.one (.str (rwn k))) h):=by
 have hm:=m20_bounds at'
 have hw:=within_c at' 0 1048576 (by omega) (by omega) (by omega) ha
 simp only [m20] at hm
 generalize withinI at' 0 1048576 = m at *
 have hmod:m.tmod 8 = m % 8:=Int.tmod_eq_emod_of_nonneg hm.1
 refine ⟨(m % 8).toNat,by omega, ?_⟩
 generalize hq:m % 8 = q at *
 obtain rfl | rfl | rfl | rfl | rfl | rfl | rfl | rfl:q = 0 ∨ q = 1 ∨ q = 2 ∨ q = 3 ∨ q = 4 ∨ q = 5 ∨ q = 6 ∨ q = 7:=by omega
 all_goals
  refine W_does hp rfl rfl rfl Tryz.func38 rfl (by simp [Tryz.f38]) ?_
  simp only [Tryz.f38]
  refine hide ?_;intro Q2 hQ2
  repeat' (first
   | (replace hQ2:=hQ2;simp [hw,hmod,hb,lit,rwn,indexA])
   | (refine hQ2 _ _ _ ?_;clear hQ2 Q2;first | simp only [] | simp [hw,hmod,hb,lit,rwn,indexA]))
  all_goals first | done | (simp_all [-List.isEmpty_iff,-List.isEmpty_eq_false_iff,← List.isEmpty_iff];done) | (simp_all;done) | (simp_all;omega) | (simp;omega) | (intros;omega) | (intros;simp only [decide_eq_true_eq] at *;omega) | (intros;simp at *;omega) | skip
theorem row_c (at':Int) (ha:I64 at') (h:H):∃ k,k < 8∧W K 15 [.one (ii at')] h = some (.ret (.one (.str (rwn k))) (h.new lit)):=by
 obtain ⟨k,hk,hp'⟩:=pick_c at' ha (h.new lit) h.next (by simp)
 refine ⟨k,hk, ?_⟩
 have hl:lit = (⟨0,[8],true,[.str [97],.str [98],.str [109],.str [110],.str [122],.str [109,97],.str [122,122],.str [48]]⟩:Blk):=rfl
 rw [hl] at hp' ⊢
 refine W_does hp rfl rfl rfl Tryz.func15 rfl (by simp [Tryz.f15]) ?_
 simp only [Tryz.f15]
 refine hide ?_;intro Q3 hQ3
 repeat' (first
  | (replace hQ3:=hQ3;simp [hp'])
  | (refine hQ3 _ _ _ ?_;clear hQ3 Q3;first | simp only [] | simp [hp']))
 all_goals first | done | (simp_all [-List.isEmpty_iff,-List.isEmpty_eq_false_iff,← List.isEmpty_iff];done) | (simp_all;done) | (simp_all;omega) | (simp;omega) | (intros;omega) | (intros;simp only [decide_eq_true_eq] at *;omega) | (intros;simp at *;omega) | skip
end Go.Proofs.YtmmhjaeekkbceaaGreat
