/- A part of a proof over the abstract machine. No conditions. -/
import Derived.Test.YtkpmdlcmbemgdaaGreatW5m
import Derived.Test.YtkpmdlcmbemgdaaGreatSeatF
import Derived.Test.YtkpmdlcmbemgdaaGreatAb5
import Derived.Test.YtkpmdlcmbemgdaaGreatAb5
import Derived.Test.YtkpmdlcmbemgdaaGreatFQ0
set_option linter.unusedSimpArgs false
set_option linter.unnecessarySimpa false
set_option linter.unusedVariables false
namespace Go.Proofs.YtkpmdlcmbemgdaaGreat
open Go Go.Ab Wm
set_option maxRecDepth 10000
set_option maxHeartbeats 4000000
@[simp] theorem KP:K.P = Tryz.prog:=rfl
theorem within_c (n lo hi:Int) (h1:-1099511627776 ≤ lo) (h2:lo ≤ hi) (h3:hi ≤ 1099511627776) (hn:-9223372036854775808 ≤ n∧n < 9223372036854775808) (h:H):W K 13 [.one (ii n),.one (ii lo),.one (ii hi)] h = some (.ret (.one (ii (withinI n lo hi))) h):=by
 have hd:0 < hi - lo + 1:=by omega
 have m1:=Int.tmod_lt_of_pos n hd
 have m2:-(hi - lo + 1) < n.tmod (hi - lo + 1):=by
  rcases Int.le_total 0 n with h | h
  ·have:=Int.tmod_nonneg (hi - lo + 1) h;omega
  ·have h3:=Int.tmod_lt_of_pos (-n) hd
   rw [Int.neg_tmod] at h3;omega
 have w1:IntKind.i64.wrap (hi - lo) = hi - lo:=wrap_i64 (by omega) (by omega)
 have w2:IntKind.i64.wrap (hi - lo + 1) = hi - lo + 1:=wrap_i64 (by omega) (by omega)
 have e0:¬ hi - lo + 1 = 0:=by omega
 unfold withinI
 generalize hm:n.tmod (hi - lo + 1) = m at *
 have w3:IntKind.i64.wrap (m + hi) = m + hi:=wrap_i64 (by omega) (by omega)
 have w4:IntKind.i64.wrap (m + hi - lo) = m + hi - lo:=wrap_i64 (by omega) (by omega)
 have w5:IntKind.i64.wrap (m + hi - lo + 1) = m + hi - lo + 1:=wrap_i64 (by omega) (by omega)
 have w6:IntKind.i64.wrap (lo + m) = lo + m:=wrap_i64 (by omega) (by omega)
 have w7:IntKind.i64.wrap (lo + (m + hi - lo + 1)) = lo + (m + hi - lo + 1):=wrap_i64 (by omega) (by omega)
 refine W_does hp rfl rfl rfl Tryz.func13 rfl (by simp [Tryz.f13]) ?_
 simp only [Tryz.f13]
 refine hide ?_;intro Q1 hQ1
 repeat' (first
  | (replace hQ1:=hQ1;simp [w1,w2,w3,w4,w5,w6,w7,e0,hm])
  | (refine hQ1 _ _ _ ?_;clear hQ1 Q1;first | simp only [] | simp [w1,w2,w3,w4,w5,w6,w7,e0,hm])
  | (first | apply cF | apply wN | apply wS) <;> intro hcnd <;> (try simp only [hcnd]) <;> (try simp [-List.isEmpty_iff,-List.isEmpty_eq_false_iff] at hcnd))
 all_goals first | done | (simp_all [-List.isEmpty_iff,-List.isEmpty_eq_false_iff,← List.isEmpty_iff];done) | (simp_all;done) | (simp_all;omega) | (simp;omega) | (intros;omega) | (intros;simp only [decide_eq_true_eq] at *;omega) | (intros;simp at *;omega) | skip
def I64 (n:Int):Prop:=-9223372036854775808 ≤ n∧n < 9223372036854775808
theorem tmod_pos {a b:Int} (h:0 ≤ a):a.tmod b = a % b:=Int.tmod_eq_emod_of_nonneg h
@[simp] theorem ghost_new (e h:H) (k:Blk) (b:Nat):(e.ghost h (h.new k)).f b = if b = h.next then some k else e.f b:=by
 unfold H.ghost
 rw [if_pos (by simp [H.new])]
 by_cases hb:b = h.next
 ·simp [hb,H.new]
 ·simp [hb]
theorem config_c (g n k:Int) (hg:I64 g) (hn:I64 n) (hk:I64 k) (h:H):∃ g' n' k':Nat,(g' = 1 ∨ g' = 2 ∨ g' = 3)∧(n' = 1 ∨ n' = 3)∧(k' = 1 ∨ k' = 2 ∨ k' = 3 ∨ k' = 4) ∧
  ∃ r,W K 4 [.one (ii g),.one (ii n),.one (ii k)] h = some r∧Rets (fun v h'=>v = .agg [ii g',ii n',ii k']∧h.next ≤ h'.next∧∀ b,b < h.next→h'.f b = h.f b) r:=by
 have c1:=within_c g 1 3 (by omega) (by omega) (by omega) hg
 have c2:=within_c n 0 1048576 (by omega) (by omega) (by omega) hn
 have c3:=within_c k 1 4 (by omega) (by omega) (by omega) hk
 have b1:=@withinI_bounds g 1 3 (by omega)
 have b2:=@withinI_bounds n 0 1048576 (by omega)
 have b3:=@withinI_bounds k 1 4 (by omega)
 obtain ⟨g',hg'⟩:∃ g':Nat,withinI g 1 3 = g':=⟨(withinI g 1 3).toNat,by omega⟩
 obtain ⟨k',hk'⟩:∃ k':Nat,withinI k 1 4 = k':=⟨(withinI k 1 4).toNat,by omega⟩
 have t2:(withinI n 0 1048576).tmod 2 = withinI n 0 1048576 % 2:=tmod_pos b2.1
 rw [hg'] at c1 b1
 rw [hk'] at c3 b3
 generalize withinI n 0 1048576 = m at *
 obtain ⟨kn,hkn⟩:∃ kn:Nat,m % 2 = kn:=⟨(m % 2).toNat,by omega⟩
 have hkb:kn < 2:=by omega
 rw [hkn] at t2
 have hai:=fun b=>arr_index (P:=Tryz.prog) (t:=43) (size:=1) (b:=b) (v:=0) (n:=2) (i:=kn) Tryz.underlying43 (by simp) (by omega) hkb
 simp only [Nat.mul_one] at hai
 obtain ⟨n',hn',hsub⟩:∃ n':Nat,(n' = 1 ∨ n' = 3)∧sub [ii 1,ii 3] kn 1 = some [ii n']:=by
  rcases (show kn = 0 ∨ kn = 1 by omega) with rfl | rfl
  ·exact ⟨1,by omega,rfl⟩
  ·exact ⟨3,by omega,rfl⟩
 have hk1:kn + 1 ≤ 2:=by omega
 refine ⟨g',n',k',by omega,hn',by omega, ?_⟩
 refine Rets.intro fun P hP=>?_
 have hne:¬ h.next = h.next + 1:=by omega
 refine W_doesQ hp rfl rfl rfl Tryz.func4 rfl (by simp [Tryz.f4]) ?_
 simp only [Tryz.f4]
 refine hide ?_;intro Q2 hQ2
 repeat' (first
  | (replace hQ2:=hQ2;simp [c1,c2,c3,t2,hai,hsub,hk1,hne])
  | refine hQ2 _ _ _ ?_
  | refine dF (id:=1) [0,1,3,4,5,8,9,2,6,7,10,11] [(9,7)] ?_)
 all_goals (refine hP _ _ ?_;exact ⟨rfl,by simp <;> omega,fun b hb=>by simp only [set_at,new_at,new_next,set_next,show ¬ b = h.next by omega,show ¬ b = h.next + 1 by omega,if_false]⟩)
end Go.Proofs.YtkpmdlcmbemgdaaGreat
