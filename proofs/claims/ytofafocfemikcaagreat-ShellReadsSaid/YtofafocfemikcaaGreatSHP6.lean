/- A part of a proof over the abstract machine. No conditions. -/
import Derived.Test.YtofafocfemikcaaGreatSHP5
import Derived.Test.YtofafocfemikcaaGreatSHB
set_option linter.unusedSimpArgs false
set_option linter.unnecessarySimpa false
set_option linter.unusedVariables false
namespace Go.Proofs.YtofafocfemikcaaGreat
open Go Go.Ab Wm NumPlain
set_option maxRecDepth 10000
set_option maxHeartbeats 4000000
theorem its_few:∀ (f m:Nat) (l:BL),(ShellPlain.items f m l).length ≤ m
 | 0,m,l=>by simp [ShellPlain.items]
 | f + 1,m,[]=>by simp [ShellPlain.items]
 | f + 1,0,a::l=>by simp [ShellPlain.items]
 | f + 1,m + 1,a::l=>by
  rw [ShellPlain.items]
  split
  ·exact its_few f (m + 1) l
  ·split
   ·rename_i x r' _
    have:=its_few f m r'
    simp only [List.length_cons];omega
   ·simp
theorem eqI_refl (x:Wm.Item):EqI x x:=by constructor <;> rfl
theorem reads_c (o:Option BL) (ho:(ls o).length < 9223372036854775808) (h:H):W K 14 [.one (bs o)] h = some (.ret (.one (.bool true)) h):=by
 by_cases h3:(ls o).length < 3
 ·have e1:=fun h=>decode_no o h3 h
  have e2:=fun h=>parse_no o h3 h
  have SM:=fun h=>same_c ([]:List Wm.Item) id id (fun x hx=>by cases hx) 0 0 0 none none rfl rfl (by simp) h
  have q:(sl 5 encItem (none:Option (List Wm.Item))) = .nilslc:=rfl
  rw [q] at SM
  have hown:memL S.own 14 = false:=by kernel_rfl
  refine W_pure hp (by simp [pureV,e1,e2,SM,outV,frzV,frzS,frzS_pure,frzP,pureS,pureL,K_own,hown]) (apart_does rfl rfl (by kernel_rfl) Tryz.func14 rfl (by simp [Tryz.f14]) ?_)
  simp only [Tryz.f14]
  refine hide ?_;intro Q1 hQ1
  repeat' (first
   | (replace hQ1:=hQ1;simp [e1,e2,SM,outV,frzV,frzS,frzS_pure,frzP,pureS,pureL,K_own,hown])
   | refine hQ1 _ _ _ ?_
   | (first | apply cF | apply wN | apply wS) <;> intro hcnd <;> (try simp only [hcnd]) <;> (try simp [-List.isEmpty_iff,-List.isEmpty_eq_false_iff] at hcnd))
  all_goals trace_state
 ·obtain ⟨g,n,c,l,rfl⟩:∃ g n c l,o = some (g::n::c::l):=by
   rcases o with _ | _ | ⟨g,_ | ⟨n,_ | ⟨c,l⟩⟩⟩ <;> simp at h3 ⊢
  have hl:l.length < 9223372036854775805:=by simp at ho;omega
  have e1:=fun h=>decode_ok g n c l h hl
  have e2:=fun h=>parse_ok g n c l hl h
  have SM:=fun h=>same_c ((ShellPlain.its 256 l).map itemW) id id (fun x hx=>eqI_refl x) g.toNat n.toNat c.toNat (opt ((ShellPlain.its 256 l).map itemW)) (opt ((ShellPlain.its 256 l).map itemW)) (by simp [ls_opt]) (by simp [ls_opt]) (by rw [List.length_map];exact its_few _ _ _) h
  generalize opt ((ShellPlain.its 256 l).map itemW) = X at *
  have hown:memL S.own 14 = false:=by kernel_rfl
  refine W_pure hp (by simp [pureV,e1,e2,SM,outV,frzV,frzS,frzS_pure,frzP,pureS,pureL,K_own,hown]) (apart_does rfl rfl (by kernel_rfl) Tryz.func14 rfl (by simp [Tryz.f14]) ?_)
  simp only [Tryz.f14]
  refine hide ?_;intro Q2 hQ2
  repeat' (first
   | (replace hQ2:=hQ2;simp [e1,e2,SM,outV,frzV,frzS,frzS_pure,frzP,pureS,pureL,K_own,hown])
   | refine hQ2 _ _ _ ?_
   | (first | apply cF | apply wN | apply wS) <;> intro hcnd <;> (try simp only [hcnd]) <;> (try simp [-List.isEmpty_iff,-List.isEmpty_eq_false_iff] at hcnd))
  all_goals trace_state
end Go.Proofs.YtofafocfemikcaaGreat
