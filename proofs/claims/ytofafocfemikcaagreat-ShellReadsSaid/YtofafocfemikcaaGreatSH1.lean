/- A part of a proof over the abstract machine. No conditions. -/
import Derived.Test.YtofafocfemikcaaGreatC2
import Derived.Test.YtofafocfemikcaaGreatShellPlain
set_option linter.unusedSimpArgs false
set_option linter.unnecessarySimpa false
set_option linter.unusedVariables false
namespace Go.Proofs.YtofafocfemikcaaGreat
open Go Go.Ab Wm NumPlain
set_option maxRecDepth 10000
set_option maxHeartbeats 4000000
def itP (x:Wm.Item):ShellPlain.It:=⟨x.kind,x.group,x.n,x.client,ls x.bytes⟩
def asG (k:Int):Bool:=decide (k = 1 ∨ k = 5)
def asC (k:Int):Bool:=decide (k = 1 ∨ k = 6)
def asN (k:Int):Bool:=decide (1 ≤ k∧k ≤ 5)
def asB (k:Int):Bool:=decide (k = 6 ∨ k = 7)
def asK (k:Int):Bool:=decide (1 ≤ k∧k ≤ 8)
def inB (a:Bool) (n m:Int):Bool:=!a || (decide (0 ≤ n) && decide (n ≤ m))
theorem kinds (k:Int):k = 1 ∨ k = 2 ∨ k = 3 ∨ k = 4 ∨ k = 5 ∨ k = 6 ∨ k = 7 ∨ k = 8 ∨ (¬ (1 ≤ k∧k ≤ 8)):=by omega
theorem sasks_c (k:Int) (h:H):W K 26 [.one (ii k)] h = some (.ret (.tup [(false,[.bool (asG k)]),(false,[.bool (asC k)]),(false,[.bool (asN k)]),(false,[.bool (asB k)]),(false,[.bool (asK k)])]) h):=by
 rcases kinds k with rfl | rfl | rfl | rfl | rfl | rfl | rfl | rfl | hk
 iterate 8
  focus
   have hown:memL S.own 26 = false:=by kernel_rfl
   refine W_pure hp (by simp [pureV,asG,asC,asN,asB,asK,outV,frzV,frzS,frzS_pure,frzP,pureS,pureL,K_own,hown]) (apart_does rfl rfl (by kernel_rfl) Tryz.func26 rfl (by simp [Tryz.f26]) ?_)
   simp only [Tryz.f26]
   refine hide ?_;intro Q1 hQ1
   repeat' (first
    | (replace hQ1:=hQ1;simp [asG,asC,asN,asB,asK,outV,frzV,frzS,frzS_pure,frzP,pureS,pureL,K_own,hown])
    | refine hQ1 _ _ _ ?_
    | (first | apply cF | apply wN | apply wS) <;> intro hcnd <;> (try simp only [hcnd]) <;> (try simp [-List.isEmpty_iff,-List.isEmpty_eq_false_iff] at hcnd))
 ·have n1:¬ k = 1:=by omega
  have n2:¬ k = 2:=by omega
  have n3:¬ k = 3:=by omega
  have n4:¬ k = 4:=by omega
  have n5:¬ k = 5:=by omega
  have n6:¬ k = 6:=by omega
  have n7:¬ k = 7:=by omega
  have n8:¬ k = 8:=by omega
  have e1:asG k = false:=by simp [asG];omega
  have e2:asC k = false:=by simp [asC];omega
  have e3:asN k = false:=by simp [asN];omega
  have e4:asB k = false:=by simp [asB];omega
  have e5:asK k = false:=by simp [asK];omega
  have b1:(k == 1) = false:=by simpa using n1
  have b2:(k == 2) = false:=by simpa using n2
  have b3:(k == 3) = false:=by simpa using n3
  have b4:(k == 4) = false:=by simpa using n4
  have b5:(k == 5) = false:=by simpa using n5
  have b6:(k == 6) = false:=by simpa using n6
  have b7:(k == 7) = false:=by simpa using n7
  have b8:(k == 8) = false:=by simpa using n8
  rw [e1,e2,e3,e4,e5]
  have hown:memL S.own 26 = false:=by kernel_rfl
  refine W_pure hp (by simp [pureV,n1,n2,n3,n4,n5,n6,n7,n8,b1,b2,b3,b4,b5,b6,b7,b8,outV,frzV,frzS,frzS_pure,frzP,pureS,pureL,K_own,hown]) (apart_does rfl rfl (by kernel_rfl) Tryz.func26 rfl (by simp [Tryz.f26]) ?_)
  simp only [Tryz.f26]
  refine hide ?_;intro Q2 hQ2
  repeat' (first
   | (replace hQ2:=hQ2;simp [n1,n2,n3,n4,n5,n6,n7,n8,b1,b2,b3,b4,b5,b6,b7,b8,outV,frzV,frzS,frzS_pure,frzP,pureS,pureL,K_own,hown])
   | refine hQ2 _ _ _ ?_
   | (first | apply cF | apply wN | apply wS) <;> intro hcnd <;> (try simp only [hcnd]) <;> (try simp [-List.isEmpty_iff,-List.isEmpty_eq_false_iff] at hcnd))
theorem okI_as (x:Wm.Item):ShellPlain.okI (itP x) = (asK x.kind && (inB (asG x.kind) x.group 255 && (inB (asC x.kind) x.client 255 && (inB (asN x.kind) x.n 65535 && inB (asB x.kind) (ls x.bytes).length 65535)))):=by
 obtain ⟨k,g,n,c,b⟩:=x
 unfold ShellPlain.okI itP
 simp only [inB,ShellPlain.small,ShellPlain.num]
 rcases kinds k with rfl | rfl | rfl | rfl | rfl | rfl | rfl | rfl | hk
 all_goals try (simp [asG,asC,asN,asB,asK,Bool.and_assoc];done)
 ·have n1:¬ k = 1:=by omega
  have n2:¬ (k = 2 ∨ k = 3 ∨ k = 4):=by omega
  have n5:¬ k = 5:=by omega
  have n6:¬ k = 6:=by omega
  have n7:¬ k = 7:=by omega
  have n8:¬ k = 8:=by omega
  have e5:asK k = false:=by simp [asK];omega
  simp [n1,n2,n5,n6,n7,n8,e5]
end Go.Proofs.YtofafocfemikcaaGreat
