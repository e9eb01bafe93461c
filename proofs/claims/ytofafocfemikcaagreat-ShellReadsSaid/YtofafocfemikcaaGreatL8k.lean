/- A part of a proof over the abstract machine. No conditions. -/
import Derived.Test.YtofafocfemikcaaGreatL2s
import Derived.Test.YtofafocfemikcaaGreatSeatK
set_option linter.unusedSimpArgs false
set_option linter.unusedVariables false
namespace Go.Proofs.YtofafocfemikcaaGreat
open Go Go.Ab Wm NumPlain
set_option maxRecDepth 10000
theorem near_lt:∀ m:Fin 20,FloatKind.nearest .f64 ((m.val:Int) - 9) < 2 ^ 64:=by decide +kernel
theorem kFloat_lt (n:Int) {x:Nat} (hx:x < 2 ^ 64):kFloat n x < 2 ^ 64:=by
 unfold kFloat
 simp only
 split
 ·omega
 split
 ·omega
 split
 ·omega
 split
 ·omega
 split
 ·omega
 split
 ·omega
 split
 ·have h1:=Int.emod_nonneg (m20 n) (show (20:Int) ≠ 0 by decide)
  have h2:=Int.emod_lt_of_pos (m20 n) (show (0:Int) < 20 by decide)
  have:=near_lt ⟨(m20 n % 20).toNat,by omega⟩
  have e:(((m20 n % 20).toNat:Nat):Int) = m20 n % 20:=by omega
  simp only [e] at this
  exact this
 ·exact hx
theorem kValue_lt {v:KV} (hx:v.x < 2 ^ 64):(kValue v).n < 2 ^ 64:=by
 unfold kValue
 split
 ·simp
 ·exact kFloat_lt _ hx
theorem kChange_num {c:KC} (hx:c.v.x < 2 ^ 64):(1 ≤ (kChange c).kind∧(kChange c).kind ≤ 5)∧(0 ≤ (kChange c).time∧(kChange c).time < 9223372036854775808)∧(kChange c).v.n < 2 ^ 64:=by
 have hb:=@withinI_bounds c.time 0 30 (by omega)
 have h1:=Int.emod_nonneg (m20 c.kind) (show (5:Int) ≠ 0 by decide)
 have h2:=Int.emod_lt_of_pos (m20 c.kind) (show (0:Int) < 5 by decide)
 unfold kChange
 simp only
 split
 ·exact ⟨by simp,by simp only;omega,kFloat_lt _ hx⟩
 split
 ·exact ⟨by simp,by simp only;omega,by simp⟩
 split
 ·exact ⟨by simp,by simp,by simp⟩
 split
 ·exact ⟨by simp,by simp,by simp⟩
 ·exact ⟨by simp only;omega,by simp only;omega,kValue_lt hx⟩
theorem kOp_num {o:KO} (hx:o.v.x < 2 ^ 64) (hl:∀ c ∈ ls o.l,c.v.x < 2 ^ 64):OpNum (kOp o):=by
 unfold kOp
 split
 ·exact ⟨by simp,by simp [noCond]⟩
 split
 ·exact ⟨by simp,by simp [noCond]⟩
 ·refine ⟨?_, ?_⟩
  ·intro c hc
   simp only at hc
   split at hc
   ·simp at hc;subst hc;simp
   ·simp only [kChanges,ls_opt] at hc
    obtain ⟨x,hx1,rfl⟩:=List.mem_map.1 hc
    exact kChange_num (hl x (List.mem_of_mem_take hx1))
  ·simp only
   split
   ·simp only
    split
    ·exact kValue_lt hx
    ·simp
   ·simp [noCond]
theorem fit_kc:∀ l,FitL [.int .i64,.int .i64,.int .i64,.bool,.int .i64,.flt,.slc [.int .u8]] l→∃ x:KC,(KCok x∧x.v.x < 2 ^ 64)∧l = encKC x:=by
 intro l hf
 obtain ⟨a1,r1,rfl,g1,hf⟩:=fitL_cons hf
 obtain ⟨a2,r2,rfl,g2,hf⟩:=fitL_cons hf
 obtain ⟨a3,r3,rfl,g3,hf⟩:=fitL_cons hf
 obtain ⟨a4,r4,rfl,g4,hf⟩:=fitL_cons hf
 obtain ⟨a5,r5,rfl,g5,hf⟩:=fitL_cons hf
 obtain ⟨a6,r6,rfl,g6,hf⟩:=fitL_cons hf
 obtain ⟨a7,r7,rfl,g7,hf⟩:=fitL_cons hf
 cases fitL_nil hf
 obtain ⟨n1,b1,rfl⟩:=fit_i64 g1
 obtain ⟨n2,b2,rfl⟩:=fit_i64 g2
 obtain ⟨n3,b3,rfl⟩:=fit_i64 g3
 obtain ⟨n4,rfl⟩:=fit_bool g4
 obtain ⟨n5,b5,rfl⟩:=fit_i64 g5
 obtain ⟨n6,b6,rfl⟩:=fit_flt g6
 obtain ⟨n7,b7,rfl⟩:=fit_bs g7
 exact ⟨⟨n1,n2,n3,⟨n4,n5,n6,n7⟩⟩,⟨⟨b1,b2,b3,b5⟩,b6⟩,rfl⟩
end Go.Proofs.YtofafocfemikcaaGreat
