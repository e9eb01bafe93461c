/- A part of a proof over the abstract machine. No conditions. -/
import Derived.Test.YtiagcnfmgigllaaGreatT48
set_option linter.unusedSimpArgs false
set_option linter.unusedVariables false
namespace Go.Proofs.YtiagcnfmgigllaaGreat
open Go Go.Ab Wm NumPlain
set_option maxRecDepth 10000
set_option maxHeartbeats 4000000
theorem fit_kc:∀ l,FitL [.int .i64,.int .i64,.int .i64,.bool,.int .i64,.flt,.slc [.int .u8]] l→∃ x:KC,(KCok x∧x.v.x < 2 ^ 64)∧l = encKC x:=by
 intro l hf
 obtain ⟨a1,r1,rfl,g1,hf⟩:=fitL_cons hf
 obtain ⟨a2,r2,rfl,g2,hf⟩:=fitL_cons hf
 obtain ⟨a3,r3,rfl,g3,hf⟩:=fitL_cons hf
 obtain ⟨a4,r4,rfl,g4,hf⟩:=fitL_cons hf
 obtain ⟨a5,r5,rfl,g5,hf⟩:=fitL_cons hf
 obtain ⟨a6,r6,rfl,g6,hf⟩:=fitL_cons hf
 obtain ⟨a7,r7,rfl,g7,hf⟩:=fitL_cons hf
 cases fitL_nil hf
 obtain ⟨n1,b1,rfl⟩:=fit_i64 g1
 obtain ⟨n2,b2,rfl⟩:=fit_i64 g2
 obtain ⟨n3,b3,rfl⟩:=fit_i64 g3
 obtain ⟨n4,rfl⟩:=fit_bool g4
 obtain ⟨n5,b5,rfl⟩:=fit_i64 g5
 obtain ⟨n6,b6,rfl⟩:=fit_flt g6
 obtain ⟨n7,b7,rfl⟩:=fit_bs g7
 exact ⟨⟨n1,n2,n3,⟨n4,n5,n6,n7⟩⟩,⟨⟨b1,b2,b3,b5⟩,b6⟩,rfl⟩
def KOn (x:KO):Prop:=x.v.x < 2 ^ 64∧∀ c ∈ ls x.l,c.v.x < 2 ^ 64
abbrev koS:List CS:=[.int .i64,.int .i64,.int .i64,.int .i64,.int .i64,.bool,.bool,.bool,.int .i64,.flt,.slc [.int .u8],.slc [.int .i64,.int .i64,.int .i64,.bool,.int .i64,.flt,.slc [.int .u8]]]
theorem fit_ko:∀ l,FitL koS l→∃ x:KO,(KOok x∧KOn x)∧l = encKO x:=by
 intro l hf
 obtain ⟨x1,r1,rfl,q1,hf⟩:=fitL_cons hf
 obtain ⟨x2,r2,rfl,q2,hf⟩:=fitL_cons hf
 obtain ⟨x3,r3,rfl,q3,hf⟩:=fitL_cons hf
 obtain ⟨x4,r4,rfl,q4,hf⟩:=fitL_cons hf
 obtain ⟨x5,r5,rfl,q5,hf⟩:=fitL_cons hf
 obtain ⟨x6,r6,rfl,q6,hf⟩:=fitL_cons hf
 obtain ⟨x7,r7,rfl,q7,hf⟩:=fitL_cons hf
 obtain ⟨x8,r8,rfl,q8,hf⟩:=fitL_cons hf
 obtain ⟨x9,r9,rfl,q9,hf⟩:=fitL_cons hf
 obtain ⟨x10,r10,rfl,q10,hf⟩:=fitL_cons hf
 obtain ⟨x11,r11,rfl,q11,hf⟩:=fitL_cons hf
 obtain ⟨x12,r12,rfl,q12,hf⟩:=fitL_cons hf
 cases fitL_nil hf
 obtain ⟨n1,b1,rfl⟩:=fit_i64 q1
 obtain ⟨n2,b2,rfl⟩:=fit_i64 q2
 obtain ⟨n3,b3,rfl⟩:=fit_i64 q3
 obtain ⟨n4,b4,rfl⟩:=fit_i64 q4
 obtain ⟨n5,b5,rfl⟩:=fit_i64 q5
 obtain ⟨n6,rfl⟩:=fit_bool q6
 obtain ⟨n7,rfl⟩:=fit_bool q7
 obtain ⟨n8,rfl⟩:=fit_bool q8
 obtain ⟨n9,b9,rfl⟩:=fit_i64 q9
 obtain ⟨n10,b10,rfl⟩:=fit_flt q10
 obtain ⟨n11,b11,rfl⟩:=fit_bs q11
 obtain ⟨n12,b12,c12,rfl⟩:=fit_sl fit_kc q12
 exact ⟨⟨n1,n2,n3,n4,n5,n6,n7,⟨n8,n9,n10,n11⟩,n12⟩,⟨⟨b1,b2,b3,b4,b5,b9,fun c hc=>(c12 c hc).1⟩,b10,fun c hc=>(c12 c hc).2⟩,rfl⟩
theorem fit_in:∀ l,FitL [.int .i64] l→∃ n:Int,I64 n∧l = encI n:=by
 intro l hf
 obtain ⟨a1,r1,rfl,g1,hf⟩:=fitL_cons hf
 cases fitL_nil hf
 obtain ⟨n1,b1,rfl⟩:=fit_i64 g1
 exact ⟨n1,b1,rfl⟩
end Go.Proofs.YtiagcnfmgigllaaGreat
