/- A part of a proof over the abstract machine. No conditions. -/
import Derived.Test.YtofafocfemikcaaGreatSH4
import Derived.Test.YtofafocfemikcaaGreatL8k
import Derived.Test.YtofafocfemikcaaGreatWmShell
import Derived.Test.YtofafocfemikcaaGreatSeatK
set_option linter.unusedSimpArgs false
set_option linter.unnecessarySimpa false
set_option linter.unusedVariables false
namespace Go.Proofs.YtofafocfemikcaaGreat
open Go Go.Ab Wm NumPlain
set_option maxRecDepth 10000
set_option maxHeartbeats 4000000
theorem fit_item:∀ l,FitL [.int .i64,.int .i64,.int .i64,.int .i64,.slc [.int .u8]] l→∃ x:Wm.Item,True∧l = encItem x:=by
 intro l hf
 obtain ⟨a1,r1,rfl,g1,hf⟩:=fitL_cons hf
 obtain ⟨a2,r2,rfl,g2,hf⟩:=fitL_cons hf
 obtain ⟨a3,r3,rfl,g3,hf⟩:=fitL_cons hf
 obtain ⟨a4,r4,rfl,g4,hf⟩:=fitL_cons hf
 obtain ⟨a5,r5,rfl,g5,hf⟩:=fitL_cons hf
 cases fitL_nil hf
 obtain ⟨n1,b1,rfl⟩:=fit_i64 g1
 obtain ⟨n2,b2,rfl⟩:=fit_i64 g2
 obtain ⟨n3,b3,rfl⟩:=fit_i64 g3
 obtain ⟨n4,b4,rfl⟩:=fit_i64 g4
 obtain ⟨n5,b5,rfl⟩:=fit_bs g5
 exact ⟨⟨n1,n2,n3,n4,n5⟩,trivial,rfl⟩
structure DrawOk (d:Draw):Prop where
 kind:I64 d.kind
 group:I64 d.group
 n:I64 d.n
 client:I64 d.client
 o:KOok d.o
 x:d.o.v.x < 2 ^ 64
 l:∀ c ∈ ls d.o.l,c.v.x < 2 ^ 64
 pd:I64 d.p.do_
 pa:I64 d.p.at_
 pt:I64 d.p.to
theorem fit_draw:∀ l,FitL [.int .i64,.int .i64,.int .i64,.int .i64,.int .i64,.int .i64,.int .i64,.int .i64,.int .i64,.bool,.bool,.bool,.int .i64,.flt,.slc [.int .u8],.slc [.int .i64,.int .i64,.int .i64,.bool,.int .i64,.flt,.slc [.int .u8]],.int .i64,.int .i64,.int .i64] l→∃ d:Draw,DrawOk d∧l = encDraw d:=by
 intro l hf
 obtain ⟨a1,r1,rfl,g1,hf⟩:=fitL_cons hf
 obtain ⟨a2,r2,rfl,g2,hf⟩:=fitL_cons hf
 obtain ⟨a3,r3,rfl,g3,hf⟩:=fitL_cons hf
 obtain ⟨a4,r4,rfl,g4,hf⟩:=fitL_cons hf
 obtain ⟨a5,r5,rfl,g5,hf⟩:=fitL_cons hf
 obtain ⟨a6,r6,rfl,g6,hf⟩:=fitL_cons hf
 obtain ⟨a7,r7,rfl,g7,hf⟩:=fitL_cons hf
 obtain ⟨a8,r8,rfl,g8,hf⟩:=fitL_cons hf
 obtain ⟨a9,r9,rfl,g9,hf⟩:=fitL_cons hf
 obtain ⟨a10,r10,rfl,g10,hf⟩:=fitL_cons hf
 obtain ⟨a11,r11,rfl,g11,hf⟩:=fitL_cons hf
 obtain ⟨a12,r12,rfl,g12,hf⟩:=fitL_cons hf
 obtain ⟨a13,r13,rfl,g13,hf⟩:=fitL_cons hf
 obtain ⟨a14,r14,rfl,g14,hf⟩:=fitL_cons hf
 obtain ⟨a15,r15,rfl,g15,hf⟩:=fitL_cons hf
 obtain ⟨a16,r16,rfl,g16,hf⟩:=fitL_cons hf
 obtain ⟨a17,r17,rfl,g17,hf⟩:=fitL_cons hf
 obtain ⟨a18,r18,rfl,g18,hf⟩:=fitL_cons hf
 obtain ⟨a19,r19,rfl,g19,hf⟩:=fitL_cons hf
 cases fitL_nil hf
 obtain ⟨n1,b1,rfl⟩:=fit_i64 g1
 obtain ⟨n2,b2,rfl⟩:=fit_i64 g2
 obtain ⟨n3,b3,rfl⟩:=fit_i64 g3
 obtain ⟨n4,b4,rfl⟩:=fit_i64 g4
 obtain ⟨n5,b5,rfl⟩:=fit_i64 g5
 obtain ⟨n6,b6,rfl⟩:=fit_i64 g6
 obtain ⟨n7,b7,rfl⟩:=fit_i64 g7
 obtain ⟨n8,b8,rfl⟩:=fit_i64 g8
 obtain ⟨n9,b9,rfl⟩:=fit_i64 g9
 obtain ⟨n10,rfl⟩:=fit_bool g10
 obtain ⟨n11,rfl⟩:=fit_bool g11
 obtain ⟨n12,rfl⟩:=fit_bool g12
 obtain ⟨n13,b13,rfl⟩:=fit_i64 g13
 obtain ⟨n14,b14,rfl⟩:=fit_flt g14
 obtain ⟨n15,b15,rfl⟩:=fit_bs g15
 obtain ⟨n16,b16,c16,rfl⟩:=fit_sl fit_kc g16
 obtain ⟨n17,b17,rfl⟩:=fit_i64 g17
 obtain ⟨n18,b18,rfl⟩:=fit_i64 g18
 obtain ⟨n19,b19,rfl⟩:=fit_i64 g19
 exact ⟨⟨n1,n2,n3,n4,⟨n5,n6,n7,n8,n9,n10,n11,⟨n12,n13,n14,n15⟩,n16⟩,⟨n17,n18,n19⟩⟩,⟨b1,b2,b3,b4,⟨b5,b6,b7,b8,b9,b13,fun c hc=>(c16 c hc).1⟩,b14,fun c hc=>(c16 c hc).2,b17,b18,b19⟩,rfl⟩
structure RawOk (x:Raw):Prop where
 g:I64 x.c.groups
 n:I64 x.c.n
 c:I64 x.c.clients
 l:(ls x.l).length ≤ maxLen∧∀ d ∈ ls x.l,DrawOk d
 i:(ls x.items).length ≤ maxLen
abbrev rawS:List CS:=[.int .i64,.int .i64,.int .i64,.slc [.int .i64,.int .i64,.int .i64,.int .i64,.int .i64,.int .i64,.int .i64,.int .i64,.int .i64,.bool,.bool,.bool,.int .i64,.flt,.slc [.int .u8],.slc [.int .i64,.int .i64,.int .i64,.bool,.int .i64,.flt,.slc [.int .u8]],.int .i64,.int .i64,.int .i64],.slc [.int .i64,.int .i64,.int .i64,.int .i64,.slc [.int .u8]],.bool]
theorem raw_inv {a:AV} (g:FitA (true,rawS) a):∃ x:Raw,RawOk x∧a = .agg [ii x.c.groups,ii x.c.n,ii x.c.clients,sl 19 encDraw x.l,sl 5 encItem x.items,.bool x.tame]:=by
 obtain ⟨l,rfl,hf⟩:=fit_agg g
 obtain ⟨a1,r1,rfl,g1,hf⟩:=fitL_cons hf
 obtain ⟨a2,r2,rfl,g2,hf⟩:=fitL_cons hf
 obtain ⟨a3,r3,rfl,g3,hf⟩:=fitL_cons hf
 obtain ⟨a4,r4,rfl,g4,hf⟩:=fitL_cons hf
 obtain ⟨a5,r5,rfl,g5,hf⟩:=fitL_cons hf
 obtain ⟨a6,r6,rfl,g6,hf⟩:=fitL_cons hf
 cases fitL_nil hf
 obtain ⟨n1,b1,rfl⟩:=fit_i64 g1
 obtain ⟨n2,b2,rfl⟩:=fit_i64 g2
 obtain ⟨n3,b3,rfl⟩:=fit_i64 g3
 obtain ⟨n4,b4,c4,rfl⟩:=fit_sl fit_draw g4
 obtain ⟨n5,b5,c5,rfl⟩:=fit_sl fit_item g5
 obtain ⟨n6,rfl⟩:=fit_bool g6
 exact ⟨⟨⟨n1,n2,n3⟩,n4,n5,n6⟩,⟨b1,b2,b3,⟨b4,c4⟩,b5⟩,rfl⟩
end Go.Proofs.YtofafocfemikcaaGreat
