/- A part of a proof over the abstract machine. No conditions. -/
import Derived.Test.YtofafocfemikcaaGreatSHP9
set_option linter.unusedSimpArgs false
set_option linter.unnecessarySimpa false
set_option linter.unusedVariables false
namespace Go.Proofs.YtofafocfemikcaaGreat
open Go Go.Ab Wm NumPlain
set_option maxRecDepth 10000
set_option maxHeartbeats 4000000
theorem shellReads_spec:LawSpec Rows.shellReadsSpec 4:=by
 refine ⟨rfl,fun H ds hd=>?_⟩
 rcases ds with _ | ⟨d1,_ | ⟨d2,_ | ⟨d3,_ | ⟨d4,_ | ⟨d5,ds⟩⟩⟩⟩⟩ <;> simp at hd
 rfl
theorem by8_inv {a:AV} (g:FitA (false,[.int .u8]) a):∃ c:UInt8,a = .one (byteS c):=by
 obtain ⟨x,rfl,hx⟩:=fit_one g
 cases hx with
 | int k n h1 =>
  have e1:IntKind.u8.min = 0:=rfl
  have e2:IntKind.u8.max = 255:=rfl
  refine ⟨UInt8.ofNat n.toNat, ?_⟩
  simp [byteS] at h1 ⊢
  omega
theorem reads_law {a0 a1 a2 a3:AV} (g0:FitA (true,rawS) a0) (g1:FitA (false,[.slc [.int .u8]]) a1) (g2:FitA (false,[.int .i64]) a2) (g3:FitA (false,[.int .u8]) a3):∃ h',W K 4 [a0,a1,a2,a3] H.empty = some (.ret (.one (.bool true)) h'):=by
 obtain ⟨x,hx,rfl⟩:=raw_inv g0
 obtain ⟨y,rfl,hy⟩:=fit_one g1
 obtain ⟨b,hb,rfl⟩:=fit_bs hy
 obtain ⟨n,i1,i2,rfl⟩:=i64_inv g2
 obtain ⟨c,rfl⟩:=by8_inv g3
 obtain ⟨r,e,hr⟩:=law_reads x hx b (by simp [maxLen] at hb;omega) n ⟨i1,i2⟩ c H.empty
 obtain ⟨v,h',rfl,rfl⟩:=hr.ret
 exact ⟨h',e⟩
set_option maxRecDepth 100000 in
theorem shellReads_lifted (os:Os) (started:os.Started) (H:Type) (enc:TypeId × Value→H) :
  ReturnsInHanded {} Tryz.checked os 4 .any (Rows.shellReadsSpec.pre6 enc Tryz.prog Tryz.f4 [] false) (Rows.shellReadsSpec.post enc Tryz.prog Tryz.f4 false true false false):=by
 refine law_lifted (Ck:=Tryz.checked) Tryz.own started (by kernel_rfl) Tryz.func4 Tryz.laidOut (tb:=4) (by kernel_rfl) Tryz.underlying4 (by intro t ht;have:t ∈ [27,31,3,5]:=ht;simp at this;rcases this with rfl | rfl | rfl | rfl <;> exact ⟨by kernel_rfl,of_decide_eq_true (by kernel_rfl)⟩) shellReads_spec
  (ChangeSpec.witness6 (enc:=enc) (C:=Tryz.checked) false ⟨#[],#[.agg #[.int .i64 0,.int .i64 0,.int .i64 0,.slice none 0 0,.slice none 0 0,.bool false],.slice none 0 0,.int .i64 0,.int .u8 0],[]⟩ 8 (by kernel_rfl) (by kernel_rfl) (by kernel_rfl) (by kernel_rfl))
  (n:=12) (shs:=[(true,rawS),(false,[.slc [.int .u8]]),(false,[.int .i64]),(false,[.int .u8])]) (by kernel_rfl) ?_
 intro w xs args hf ha
 obtain ⟨a0,r0,rfl,g0,hf⟩:=fit_cons hf
 obtain ⟨a1,r1,rfl,g1,hf⟩:=fit_cons hf
 obtain ⟨a2,r2,rfl,g2,hf⟩:=fit_cons hf
 obtain ⟨a3,r3,rfl,g3,hf⟩:=fit_cons hf
 cases fit_nil hf
 exact law_calls (C:=K) W_K Tryz.func4 rfl (by kernel_rfl) ha (reads_law g0 g1 g2 g3)
theorem shellReads_holds:Rows.ShellReadsSaid :=
 OpenClaim.holds_of_wide 4 Tryz.f4 rfl rfl rfl rfl rfl rfl rfl ⟨rfl,rfl,rfl,rfl,rfl⟩ rfl rfl rfl rfl rfl (by kernel_rfl) Tryz.func4 shellReads_facts
  (of_decide_eq_true (by kernel_rfl)) (by unfold Func.isWrapper;first | (rw [if_pos (by decide +kernel)];kernel_rfl) | (rw [if_neg (by decide +kernel)];exact ⟨rfl,rfl⟩))
  (fun os started H enc _=>shellReads_lifted os started H enc)
#print axioms shellReads_holds
end Go.Proofs.YtofafocfemikcaaGreat
