/- A part of a proof over the abstract machine. No conditions. -/
import Derived.Test.YtofafocfemikcaaGreatAb5
import Derived.Test.YtofafocfemikcaaGreatAb2
import Derived.ProofKit
import Derived.Test.YtofafocfemikcaaGreatRows
namespace Go.Proofs.YtofafocfemikcaaGreat
open Go Go.Ab
noncomputable def S:SeatK:=⟨Tryz.prog,[(66,.frombits),(77,.bits),(422,.cmpBytes),(394,.cmpStr)],[90,23,73,222],some (100,RdFn.of 127 269 Tryz.f100),some (229,LayFn.of 331 Tryz.f229 Tryz.f331),[11,20,41,42,43,44,55,12,56,54,21,180,244,195,157,118,198,175,158,220,282,262,319,221,223,284,182,247,240,297,283,327,330,364,369,343,438,280,320,363,321,162,230,163,222,404,124,227,151,179,199,267,264,51,243,329,281,318,362,396,395,397,421,63,64,65,19,76,34,35,39,38,40,53,62,37,36,52,312,314,315,26,25,24,7,23,17,6,27,8,9,16,18,30,14,45,22,13,15,31,426,425,431,430,434,441,451,298,340,342,448,400,399,350,292],[34,35,39,38,40,53,62,37,36,52,9]⟩
noncomputable abbrev K:Conf:=(confK S).know 10
theorem hp:PrimOk K:=know_prim confK_prim
theorem Tryz.mixed:Tryz.prog.follows .mixedOrders = true:=by kernel_rfl
theorem Tryz.okNB:okNB Tryz.prog = true:=by kernel_rfl
theorem Tryz.okT:OkT Tryz.prog:=okT_ok (by kernel_rfl)
theorem Tryz.own:ownKnob Tryz.prog.godebug = none:=by kernel_rfl
theorem Tryz.laidOut:laidOutB Tryz.prog = true:=by kernel_rfl
theorem ext66:ExtT Tryz.prog 66 .frombits:=⟨_,Tryz.func66,by kernel_rfl,by kernel_rfl,by kernel_rfl,by kernel_rfl⟩
theorem ext77:ExtT Tryz.prog 77 .bits:=⟨_,Tryz.func77,by kernel_rfl,by kernel_rfl,by kernel_rfl,by kernel_rfl⟩
theorem ext422:ExtT Tryz.prog 422 .cmpBytes:=⟨_,Tryz.func422,by kernel_rfl,by kernel_rfl,by kernel_rfl,by kernel_rfl⟩
theorem ext394:ExtT Tryz.prog 394 .cmpStr:=⟨_,Tryz.func394,by kernel_rfl,by kernel_rfl,by kernel_rfl,by kernel_rfl⟩
set_option maxRecDepth 100000 in
theorem S_read:ReadOk Tryz.prog 100 (RdFn.of 127 269 Tryz.f100) :=
 readOk_of (ta:=20) (tb:=4) Tryz.func100 Tryz.func127 rfl rfl (by kernel_rfl) (by kernel_rfl) (by kernel_rfl) (by kernel_rfl) (by kernel_rfl) (by kernel_rfl) (by kernel_rfl)
  (by kernel_rfl) (by kernel_rfl) (by kernel_rfl) (by kernel_rfl) Tryz.underlying20 Tryz.underlying269 rfl (by kernel_rfl) rfl (by kernel_rfl) (by kernel_rfl) (by kernel_rfl) (by kernel_rfl)
set_option maxRecDepth 100000 in
theorem S_lay:LayOk Tryz.prog 229 (LayFn.of 331 Tryz.f229 Tryz.f331) :=
 layOk_of Tryz.func229 Tryz.func331 rfl rfl (by kernel_rfl) (by kernel_rfl) (by kernel_rfl) (by kernel_rfl) (by kernel_rfl) (by kernel_rfl) (by kernel_rfl)
  (by kernel_rfl) (by kernel_rfl) (by kernel_rfl) (by kernel_rfl) (by kernel_rfl) (by kernel_rfl) (by kernel_rfl)
theorem S_ok:SeatKOk S where
 okT:=Tryz.okT
 mixed:=Tryz.mixed
 names:=okN_ok Tryz.okNB
 ext:=by
  intro q hq
  simp only [S,List.mem_cons,List.not_mem_nil,or_false] at hq
  rcases hq with rfl | rfl | rfl | rfl
  ·exact ext66
  ·exact ext77
  ·exact ext422
  ·exact ext394
 cmp:=by
  intro t ht
  simp only [S,List.mem_cons,List.not_mem_nil,or_false] at ht
  rcases ht with rfl | rfl | rfl | rfl
  ·exact ⟨⟨_,Tryz.underlying90⟩,by kernel_rfl⟩
  ·exact ⟨⟨_,Tryz.underlying23⟩,by kernel_rfl⟩
  ·exact ⟨⟨_,Tryz.underlying73⟩,by kernel_rfl⟩
  ·exact ⟨⟨_,Tryz.underlying222⟩,by kernel_rfl⟩
 read:=by
  intro q hq
  simp only [S,oqI] at hq
  subst hq
  exact S_read
 lay:=by
  intro q hq
  simp only [S,oqI] at hq
  subst hq
  exact S_lay
theorem known_c (h:H):W K 10 [] h = some (.ret (.one (.bool true)) h):=know_at hp h
end Go.Proofs.YtofafocfemikcaaGreat
