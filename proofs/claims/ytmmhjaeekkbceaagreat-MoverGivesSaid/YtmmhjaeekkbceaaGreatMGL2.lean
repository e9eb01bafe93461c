/- A part of a proof over the abstract machine. No conditions. -/
import Derived.Test.YtmmhjaeekkbceaaGreatMGL1
import Derived.Test.YtmmhjaeekkbceaaGreatMGD
set_option linter.unusedSimpArgs false
set_option linter.unnecessarySimpa false
set_option linter.unusedVariables false
namespace Go.Proofs.YtmmhjaeekkbceaaGreat
open Go Go.Ab Go.Fa Wm
set_option maxRecDepth 100000
set_option maxHeartbeats 4000000
theorem frL_len (n:Nat) (l:List (Nat × AV)) (j:Nat→AV):(frL n l j).length = n:=by simp [frL]
theorem frL_get {n:Nat} {l:List (Nat × AV)} {j:Nat→AV} {k:Nat} (h:k < n):Fr.get (frL n l j) k = look l k (j k):=by
 simp [Fr.get,frL,h]
theorem look_has:∀ {l:List (Nat × AV)} {k:Nat} {d:AV},(∀ x ∈ l,x.1 = k→d = x.2)→look l k d = d
 | [],_,_,_=>rfl
 | a::l,k,d,h=>by
  rw [look]
  cases hb:Nat.beq k a.1 with
  | true =>
   have:=oqN hb
   exact (h a (by simp) this.symm).symm
  | false=>exact look_has fun x hx=>h x (List.mem_cons_of_mem _ hx)
theorem frame_of {n:Nat} {fr:Fr} (hn:fr.length = n) {l:List (Nat × AV)} (hl:∀ x ∈ l,Fr.get fr x.1 = x.2):∃ j,fr = frL n l j:=by
 refine ⟨fun k=>Fr.get fr k, ?_⟩
 apply List.ext_getElem
 ·rw [frL_len,hn]
 ·intro k h1 h2
  have e1:Fr.get fr k = fr[k]:=by simp [Fr.get,h1]
  have e2:(frL n l fun k=>Fr.get fr k)[k] = look l k (Fr.get fr k):=by simp [frL]
  rw [e2,look_has (fun x hx e=>by rw [← e];exact hl x hx),e1]
theorem part_one {v:AV} {a:AS} (h:partOf v = some (v1 a)):v = .one a:=by
 cases v <;> simp [partOf] at h
 rw [h]
theorem slots_one:∀ {outs:List Nat} {xs:List AS} {fr:Fr},Slots fr outs (xs.map v1)→∀ x ∈ outs.zip (xs.map AV.one),Fr.get fr x.1 = x.2
 | [],_,_,_,x,hx=>by simp at hx
 | o::outs,[],_,h,x,hx=>by simp at hx
 | o::outs,a::xs,fr,h,x,hx=>by
  unfold Slots at h
  simp only [List.map_cons,List.cons.injEq] at h
  simp only [List.map_cons,List.zip_cons_cons,List.mem_cons] at hx
  rcases hx with rfl | hx
  ·exact part_one h.1
  ·exact slots_one (xs:=xs) h.2 x hx
theorem piece_fr {isRet:Bool} {fuel d n:Nat} {c:Code} {fr:Fr} {V:View} {un:List Nat} {outs:List Nat} {next:Nat} {wt:List (Nat × Blk)} {bs:List Nat} {xs:List AS} {r:List (Nat × Blk)}
  (hr:pieceW S isRet fuel d n c fr V un outs next wt bs = some (xs.map v1,r)) (hd:drawsOk S.P c = true) (hn:fr.length = n) (hn2:n ≤ 512) {h:H} (k:Kw V h) :
  ∃ j h',X K c fr h = some (if isRet then .ret else .normal,frL n (outs.zip (xs.map AV.one)) j,h')∧Kw ⟨next,r++(wt++V.l)⟩ h':=by
 obtain ⟨fr',h',e,hl,hs,kw⟩:=piece_ok S_ok hr hd hn hn2 k
 obtain ⟨j,rfl⟩:=frame_of hl (slots_one hs)
 exact ⟨j,h',e,kw⟩
theorem Kw.congr {V V':View} {h:H} (k:Kw V h) (hn:V'.next = V.next) (hl:V'.l = V.l):Kw V' h:=by
 cases V;cases V';simp only at hn hl;subst hn hl;exact k
theorem Kw.new {V:View} {h:H} (k:Kw V h) (B:Blk):Kw ⟨V.next + 1,(V.next,B)::V.l⟩ (h.new B):=by
 refine ⟨⟨by simp [H.new,k.next],fun b q hb=>?_⟩,fun b q hb=>?_⟩
 ·simp only [findB] at hb
  split at hb
  ·rename_i e
   simp only [oqI] at hb;subst hb
   simp [H.new,k.next,e]
  ·rename_i e
   simp only [H.new,k.next]
   rw [if_neg e];exact k.f b q hb
 ·simp only [findB] at hb
  split at hb
  ·rename_i e;show b < V.next + 1;omega
  ·have:=k.lt b q hb;show b < V.next + 1;omega
def inLoop:Code→Code
 | .loop b=>b
 | c=>c
theorem L_cut:L = L.take 5++((L.drop 5).take 3++([nth L 8]++((L.drop 9).take 9++((L.drop 18).take 3++L.drop 21)))):=by kernel_rfl
theorem block_cut:nth L 8 = .block 0 (.loop (inLoop (nth (inB (nth L 8)) 0))):=by kernel_rfl
theorem lb_cut:flatC (inLoop (nth (inB (nth L 8)) 0)) = [nth LB 0,nth LB 1]++[nth LB 2,nth LB 3]:=by kernel_rfl
end Go.Proofs.YtmmhjaeekkbceaaGreat
