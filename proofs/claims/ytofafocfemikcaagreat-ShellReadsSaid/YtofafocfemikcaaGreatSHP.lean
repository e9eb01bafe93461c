/- A part of a proof over the abstract machine. No conditions. -/
import Derived.Test.YtofafocfemikcaaGreatSHR3
set_option linter.unusedSimpArgs false
set_option linter.unnecessarySimpa false
set_option linter.unusedVariables false
namespace Go.Proofs.YtofafocfemikcaaGreat
open Go Go.Ab Wm NumPlain
set_option maxRecDepth 10000
set_option maxHeartbeats 4000000
abbrev rdD (o:Option BL) (bad:Bool):Blk:=⟨0,[2],true,[bs o,.bool bad]⟩
theorem dfail_c {h:H} {p:Nat} {o:Option BL} {bad:Bool} (hf:h.f p = some (rdD o bad)):W K 61 [.one (.ptr p 0 0)] h = some (.ret (.tup []) (h.set p (rdD none true))):=by
 refine W_does hp rfl rfl rfl Tryz.func61 rfl (by simp [Tryz.f61]) ?_
 simp only [Tryz.f61]
 refine hide ?_;intro Q1 hQ1
 repeat' (first
  | (replace hQ1:=hQ1;simp [hf,bs_none])
  | refine hQ1 _ _ _ ?_)
 all_goals rfl
theorem app_fresh (h:H) (b:Nat) (l:BL) (hl:l ≠ []) (hn:l.length ≤ 1048576) (hb:h.f b = some ⟨0,[0],true,[]⟩):appendA Tryz.prog 31 31 h (.slc b 0 0 0 1 none) (bs (some l)) = some (.slc h.next 0 0 l.length 1 none,h.new ⟨0,[l.length],false,l.map byteS⟩):=by
 rw [append_slice (x:=bs (some l)) (t:=31) (by simp) (by simp) Tryz.bytes5 Tryz.underlying31 (lenS_bs _) (elems_bs h (some l))]
 have h0:l.length ≠ 0:=fun e=>hl (List.eq_nil_of_length_eq_zero e)
 simp [appendL,h0,hb,sub,limit]
 omega
theorem dsome_ok {h:H} {p:Nat} (a:UInt8) (r:BL) (hpn:p < h.next) (hf:h.f p = some (rdD (some (a::r)) false)):W K 60 [.one (.ptr p 0 0),.one (.int .i64 1)] h = some (.ret (.one (.slc (h.next + 1) 0 0 1 1 none)) (((h.new ⟨0,[0],true,[]⟩).new ⟨0,[1],false,[byteS a]⟩).set p (rdD (some r) false))):=by
 have hs1:∀ h,sliceA h 1 (bs (some (a::r))) none (some (.one (.int .i64 1))) none = some (bs (some [a])):=fun h=>slice_to h (a::r) 1 (by simp)
 have hs2:∀ h,sliceA h 1 (bs (some (a::r))) (some (.one (.int .i64 1))) none none = some (bs (some r)):=fun h=>slice_from h (a::r) 1 (by simp)
 have ha:=fun h b hb=>app_fresh h b [a] (by simp) (by simp) hb
 have hL:∀ h,lenA (bs (some (a::r))) (some (.slice 5)) h = some (one (ii (r.length + 1:Nat)) h):=fun h=>lenA_bs _ _ _
 have p0:¬ p = h.next:=by omega
 have q0:¬ h.next = p:=by omega
 have p1:¬ p = h.next + 1:=by omega
 have hd:¬ ((r.length + 1:Nat):Int) < 1:=by omega
 have hd2:decide (((r.length + 1:Nat):Int) < 1) = false:=by simp;omega
 generalize ((r.length + 1:Nat):Int) = LL at *
 simp only [List.length_cons,List.length_nil,List.map_cons,List.map_nil,Nat.zero_add] at ha
 refine W_does hp rfl rfl rfl Tryz.func60 rfl (by simp [Tryz.f60]) ?_
 simp only [Tryz.f60]
 refine hide ?_;intro Q2 hQ2
 repeat' (first
  | (replace hQ2:=hQ2;simp [hf,hs1,hs2,ha,hL,p0,q0,p1,hd,hd2,bs_size])
  | refine hQ2 _ _ _ ?_
  | (first | apply cF | apply wN | apply wS) <;> intro hcnd <;> (try simp only [hcnd]) <;> (try simp [-List.isEmpty_iff,-List.isEmpty_eq_false_iff] at hcnd))
 all_goals trace_state
theorem dsome_no {h:H} {p:Nat} {o:Option BL} {bad:Bool} (hb:bad = true ∨ ls o = []) (hpn:p < h.next) (hf:h.f p = some (rdD o bad)):W K 60 [.one (.ptr p 0 0),.one (.int .i64 1)] h = some (.ret (.one (.slc h.next 0 0 1 1 none)) ((h.set p (rdD none true)).new ⟨0,[1],true,[.int .u8 0]⟩)):=by
 have hL:∀ h,lenA (bs o) (some (.slice 5)) h = some (one (ii (ls o).length) h):=fun h=>lenA_bs _ _ _
 have hx:=dfail_c hf
 cases bad with
 | true =>
  refine W_does hp rfl rfl rfl Tryz.func60 rfl (by simp [Tryz.f60]) ?_
  simp only [Tryz.f60]
  refine hide ?_;intro Q3 hQ3
  repeat' (first
   | (replace hQ3:=hQ3;simp [hf,hx,limit])
   | refine hQ3 _ _ _ ?_
   | (first | apply cF | apply wN | apply wS) <;> intro hcnd <;> (try simp only [hcnd]) <;> (try simp [-List.isEmpty_iff,-List.isEmpty_eq_false_iff] at hcnd))
  all_goals trace_state
 | false =>
  have he:ls o = []:=by simpa using hb
  rw [he] at hL
  refine W_does hp rfl rfl rfl Tryz.func60 rfl (by simp [Tryz.f60]) ?_
  simp only [Tryz.f60]
  refine hide ?_;intro Q4 hQ4
  repeat' (first
   | (replace hQ4:=hQ4;simp [hf,hx,hL,limit])
   | refine hQ4 _ _ _ ?_
   | (first | apply cF | apply wN | apply wS) <;> intro hcnd <;> (try simp only [hcnd]) <;> (try simp [-List.isEmpty_iff,-List.isEmpty_eq_false_iff] at hcnd))
  all_goals trace_state
theorem ix8 (b n:Nat) (hn:0 < n):indexA Tryz.prog 31 (.slc b 0 0 n 1 none) 0 = some (.ptr b 0 0):=by
 have:=arr_index (P:=Tryz.prog) (size:=1) (b:=b) (v:=0) (n:=n) (i:=0) Tryz.underlying31 (by simp) (by omega) hn
 simpa using this
theorem dbyte_ok {h:H} {p:Nat} (a:UInt8) (r:BL) (hpn:p < h.next) (hf:h.f p = some (rdD (some (a::r)) false)):W K 47 [.one (.ptr p 0 0)] h = some (.ret (.one (byteS a)) (((h.new ⟨0,[0],true,[]⟩).new ⟨0,[1],false,[byteS a]⟩).set p (rdD (some r) false))):=by
 have hx:=dsome_ok a r hpn hf
 have hi:=fun b=>ix8 b 1 (by omega)
 have q1:¬ h.next + 1 = p:=by omega
 refine W_does hp rfl rfl rfl Tryz.func47 rfl (by simp [Tryz.f47]) ?_
 simp only [Tryz.f47]
 refine hide ?_;intro Q5 hQ5
 repeat' (first
  | (replace hQ5:=hQ5;simp [hx,hi,q1])
  | refine hQ5 _ _ _ ?_)
 all_goals trace_state
theorem dbyte_no {h:H} {p:Nat} {o:Option BL} {bad:Bool} (hb:bad = true ∨ ls o = []) (hpn:p < h.next) (hf:h.f p = some (rdD o bad)):W K 47 [.one (.ptr p 0 0)] h = some (.ret (.one (.int .u8 0)) ((h.set p (rdD none true)).new ⟨0,[1],true,[.int .u8 0]⟩)):=by
 have hx:=dsome_no hb hpn hf
 have hi:=fun b=>ix8 b 1 (by omega)
 refine W_does hp rfl rfl rfl Tryz.func47 rfl (by simp [Tryz.f47]) ?_
 simp only [Tryz.f47]
 refine hide ?_;intro Q6 hQ6
 repeat' (first
  | (replace hQ6:=hQ6;simp [hx,hi])
  | refine hQ6 _ _ _ ?_)
 all_goals trace_state
end Go.Proofs.YtofafocfemikcaaGreat
