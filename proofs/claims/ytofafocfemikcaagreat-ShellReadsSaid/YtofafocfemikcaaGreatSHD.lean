/- A part of a proof over the abstract machine. No conditions. -/
import Derived.Test.YtofafocfemikcaaGreatC15s
import Derived.Test.YtofafocfemikcaaGreatSH1
import Derived.Test.YtofafocfemikcaaGreatShellRead
set_option linter.unusedSimpArgs false
set_option linter.unnecessarySimpa false
set_option linter.unusedVariables false
namespace Go.Proofs.YtofafocfemikcaaGreat
open Go Go.Ab Wm NumPlain
set_option maxRecDepth 10000
set_option maxHeartbeats 4000000
theorem or_byteI {a b:Nat} (ha:a < 65536) (hb:b < 256):orI .i64 ((a:Int) * 256) (b:Nat) = (a:Int) * 256 + b:=by
 unfold orI
 have e0:((a:Int) * 256) = ((a * 256:Nat):Int):=by omega
 have h1:(BitVec.ofInt IntKind.i64.bits ((a * 256:Nat):Int) ||| BitVec.ofInt IntKind.i64.bits (b:Nat)).toNat = a * 256 + b:=by
  rw [BitVec.ofInt_natCast,BitVec.ofInt_natCast,BitVec.toNat_or,BitVec.toNat_ofNat,BitVec.toNat_ofNat]
  have e:IntKind.i64.bits = 64:=rfl
  rw [e,Nat.mod_eq_of_lt (by omega),Nat.mod_eq_of_lt (by omega)]
  have:=Nat.shiftLeft_add_eq_or_of_lt (i:=8) (b:=b) (by omega) a
  rw [Nat.shiftLeft_eq] at this
  exact this.symm
 rw [e0,h1,wrap_i64 (by omega) (by omega)];omega
theorem shl_byteI {a:Nat} (ha:a < 65536):shiftI .shl .i64 (a:Nat) 8 = some (.int .i64 ((a:Int) * 256)):=by
 unfold shiftI
 rw [if_neg (by omega)]
 have e:(2:Int) ^ min (8:Int).toNat IntKind.i64.bits = 256:=rfl
 simp only [e]
 rw [wrap_i64 (by omega) (by omega)]
def rB (o:Option BL) (bad:Bool):Blk:=⟨0,[2],true,[bs o,.bool bad]⟩
theorem slice_toO (h:H) (o:Option BL) (n:Nat) (hn:n ≤ (ls o).length):sliceA h 1 (bs o) none (some (.one (ii n))) none = some (bs (o.map (·.take n))):=by
 cases o with
 | some l=>exact slice_to h l n hn
 | none =>
  have:n = 0:=by simpa using hn
  subst this
  rfl
theorem slice_fromO (h:H) (o:Option BL) (n:Nat) (hn:n ≤ (ls o).length):sliceA h 1 (bs o) (some (.one (ii n))) none none = some (bs (o.map (·.drop n))):=by
 cases o with
 | some l=>exact slice_from h l n hn
 | none =>
  have:n = 0:=by simpa using hn
  subst this
  rfl
theorem raw_ok {h:H} {p:Nat} {o:Option BL} (n:Nat) (hn:n ≤ (ls o).length) (hf:h.f p = some (rB o false)):W K 50 [.one (.ptr p 0 0),.one (ii n)] h = some (.ret (.one (bs (o.map (·.take n)))) (h.set p (rB (o.map (·.drop n)) false))):=by
 have h1:=fun h=>slice_toO h o n hn
 have h2:=fun h=>slice_fromO h o n hn
 have hL:∀ h,lenA (bs o) (some (.slice 5)) h = some (one (ii (ls o).length) h):=fun h=>lenA_bs _ _ _
 have hd:decide (((ls o).length:Int) < n) = false:=by simp;omega
 have hd2:¬ ((ls o).length:Int) < n:=by omega
 unfold rB at hf ⊢
 refine W_does hp rfl rfl rfl Tryz.func50 rfl (by simp [Tryz.f50]) ?_
 simp only [Tryz.f50]
 refine hide ?_;intro Q1 hQ1
 repeat' (first
  | (replace hQ1:=hQ1;simp [hf,h1,h2,hL,hd,hd2,bs_size])
  | refine hQ1 _ _ _ ?_
  | (first | apply cF | apply wN | apply wS) <;> intro hcnd <;> (try simp only [hcnd]) <;> (try simp [-List.isEmpty_iff,-List.isEmpty_eq_false_iff] at hcnd))
theorem raw_no {h:H} {p:Nat} {o:Option BL} {bad:Bool} (n:Nat) (hn:bad = true ∨ (ls o).length < n) (hf:h.f p = some (rB o bad)):W K 50 [.one (.ptr p 0 0),.one (ii n)] h = some (.ret (.one .nilslc) (h.set p (rB none true))):=by
 have hL:∀ h,lenA (bs o) (some (.slice 5)) h = some (one (ii (ls o).length) h):=fun h=>lenA_bs _ _ _
 unfold rB at hf ⊢
 cases bad with
 | true =>
  refine W_does hp rfl rfl rfl Tryz.func50 rfl (by simp [Tryz.f50]) ?_
  simp only [Tryz.f50]
  refine hide ?_;intro Q2 hQ2
  repeat' (first
   | (replace hQ2:=hQ2;simp [hf,bs_none])
   | refine hQ2 _ _ _ ?_
   | (first | apply cF | apply wN | apply wS) <;> intro hcnd <;> (try simp only [hcnd]) <;> (try simp [-List.isEmpty_iff,-List.isEmpty_eq_false_iff] at hcnd))
 | false =>
  have hn:(ls o).length < n:=by simpa using hn
  have hd:decide (((ls o).length:Int) < n) = true:=by simp;omega
  have hd2:((ls o).length:Int) < n:=by omega
  refine W_does hp rfl rfl rfl Tryz.func50 rfl (by simp [Tryz.f50]) ?_
  simp only [Tryz.f50]
  refine hide ?_;intro Q3 hQ3
  repeat' (first
   | (replace hQ3:=hQ3;simp [hf,hL,hd,hd2,bs_none])
   | refine hQ3 _ _ _ ?_
   | (first | apply cF | apply wN | apply wS) <;> intro hcnd <;> (try simp only [hcnd]) <;> (try simp [-List.isEmpty_iff,-List.isEmpty_eq_false_iff] at hcnd))
end Go.Proofs.YtofafocfemikcaaGreat
