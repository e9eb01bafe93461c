/- A part of a proof over the abstract machine. No conditions. -/
import Derived.Test.YtofafocfemikcaaGreatSHD
set_option linter.unusedSimpArgs false
set_option linter.unnecessarySimpa false
set_option linter.unusedVariables false
namespace Go.Proofs.YtofafocfemikcaaGreat
open Go Go.Ab Wm NumPlain
set_option maxRecDepth 10000
set_option maxHeartbeats 4000000
def noB (o:Option BL) (bad:Bool) (n:Nat):Bool:=bad || decide ((ls o).length < n)
def rO (o:Option BL) (bad:Bool) (n:Nat):Option BL:=if noB o bad n then none else o.map (·.drop n)
def rX (o:Option BL) (bad:Bool) (n:Nat):Option BL:=if noB o bad n then none else o.map (·.take n)
def rV (o:Option BL) (bad:Bool) (n:Nat):Nat:=numB (ls (rX o bad n))
theorem raw_t {h:H} {p:Nat} (o:Option BL) (bad:Bool) (n:Nat) (hf:h.f p = some (rB o bad)):W K 50 [.one (.ptr p 0 0),.one (ii n)] h = some (.ret (.one (bs (rX o bad n))) (h.set p (rB (rO o bad n) (noB o bad n)))):=by
 cases hb:noB o bad n with
 | true =>
  have:=raw_no (h:=h) (p:=p) (o:=o) (bad:=bad) n (by simpa [noB] using hb) hf
  simpa [rX,rO,hb,bs_none] using this
 | false =>
  simp only [noB,Bool.or_eq_false_iff,decide_eq_false_iff_not] at hb
  obtain ⟨rfl,hn⟩:=hb
  have:=raw_ok (h:=h) (p:=p) (o:=o) n (by omega) hf
  simpa [rX,rO,noB,hn] using this
theorem rX_len (o:Option BL) (bad:Bool) (n:Nat):(ls (rX o bad n)).length ≤ n:=by
 unfold rX
 split
 ·simp
 ·cases o with
  | none=>simp
  | some l=>simp;omega
theorem number_t {h:H} {p:Nat} (o:Option BL) (bad:Bool) (n:Nat) (hn:n ≤ 2) (hf:h.f p = some (rB o bad)):W K 32 [.one (.ptr p 0 0),.one (ii n)] h = some (.ret (.one (ii (rV o bad n))) (h.set p (rB (rO o bad n) (noB o bad n)))):=by
 have ht:=raw_t o bad n hf
 have hxl:=rX_len o bad n
 have hL:∀ h,lenA (bs (rX o bad n)) (some (.slice 5)) h = some (one (ii (ls (rX o bad n)).length) h):=fun h=>lenA_bs _ _ _
 unfold rV
 generalize rX o bad n = X at *
 generalize h.set p (rB (rO o bad n) (noB o bad n)) = h1 at *
 refine W_does hp rfl rfl rfl Tryz.func32 rfl (by simp [Tryz.f32]) ?_
 simp only [Tryz.f32]
 refine hide ?_;intro Q1 hQ1
 repeat' (first
  | (replace hQ1:=hQ1;simp [ht,hL])
  | refine hQ1 _ _ _ ?_
  | (first | apply cF | apply wN | apply wS) <;> intro hcnd <;> (try simp only [hcnd]) <;> (try simp [-List.isEmpty_iff,-List.isEmpty_eq_false_iff] at hcnd))
 refine does_each hp (ls X) (fun a r fr hh=>∃ j:Nat→AV,fr = (j 0::j 1::j 2::j 3::j 4::(.one (ii (numB a)))::j 6::j 7::j 8::j 9::(.one (bs X))::(.one (ii (ls X).length))::(.one (ii a.length))::j 13::j 14::j 15::j 16::j 17::j 18::j 19::j 20::j 21::j 22::[])∧hh = h1) ?_ ?_ _ _ (ex_get (by simp [numB]) rfl)
 ·rintro a b r fr hh hx ⟨j,rfl,hh2⟩
  obtain rfl:=ls_cons hx
  have hi:=index_bs (l:=a++b::r) (i:=a.length) (by simp)
  have hr:=sub_bs a r b
  generalize (a++b::r).map byteS = M at hi hr
  simp only [ls_some] at hxl
  have hal:a.length ≤ 1:=by simp at hxl;omega
  have hw:IntKind.i64.wrap ((a.length:Int) + 1) = ((a++[b]).length:Int):=by rw [step_len];exact step_wrap (by omega)
  have hb:b.toNat < 256:=b.toNat_lt
  have ha:numB a < 256:=by
   have h1:=numB_lt a
   have h2:256 ^ a.length ≤ 256 ^ 1:=Nat.pow_le_pow_right (by omega) hal
   omega
  have hs:=shl_byteI (a:=numB a) (by omega)
  have ho:=or_byteI (a:=numB a) (b:=b.toNat) (by omega) hb
  have hc:IntKind.i64.wrap (b.toNat:Int) = b.toNat:=wrap_i64 (by omega) (by omega)
  have hlt:decide ((a.length:Int) < (a++b::r).length) = true:=by simp;omega
  have hlt2:(a.length:Int) < (a++b::r).length:=by simp;omega
  first | (refine hide ?_;intro Q2 hQ2) | have hQ2:=True.intro
  repeat' (first
   | (replace hQ2:=hQ2;simp [-List.length_append,hi,hr,hw,hs,ho,hc,hlt,hlt2,convA,byteS,numB_snoc])
   | (refine hQ2 _ _ _ ?_;clear hQ2 Q2;first | simp only [] | simp [-List.length_append,hi,hr,hw,hs,ho,hc,hlt,hlt2,convA,byteS,numB_snoc] | skip)
   | (refine hadQ (by assumption) ?_;(try clear hQ2);first | simp only [] | simp [-List.length_append,hi,hr,hw,hs,ho,hc,hlt,hlt2,convA,byteS,numB_snoc] | skip)
   | ((fail_if_success replace hQ2:=hQ2);(first | refine hide ?_ | refine hideS ?_ | refine hideB ?_);intro Q2 hQ2)
   | (first | apply cF | apply wN | apply wS) <;> intro hcnd <;> (try simp only [hcnd]) <;> (try simp [-List.isEmpty_iff,-List.isEmpty_eq_false_iff] at hcnd))
  all_goals first | omega | exact ex_get (by simp [numB_snoc]) hh2 | trace_state
 ·rintro fr hh ⟨j,rfl,hh2⟩
  first | (refine hide ?_;intro Q3 hQ3) | have hQ3:=True.intro
  repeat' (first
   | (replace hQ3:=hQ3;simp [hh2])
   | (refine hQ3 _ _ _ ?_;clear hQ3 Q3;first | simp only [] | simp [hh2] | skip)
   | (refine hadQ (by assumption) ?_;(try clear hQ3);first | simp only [] | simp [hh2] | skip)
   | ((fail_if_success replace hQ3:=hQ3);(first | refine hide ?_ | refine hideS ?_ | refine hideB ?_);intro Q3 hQ3)
   | (first | apply cF | apply wN | apply wS) <;> intro hcnd <;> (try simp only [hcnd]) <;> (try simp [-List.isEmpty_iff,-List.isEmpty_eq_false_iff] at hcnd))
  all_goals trace_state
end Go.Proofs.YtofafocfemikcaaGreat
