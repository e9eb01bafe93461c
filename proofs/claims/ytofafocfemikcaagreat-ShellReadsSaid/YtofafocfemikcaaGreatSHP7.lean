/- A part of a proof over the abstract machine. No conditions. -/
import Derived.Test.YtofafocfemikcaaGreatSHP6
set_option linter.unusedSimpArgs false
set_option linter.unnecessarySimpa false
set_option linter.unusedVariables false
namespace Go.Proofs.YtofafocfemikcaaGreat
open Go Go.Ab Wm NumPlain
set_option maxRecDepth 10000
set_option maxHeartbeats 4000000
theorem bneq (x:UInt8):bin Tryz.prog K.cmp .neq 5 (.one (byteS x)) (.one (byteS x)) = some (.bool false):=by
 simp [bin,byteS,binI]
theorem bsame_c (l:BL) (o o':Option BL) (ho:ls o = l) (ho':ls o' = l) (hl:l.length < 4611686018427387904) (h:H):W K 31 [.one (bs o),.one (bs o')] h = some (.ret (.one (.bool true)) h):=by
 have hL:∀ h,lenA (bs o) (some (.slice 5)) h = some (one (ii l.length) h):=fun h=>by rw [lenA_bs,ho]
 have hL':∀ h,lenA (bs o') (some (.slice 5)) h = some (one (ii l.length) h):=fun h=>by rw [lenA_bs,ho']
 have hown:memL S.own 31 = false:=by kernel_rfl
 refine W_pure hp (by simp [pureV,hL,hL',outV,frzV,frzS,frzS_pure,frzP,pureS,pureL,K_own,hown]) (apart_does rfl rfl (by kernel_rfl) Tryz.func31 rfl (by simp [Tryz.f31]) ?_)
 simp only [Tryz.f31]
 refine hide ?_;intro Q1 hQ1
 repeat' (first
  | (replace hQ1:=hQ1;simp [hL,hL',outV,frzV,frzS,frzS_pure,frzP,pureS,pureL,K_own,hown])
  | refine hQ1 _ _ _ ?_
  | refine dF (id:=6) [0,1,2,3,4,5,6,7,8] [] ?_
  | (first | apply cF | apply wN | apply wS) <;> intro hcnd <;> (try simp only [hcnd]) <;> (try simp [-List.isEmpty_iff,-List.isEmpty_eq_false_iff] at hcnd))
 obtain ⟨I,hI⟩:∃ I:BL→BL→Fr→H→Prop,I = fun a r fr hh=>∃ j:Nat→AV,fr = ((.one (bs o))::(.one (bs o'))::j 2::j 3::j 4::(.one (ii a.length))::j 6::j 7::j 8::j 9::j 10::j 11::j 12::j 13::j 14::j 15::j 16::j 17::j 18::j 19::j 20::j 21::j 22::j 23::j 24::j 25::[]):=⟨_,rfl⟩
 refine does_each hp l I ?_ ?_ _ _ (by rw [hI];exact ex_get' (by simp))
 ·intro a x r fr hh hll hx
  rw [hI] at hx
  obtain ⟨j,rfl⟩:=hx
  have hlt:decide ((a.length:Int) < l.length) = true:=by rw [hll];simp;omega
  have hlt2:(a.length:Int) < l.length:=by rw [hll];simp;omega
  have hal:a.length < 4611686018427387904:=by rw [hll] at hl;simp at hl;omega
  obtain rfl:=ls_cons (ho.trans hll)
  obtain rfl:=ls_cons (ho'.trans hll)
  have bn:=bneq x
  have hi:=index_bs (l:=a++x::r) (i:=a.length) (by simp)
  have hr:=sub_bs a r x
  have hwi:IntKind.i64.wrap ((a.length:Int) + 1) = ((a.length:Int) + 1):=step_wrap (by omega)
  generalize (l.length:Int) = LL at *
  clear ho ho' hll
  generalize (a++x::r).map byteS = MM at *
  generalize bs (some (a++x::r)) = XS at *
  first | (refine hide ?_;intro Q2 hQ2) | have hQ2:=True.intro
  repeat' (first
   | (replace hQ2:=hQ2;simp [hL,hi,hr,hlt,hlt2,hwi,bn,outV,frzV,frzS,frzS_pure,frzP,pureS,pureL,K_own,hown])
   | (refine hQ2 _ _ _ ?_;clear hQ2 Q2;first | simp only [] | simp [hL,hi,hr,hlt,hlt2,hwi,bn,outV,frzV,frzS,frzS_pure,frzP,pureS,pureL,K_own,hown] | skip)
   | (refine hadQ (by assumption) ?_;(try clear hQ2);first | simp only [] | simp [hL,hi,hr,hlt,hlt2,hwi,bn,outV,frzV,frzS,frzS_pure,frzP,pureS,pureL,K_own,hown] | skip)
   | ((fail_if_success replace hQ2:=hQ2);(first | refine hide ?_ | refine hideS ?_ | refine hideB ?_);intro Q2 hQ2)
   | refine dF (id:=6) [0,1,2,3,4,5,6,7,8] [] ?_
   | (first | apply cF | apply wN | apply wS) <;> intro hcnd <;> (try simp only [hcnd]) <;> (try simp [-List.isEmpty_iff,-List.isEmpty_eq_false_iff] at hcnd))
  all_goals (rw [hI];exact ex_get' (by simp))
 ·intro fr hh hx
  rw [hI] at hx
  obtain ⟨j,rfl⟩:=hx
  first | (refine hide ?_;intro Q3 hQ3) | have hQ3:=True.intro
  repeat' (first
   | (replace hQ3:=hQ3;simp [hL,outV,frzV,frzS,frzS_pure,frzP,pureS,pureL,K_own,hown])
   | (refine hQ3 _ _ _ ?_;clear hQ3 Q3;first | simp only [] | simp [hL,outV,frzV,frzS,frzS_pure,frzP,pureS,pureL,K_own,hown] | skip)
   | (refine hadQ (by assumption) ?_;(try clear hQ3);first | simp only [] | simp [hL,outV,frzV,frzS,frzS_pure,frzP,pureS,pureL,K_own,hown] | skip)
   | ((fail_if_success replace hQ3:=hQ3);(first | refine hide ?_ | refine hideS ?_ | refine hideB ?_);intro Q3 hQ3)
   | refine dF (id:=6) [0,1,2,3,4,5,6,7,8] [] ?_
   | (first | apply cF | apply wN | apply wS) <;> intro hcnd <;> (try simp only [hcnd]) <;> (try simp [-List.isEmpty_iff,-List.isEmpty_eq_false_iff] at hcnd))
  all_goals trace_state
def marks:BL:=List.replicate 80 165
theorem intact_f (y:BL) (o:Option BL) (ho:ls o = y) (hl:y.length < 10000000):Fun K 15 [.one (bs (some (y++marks))),.one (bs o),.one (.int .u8 165)] (fun h=>.ret (.one (.bool true)) h):=by
 have hL:∀ h,lenA (bs (some (y++marks))) (some (.slice 5)) h = some (one (ii ((y.length:Int) + 80)) h):=fun h=>by rw [lenA_bs];simp [marks]
 have hL':∀ h,lenA (bs o) (some (.slice 5)) h = some (one (ii y.length) h):=fun h=>by rw [lenA_bs,ho]
 have SL:=fun h=>slice_to h (y++marks) y.length (by simp)
 rw [List.take_left] at SL
 have SM:=fun h=>bsame_c y (some y) o rfl ho (by omega) h
 have hw8:IntKind.i64.wrap ((y.length:Int) + 80) = (y.length:Int) + 80:=wrap_i64 (by omega) (by omega)
 have hbz:=bs_size (some (y++marks))
 have hown:memL S.own 15 = false:=by kernel_rfl
 refine ⟨by simp [pureV,hL,hL',SL,SM,hw8,hbz,outV,frzV,frzS,frzS_pure,frzP,pureS,pureL,K_own,hown],fun hh=>apart_does rfl rfl (by kernel_rfl) Tryz.func15 rfl (by simp [Tryz.f15]) ?_⟩
 simp only [Tryz.f15]
 refine hide ?_;intro Q4 hQ4
 repeat' (first
  | (replace hQ4:=hQ4;simp [hL,hL',SL,SM,hw8,hbz,outV,frzV,frzS,frzS_pure,frzP,pureS,pureL,K_own,hown])
  | refine hQ4 _ _ _ ?_
  | (first | apply cF | apply wN | apply wS) <;> intro hcnd <;> (try simp only [hcnd]) <;> (try simp [-List.isEmpty_iff,-List.isEmpty_eq_false_iff] at hcnd))
 obtain ⟨I,hI⟩:∃ I:BL→BL→Fr→H→Prop,I = fun a r fr hh=>∃ j:Nat→AV,fr = ((.one (bs (some (y++marks))))::j 1::(.one (.int .u8 165))::j 3::j 4::j 5::j 6::(.one (ii ((y.length:Int) + a.length)))::j 8::j 9::j 10::j 11::j 12::j 13::j 14::j 15::j 16::j 17::j 18::j 19::j 20::j 21::j 22::j 23::j 24::j 25::j 26::j 27::j 28::j 29::j 30::j 31::j 32::j 33::j 34::j 35::j 36::[]):=⟨_,rfl⟩
 refine does_each hp marks I ?_ ?_ _ _ (by rw [hI];exact ex_get' (by simp))
 ·intro a x r fr hh hll hx
  rw [hI] at hx
  obtain ⟨j,rfl⟩:=hx
  have hml:marks.length = 80:=by simp [marks]
  have hal:a.length < 80:=by rw [← hml,hll];simp
  have hlt:decide (((y.length:Int) + a.length) < (y.length:Int) + 80) = true:=by simp;omega
  have hlt2:((y.length:Int) + a.length) < (y.length:Int) + 80:=by omega
  have hx5:x = 165:=List.eq_of_mem_replicate (by show x ∈ marks;rw [hll];simp)
  subst hx5
  have bn:=bneq 165
  have b165:byteS 165 = .int .u8 165:=rfl
  rw [b165] at bn
  have hi:=index_bs (l:=y++marks) (i:=y.length + a.length) (by rw [hll];simp <;> omega)
  have hr:=sub_bs (y++a) r 165
  rw [List.append_assoc,← hll,List.length_append,b165] at hr
  have hwi:IntKind.i64.wrap (((y.length:Int) + a.length) + 1) = (((y.length:Int) + a.length) + 1):=wrap_i64 (by omega) (by omega)
  generalize (y++marks).map byteS = MM at *
  have h0:(0:Int) ≤ (y.length:Int) + a.length:=by omega
  have hN:((y.length:Int) + a.length).toNat = y.length + a.length:=by omega
  first | (refine hide ?_;intro Q5 hQ5) | have hQ5:=True.intro
  repeat' (first
   | (replace hQ5:=hQ5;simp [hL,hi,hr,hlt,hlt2,hwi,bn,h0,hN,outV,frzV,frzS,frzS_pure,frzP,pureS,pureL,K_own,hown])
   | (refine hQ5 _ _ _ ?_;clear hQ5 Q5;first | simp only [] | simp [hL,hi,hr,hlt,hlt2,hwi,bn,h0,hN,outV,frzV,frzS,frzS_pure,frzP,pureS,pureL,K_own,hown] | skip)
   | (refine hadQ (by assumption) ?_;(try clear hQ5);first | simp only [] | simp [hL,hi,hr,hlt,hlt2,hwi,bn,h0,hN,outV,frzV,frzS,frzS_pure,frzP,pureS,pureL,K_own,hown] | skip)
   | ((fail_if_success replace hQ5:=hQ5);(first | refine hide ?_ | refine hideS ?_ | refine hideB ?_);intro Q5 hQ5)
   | (first | apply cF | apply wN | apply wS) <;> intro hcnd <;> (try simp only [hcnd]) <;> (try simp [-List.isEmpty_iff,-List.isEmpty_eq_false_iff] at hcnd))
  all_goals (rw [hI];exact ex_get' (by simp <;> omega))
 ·intro fr hh hx
  rw [hI] at hx
  obtain ⟨j,rfl⟩:=hx
  have hml:marks.length = 80:=by simp [marks]
  first | (refine hide ?_;intro Q6 hQ6) | have hQ6:=True.intro
  repeat' (first
   | (replace hQ6:=hQ6;simp [hL,hml,outV,frzV,frzS,frzS_pure,frzP,pureS,pureL,K_own,hown])
   | (refine hQ6 _ _ _ ?_;clear hQ6 Q6;first | simp only [] | simp [hL,hml,outV,frzV,frzS,frzS_pure,frzP,pureS,pureL,K_own,hown] | skip)
   | (refine hadQ (by assumption) ?_;(try clear hQ6);first | simp only [] | simp [hL,hml,outV,frzV,frzS,frzS_pure,frzP,pureS,pureL,K_own,hown] | skip)
   | ((fail_if_success replace hQ6:=hQ6);(first | refine hide ?_ | refine hideS ?_ | refine hideB ?_);intro Q6 hQ6)
   | (first | apply cF | apply wN | apply wS) <;> intro hcnd <;> (try simp only [hcnd]) <;> (try simp [-List.isEmpty_iff,-List.isEmpty_eq_false_iff] at hcnd))
  all_goals trace_state
end Go.Proofs.YtofafocfemikcaaGreat
set_option linter.unusedSimpArgs false
set_option linter.unnecessarySimpa false
set_option linter.unusedVariables false
namespace Go.Proofs.YtofafocfemikcaaGreat
open Go Go.Ab Wm NumPlain
set_option maxRecDepth 10000
set_option maxHeartbeats 4000000
theorem rep_map:∀ n:Nat,repL [AS.int .u8 0] n = (List.replicate n (0:UInt8)).map byteS
 | 0=>rfl
 | n + 1=>by rw [repL,rep_map n,List.replicate_succ,List.map_cons];rfl
abbrev roomB (N:Nat) (l:BL):Blk:=⟨0,[N],true,l.map byteS⟩
theorem copy_c (o:Option BL) (N:Nat) (Z:BL) (hZ:Z = List.replicate 80 0) (hN:N = (ls o).length + 80):∃ h',copyA Tryz.prog 31 (H.empty.new (roomB N (List.replicate N 0))) (.slc 0 0 0 N 1 none) (bs o) = some (ii (ls o).length,h')∧h'.next = 1∧h'.f 0 = some (roomB N (ls o++Z)):=by
 have he:=elems_bs (H.empty.new (roomB N (List.replicate N 0))) o
 have hm:(ls o).length.min N = (ls o).length:=Nat.min_eq_left (by omega)
 have hs:lenS (AS.slc 0 0 0 N 1 none) = some N:=rfl
 have hZl:Z.length = 80:=by rw [hZ];simp
 obtain ⟨h0,hh0⟩:∃ h0,h0 = H.empty.new (roomB N (List.replicate N 0)):=⟨_,rfl⟩
 have hf0:h0.f 0 = some (roomB N (List.replicate N 0)):=by rw [hh0];rfl
 have hn0:h0.next = 1:=by rw [hh0];rfl
 rw [← hh0] at he ⊢
 clear hh0
 by_cases hc:(ls o).length = 0
 ·have hnil:ls o = []:=List.eq_nil_of_length_eq_zero hc
  refine ⟨h0, ?_,hn0, ?_⟩
  ·rw [hc] at he hm
   simp [copyA,hs,hc,hm,he]
  ·rw [hf0,hnil,hZ]
   have:N = 80:=by omega
   rw [this,List.nil_append]
 ·have hlay:lay ((List.replicate N (0:UInt8)).map byteS) 0 ((ls o).map byteS) = (ls o++Z).map byteS:=by
   unfold lay
   rw [hZ,List.take_zero,List.nil_append,List.map_append,Nat.zero_add,List.length_map,← List.map_drop,List.drop_replicate]
   have:N - (ls o).length = 80:=by omega
   rw [this]
  have hw:writeC h0 (.ptr 0 0 0) ((ls o).map byteS) = some (h0.set 0 (roomB N (ls o++Z))):=by
   rw [write_ptr,hf0]
   simp only [oqS,Blk.ext,Nat.le_refl,if_true,Nat.sub_self,List.getElem?_cons_zero,hlay]
   rw [if_pos ⟨trivial,by rw [List.length_map];omega,by rw [List.length_map,List.length_replicate]⟩]
  refine ⟨h0.set 0 (roomB N (ls o++Z)), ?_,by simpa using hn0,by simp⟩
  have hc2:¬ N = 0:=by omega
  simp [copyA,hs,hm,he,hc,hc2,hw,-write_ptr]
theorem mark_w (y a r:BL) (x:UInt8) (N:Nat) (hN:N = (y++a++x::r).length) (h:H) (hf:h.f 0 = some (roomB N (y++a++x::r))) (m:Nat) (hm:m = y.length + a.length):writeC h (.ptr 0 0 m) [.int .u8 165] = some (h.set 0 (roomB N (y++(a++[165])++r))):=by
 have hlay:lay ((y++a++x::r).map byteS) m [.int .u8 165] = (y++(a++[165])++r).map byteS:=by
  unfold lay
  have e1:m = ((y++a).map byteS).length:=by rw [List.length_map,List.length_append,hm]
  rw [List.map_append,← List.drop_drop,e1,List.take_left,List.drop_left]
  simp [byteS]
 rw [write_ptr,hf]
 simp only [oqS,Blk.ext,Nat.le_refl,if_true,Nat.sub_self,List.getElem?_cons_zero,hlay]
 rw [if_pos ⟨trivial,by rw [hN];simp <;> omega,by rw [hN,List.length_map]⟩]
theorem roomy_f (o:Option BL) (hl:(ls o).length < 10000000):Fun K 13 [.one (bs o),.one (.int .u8 165)] (fun h=>.ret (.one (bs (some (ls o++marks)))) h):=by
 have hL:∀ h,lenA (bs o) (some (.slice 5)) h = some (one (ii (ls o).length) h):=fun h=>lenA_bs _ _ _
 obtain ⟨Z,hZ⟩:∃ Z:BL,Z = List.replicate 80 0:=⟨_,rfl⟩
 obtain ⟨N,hN⟩:∃ N:Nat,N = (ls o).length + 80:=⟨_,rfl⟩
 have hw8:IntKind.i64.wrap (((ls o).length:Int) + 80) = (N:Int):=by rw [wrap_i64 (by omega) (by omega)];omega
 have h1:N + N ≤ limit:=by simp [limit];omega
 obtain ⟨h2,ec,hn2,hf2⟩:=copy_c o N Z hZ hN
 have hrep:=rep_map N
 have hB:∀ h:H,h.new ⟨0,[N],true,(List.replicate N (0:UInt8)).map byteS⟩ = h.new (roomB N (List.replicate N 0)):=fun h=>rfl
 have hrl:((List.replicate N (0:UInt8)).map byteS).length = N:=by rw [List.length_map,List.length_replicate]
 simp only [roomB] at ec
 obtain ⟨R0,hR0⟩:∃ R0,(List.replicate N (0:UInt8)).map byteS = R0:=⟨_,rfl⟩
 rw [hR0] at hrep hrl ec
 have hown:memL S.own 13 = false:=by kernel_rfl
 refine ⟨by simp [pureV,hL,hw8,h1,hrep,hrl,ec,outV,frzV,frzS,frzS_pure,frzP,pureS,pureL,K_own,hown],fun hh=>apart_does rfl rfl (by kernel_rfl) Tryz.func13 rfl (by simp [Tryz.f13]) ?_⟩
 simp only [Tryz.f13]
 refine hide ?_;intro Q1 hQ1
 repeat' (first
  | (replace hQ1:=hQ1;simp [hL,hw8,h1,hrep,hrl,ec,outV,frzV,frzS,frzS_pure,frzP,pureS,pureL,K_own,hown])
  | refine hQ1 _ _ _ ?_
  | (first | apply cF | apply wN | apply wS) <;> intro hcnd <;> (try simp only [hcnd]) <;> (try simp [-List.isEmpty_iff,-List.isEmpty_eq_false_iff] at hcnd))
 clear ec hrep hB hrl hR0 hw8 h1
 have hml:marks.length = 80:=by simp [marks]
 obtain ⟨y,hy⟩:∃ y,ls o = y:=⟨_,rfl⟩
 rw [hy] at hN hL hf2 hl ⊢
 obtain ⟨I,hI⟩:∃ I:BL→BL→Fr→H→Prop,I = fun a r fr hh=>hh.next = 1∧hh.f 0 = some (roomB N (y++a++List.replicate r.length 0))∧∃ j:Nat→AV,fr = (j 0::(.one (.int .u8 165))::j 2::j 3::j 4::(.one (.slc 0 0 0 N 1 none))::(.one (ii ((y.length:Int) + a.length)))::j 7::j 8::j 9::j 10::j 11::j 12::j 13::j 14::j 15::j 16::j 17::j 18::j 19::j 20::j 21::j 22::j 23::j 24::j 25::j 26::[]):=⟨_,rfl⟩
 refine does_each hp marks I ?_ ?_ _ _ (by rw [hI];exact ⟨hn2,by rw [hf2,hZ,hml,List.append_nil],ex_get' (by simp)⟩)
 ·intro a x r fr hh hll hx
  rw [hI] at hx
  obtain ⟨hn,hf,j,rfl⟩:=hx
  have hal:a.length + r.length + 1 = 80:=by rw [← hml,hll];simp <;> omega
  have hx5:x = 165:=List.eq_of_mem_replicate (by show x ∈ marks;rw [hll];simp)
  subst hx5
  rw [List.length_cons,List.replicate_succ] at hf
  have hwr:=mark_w y a (List.replicate r.length 0) 0 N (by rw [hN];simp <;> omega) hh hf (y.length + a.length) rfl
  have hlt:decide (((y.length:Int) + a.length) < (N:Int)) = true:=by simp;omega
  have hlt2:((y.length:Int) + a.length) < (N:Int):=by omega
  have h0:(0:Int) ≤ (y.length:Int) + a.length:=by omega
  have hNt:((y.length:Int) + a.length).toNat = y.length + a.length:=by omega
  have hi:=arr_index (P:=Tryz.prog) (size:=1) (b:=0) (v:=0) (n:=N) (i:=y.length + a.length) Tryz.underlying31 (by simp) (by omega) (by omega)
  rw [Nat.mul_one] at hi
  have hwi:IntKind.i64.wrap (((y.length:Int) + a.length) + 1) = (((y.length:Int) + a.length) + 1):=wrap_i64 (by omega) (by omega)
  obtain ⟨h3,hh3⟩:∃ h3,hh.set 0 (roomB N (y++(a++[165])++List.replicate r.length 0)) = h3:=⟨_,rfl⟩
  have h3n:h3.next = 1:=by rw [← hh3];simpa using hn
  have h3f:h3.f 0 = some (roomB N (y++(a++[165])++List.replicate r.length 0)):=by rw [← hh3];simp
  rw [hh3] at hwr
  clear hh3 hf
  first | (refine hide ?_;intro Q2 hQ2) | have hQ2:=True.intro
  repeat' (first
   | (replace hQ2:=hQ2;simp [hL,hlt,hlt2,h0,hNt,hi,hwi,hwr,-write_ptr,outV,frzV,frzS,frzS_pure,frzP,pureS,pureL,K_own,hown])
   | (refine hQ2 _ _ _ ?_;clear hQ2 Q2;first | simp only [] | simp [hL,hlt,hlt2,h0,hNt,hi,hwi,hwr,-write_ptr,outV,frzV,frzS,frzS_pure,frzP,pureS,pureL,K_own,hown] | skip)
   | (refine hadQ (by assumption) ?_;(try clear hQ2);first | simp only [] | simp [hL,hlt,hlt2,h0,hNt,hi,hwi,hwr,-write_ptr,outV,frzV,frzS,frzS_pure,frzP,pureS,pureL,K_own,hown] | skip)
   | ((fail_if_success replace hQ2:=hQ2);(first | refine hide ?_ | refine hideS ?_ | refine hideB ?_);intro Q2 hQ2)
   | (first | apply cF | apply wN | apply wS) <;> intro hcnd <;> (try simp only [hcnd]) <;> (try simp [-List.isEmpty_iff,-List.isEmpty_eq_false_iff] at hcnd))
  all_goals first | omega | (rw [hI];exact ⟨h3n,h3f,ex_get' (by simp <;> omega)⟩) | trace_state
 ·intro fr hh hx
  rw [hI] at hx
  obtain ⟨hn,hf,j,rfl⟩:=hx
  have hlt2:¬ ((y.length:Int) + marks.length) < (N:Int):=by omega
  have hlt:decide (((y.length:Int) + marks.length) < (N:Int)) = false:=by simp;omega
  have hby:Byt hh (.slc 0 0 0 (y++marks).length 1 none) (y++marks):=byt_at (fx:=true) (by omega) (by rw [hf];simp [hN,hml])
  have hfz:=byt_frz (st:=true) hby 62
  have hle:(y++marks).length = N:=by rw [hN,List.length_append,hml]
  rw [hle] at hfz
  simp only [Nat.reduceAdd] at hfz
  first | (refine hide ?_;intro Q3 hQ3) | have hQ3:=True.intro
  repeat' (first
   | (replace hQ3:=hQ3;simp [hL,hlt,hlt2,hfz,outV,frzV,frzS,frzS_pure,frzP,pureS,pureL,K_own,hown])
   | (refine hQ3 _ _ _ ?_;clear hQ3 Q3;first | simp only [] | simp [hL,hlt,hlt2,hfz,outV,frzV,frzS,frzS_pure,frzP,pureS,pureL,K_own,hown] | skip)
   | (refine hadQ (by assumption) ?_;(try clear hQ3);first | simp only [] | simp [hL,hlt,hlt2,hfz,outV,frzV,frzS,frzS_pure,frzP,pureS,pureL,K_own,hown] | skip)
   | ((fail_if_success replace hQ3:=hQ3);(first | refine hide ?_ | refine hideS ?_ | refine hideB ?_);intro Q3 hQ3)
   | (first | apply cF | apply wN | apply wS) <;> intro hcnd <;> (try simp only [hcnd]) <;> (try simp [-List.isEmpty_iff,-List.isEmpty_eq_false_iff] at hcnd))
  all_goals (simp [frzS] at hfz;simp [hfz,hy])
theorem roomy_c (o:Option BL) (hl:(ls o).length < 10000000) (h:H):W K 13 [.one (bs o),.one (.int .u8 165)] h = some (.ret (.one (bs (some (ls o++marks)))) h):=(roomy_f o hl).pure hp h
theorem roomy_v {h:H} {s:AS} {l:BL} (w:Byt h s l) (hl:l.length < 10000000):W K 13 [.one s,.one (.int .u8 165)] h = some (.ret (.one (bs (some (l++marks)))) h):=by
 have hv:viewA h [.one s,.one (.int .u8 165)] = some [.one (bs (some l)),.one (.int .u8 165)]:=by
  have h1:=view_byt w
  obtain ⟨b,v,rfl,hb⟩:=byt_slc w
  unfold viewA
  rw [if_neg (by simp [pureV,pureS])]
  simp only [List.mapM_cons,List.mapM_nil,viewV,h1,oqE,oqS,oqP]
  rfl
 exact (roomy_f (some l) hl).view hp hv
theorem intact_c (y:BL) (o:Option BL) (ho:ls o = y) (hl:y.length < 10000000) (h:H):W K 15 [.one (bs (some (y++marks))),.one (bs o),.one (.int .u8 165)] h = some (.ret (.one (.bool true)) h):=(intact_f y o ho hl).pure hp h
theorem intact_v {h:H} {s:AS} {y:BL} (w:Byt h s y) (hl:y.length < 10000000):W K 15 [.one (bs (some (y++marks))),.one s,.one (.int .u8 165)] h = some (.ret (.one (.bool true)) h):=by
 have hv:viewA h [.one (bs (some (y++marks))),.one s,.one (.int .u8 165)] = some [.one (bs (some (y++marks))),.one (bs (some y)),.one (.int .u8 165)]:=by
  have h1:=view_byt w
  obtain ⟨b,v,rfl,hb⟩:=byt_slc w
  unfold viewA
  rw [if_neg (by simp [pureV,pureS])]
  simp only [List.mapM_cons,List.mapM_nil,viewV,h1,view_bs,oqE,oqS,oqP]
  rfl
 exact (intact_f y (some y) rfl hl).view hp hv
end Go.Proofs.YtofafocfemikcaaGreat
namespace Go.Proofs.YtofafocfemikcaaGreat
open Go Go.Ab Wm NumPlain
theorem xor8 (p q:UInt8):∃ c:UInt8,bin Tryz.prog K.cmp .xor 5 (.one (byteS p)) (.one (byteS q)) = some (byteS c):=by
 refine ⟨p ^^^ q, ?_⟩
 have hp':=p.toNat_lt
 have hq':=q.toNat_lt
 have hx:p.toNat ^^^ q.toNat < 2 ^ 8:=Nat.xor_lt_two_pow hp' hq'
 simp only [bin,byteS,binI,if_true]
 have hs:IntKind.u8.signed = false:=rfl
 simp [xorI,IntKind.bits,IntKind.wrap,hs]
 have e:(p.toBitVec ^^^ q.toBitVec).toNat = p.toNat ^^^ q.toNat:=by rw [BitVec.toNat_xor];rfl
 show (((p.toBitVec ^^^ q.toBitVec:BitVec 8).toNat:Nat):Int) % 256 = _
 rw [e]
 omega
theorem cell_w (l:BL) (i:Nat) (hi:i < l.length) (c:UInt8) (h:H) (b:Nat) (fx:Bool) (hf:h.f b = some ⟨0,[l.length],fx,l.map byteS⟩):writeC h (.ptr b 0 i) [byteS c] = some (h.set b ⟨0,[l.length],fx,(l.set i c).map byteS⟩):=by
 have hlay:lay (l.map byteS) i [byteS c] = (l.set i c).map byteS:=by
  unfold lay
  rw [List.set_eq_take_append_cons_drop,if_pos hi]
  simp [List.map_take,List.map_drop]
 rw [write_ptr,hf]
 simp only [oqS,Blk.ext,Nat.le_refl,if_true,Nat.sub_self,List.getElem?_cons_zero,hlay]
 rw [if_pos ⟨trivial,by simp <;> omega,by rw [List.length_map]⟩]
theorem cell_r (l:BL) (i:Nat) (hi:i < l.length) (h:H) (b:Nat) (fx:Bool) (hf:h.f b = some ⟨0,[l.length],fx,l.map byteS⟩):∃ c,readC h (.ptr b 0 i) 1 = some [byteS c]:=by
 have e:l = l.take i++l[i]::l.drop (i + 1):=by rw [List.getElem_cons_drop,List.take_append_drop]
 refine ⟨l[i], ?_⟩
 have h1:=sub_bs (l.take i) (l.drop (i + 1)) l[i]
 rw [← e,List.length_take,Nat.min_eq_left (by omega)] at h1
 simp only [read_ptr,hf,oqS,Blk.ext,Nat.le_refl,if_true,Nat.sub_self,List.getElem?_cons_zero]
 rw [if_pos (by omega)]
 exact h1
end Go.Proofs.YtofafocfemikcaaGreat
