/- A part of a proof over the abstract machine. No conditions. -/
import Derived.Test.YtiagcnfmgigllaaGreatT6
import Derived.Test.YtiagcnfmgigllaaGreatC1
import Derived.Test.YtiagcnfmgigllaaGreatC5s
import Derived.Test.YtiagcnfmgigllaaGreatAb5
set_option linter.unusedSimpArgs false
set_option linter.unnecessarySimpa false
set_option linter.unusedVariables false
namespace Go.Proofs.YtiagcnfmgigllaaGreat
open Go Go.Ab Wm NumPlain
set_option maxRecDepth 10000
set_option maxHeartbeats 4000000
theorem val_w (v_kind:Int) (v_b:Option BL) (v_n:Nat) (hb:v_kind = 1→(ls v_b).length ≤ 1048576):Writes K 174 [.agg [ii v_kind,bs v_b,.flt v_n]] (.tup []) (encVal ⟨v_kind,v_b,v_n⟩):=by
 by_cases h1:v_kind = 1
 ·have hb:=hb h1
  simp only [encVal,h1,if_true]
  refine writes_of fun h p q l w hl=>?_
  have hk:=True.intro
  have ws:=WS.start w
  refine W_doesQ hp rfl rfl rfl Tryz.func174 rfl (by simp [Tryz.f174]) ?_
  simp only [Tryz.f174]
  refine hide ?_;intro Q1 hQ1
  repeat' (first
   | (replace hQ1:=hQ1;simp [h1])
   | refine hQ1 _ _ _ ?_
   | ((with_reducible refine call_id ?_);first
    | (refine call_writes (byte_w 1) (by first | assumption | exact WS.new (by assumption) _ | exact WS.new (WS.new (by assumption) _) _) (by first | (simp only [List.length_append,List.length_cons,List.length_nil];omega) | exact hl | omega | (simp only [List.length_append,List.length_cons,List.length_nil] at hl ⊢;omega) | (simp at hl ⊢;omega)) ?_;clear hk;intro h' ws' hk;(try simp only [keptP,and_true] at hk);(first | (have hk:=hk;skip) | have hk:=True.intro);(try simp [hk]))
    | (refine call_writes (text_w v_b hb) (by first | assumption | exact WS.new (by assumption) _ | exact WS.new (WS.new (by assumption) _) _) (by first | (simp only [List.length_append,List.length_cons,List.length_nil,be_length,textB];omega) | exact hl | omega | (simp only [List.length_append,List.length_cons,List.length_nil] at hl ⊢;omega) | (simp at hl ⊢;omega)) ?_;clear hk;intro h' ws' hk;(try simp only [keptP,and_true] at hk);(first | (have hk:=hk;skip) | have hk:=True.intro);(try simp [h1]))
    | (refine call_text (by first | assumption | omega) (by first | assumption | exact WS.new (by assumption) _ | exact WS.new (WS.new (by assumption) _) _) (by first | (simp only [List.length_append,List.length_cons,List.length_nil,be_length,textB,encSpn,num4,num8];omega) | exact hl | omega | (simp only [List.length_append,List.length_cons,List.length_nil,be_length] at hl ⊢;omega) | (simp at hl ⊢;omega)) (by first | rfl | simp) ?_;clear hk;intro h' ws' hk;(try simp only [keptP,and_true,new_next] at hk);(first | (have hk:=hk;skip) | have hk:=True.intro);(try simp [h1,hk])))
   | (first | apply cF | apply wN | apply wS) <;> intro hcnd <;> (try simp only [hcnd]) <;> (try simp [-List.isEmpty_iff,-List.isEmpty_eq_false_iff] at hcnd))
  all_goals first | omega | (simp;exact ⟨_,by simpa [List.append_assoc] using ws'⟩) | exact ⟨_,by simpa [List.append_assoc] using ws'⟩ | skip
 ·by_cases h2:v_kind = 2
  ·subst h2;simp only [encVal,Int.reduceEq,if_true,if_false]
   refine writes_of fun h p q l w hl=>?_
   have hk:=True.intro
   have ws:=WS.start w
   refine W_doesQ hp rfl rfl rfl Tryz.func174 rfl (by simp [Tryz.f174]) ?_
   simp only [Tryz.f174]
   refine hide ?_;intro Q2 hQ2
   repeat' (first
    | (replace hQ2:=hQ2;simp [hk])
    | refine hQ2 _ _ _ ?_
    | ((with_reducible refine call_id ?_);first
     | (refine call_writes (byte_w 2) (by first | assumption | exact WS.new (by assumption) _ | exact WS.new (WS.new (by assumption) _) _) (by first | (simp only [List.length_append,List.length_cons,List.length_nil];omega) | exact hl | omega | (simp only [List.length_append,List.length_cons,List.length_nil,be_length] at hl ⊢;omega) | (simp at hl ⊢;omega)) ?_;clear hk;intro h' ws' hk;(try simp only [keptP,and_true] at hk);(first | (have hk:=hk;skip) | have hk:=True.intro);(try simp [hk]))
     | (refine call_writes (float_w v_n) (by first | assumption | exact WS.new (by assumption) _ | exact WS.new (WS.new (by assumption) _) _) (by first | (simp only [List.length_append,List.length_cons,List.length_nil,be_length];omega) | exact hl | omega | (simp only [List.length_append,List.length_cons,List.length_nil,be_length] at hl ⊢;omega) | (simp at hl ⊢;omega)) ?_;clear hk;intro h' ws' hk;(try simp only [keptP,and_true] at hk);(first | (have hk:=hk;skip) | have hk:=True.intro);(try simp [hk]))
     | (refine call_text (by first | assumption | omega) (by first | assumption | exact WS.new (by assumption) _ | exact WS.new (WS.new (by assumption) _) _) (by first | (simp only [List.length_append,List.length_cons,List.length_nil,be_length,textB,encSpn,num4,num8];omega) | exact hl | omega | (simp only [List.length_append,List.length_cons,List.length_nil,be_length] at hl ⊢;omega) | (simp at hl ⊢;omega)) (by first | rfl | simp) ?_;clear hk;intro h' ws' hk;(try simp only [keptP,and_true,new_next] at hk);(first | (have hk:=hk;skip) | have hk:=True.intro);(try simp [hk])))
    | (first | apply cF | apply wN | apply wS) <;> intro hcnd <;> (try simp only [hcnd]) <;> (try simp [-List.isEmpty_iff,-List.isEmpty_eq_false_iff] at hcnd))
   all_goals first | omega | (simp;exact ⟨_,by simpa [List.append_assoc] using ws'⟩) | exact ⟨_,by simpa [List.append_assoc] using ws'⟩ | skip
  ·simp only [encVal,h1,h2,if_false]
   refine writes_of fun h p q l w hl=>?_
   have hk:=True.intro
   have ws:=WS.start w
   refine W_doesQ hp rfl rfl rfl Tryz.func174 rfl (by simp [Tryz.f174]) ?_
   simp only [Tryz.f174]
   refine hide ?_;intro Q3 hQ3
   repeat' (first
    | (replace hQ3:=hQ3;simp [hk])
    | refine hQ3 _ _ _ ?_
    | ((with_reducible refine call_id ?_);first
     | (refine call_writes (byte_w 0) (by first | assumption | exact WS.new (by assumption) _ | exact WS.new (WS.new (by assumption) _) _) (by first | (simp only [List.length_cons,List.length_nil];omega) | exact hl | omega | (simp only [List.length_append,List.length_cons,List.length_nil,be_length] at hl ⊢;omega) | (simp at hl ⊢;omega)) ?_;clear hk;intro h' ws' hk;(try simp only [keptP,and_true] at hk);(first | (have hk:=hk;skip) | have hk:=True.intro);(try simp [hk]))
     | (refine call_text (by first | assumption | omega) (by first | assumption | exact WS.new (by assumption) _ | exact WS.new (WS.new (by assumption) _) _) (by first | (simp only [List.length_append,be_length,textB];omega) | exact hl | omega | (simp only [List.length_append,List.length_cons,List.length_nil,be_length] at hl ⊢;omega) | (simp at hl ⊢;omega)) (by first | rfl | simp) ?_;clear hk;intro h' ws' hk;(try simp only [keptP,and_true,new_next] at hk);(first | (have hk:=hk;skip) | have hk:=True.intro);(try simp [hk])))
    | (first | apply cF | apply wN | apply wS) <;> intro hcnd <;> (try simp only [hcnd]) <;> (try simp [-List.isEmpty_iff,-List.isEmpty_eq_false_iff] at hcnd))
   all_goals first | omega | (simp;exact ⟨_,by simpa [List.append_assoc] using ws'⟩) | exact ⟨_,by simpa [List.append_assoc] using ws'⟩ | skip
theorem spn_w (lo hi:BL) (h1:lo.length ≤ 1048576) (h2:hi.length ≤ 1048576):Writes K 99 [.agg [.str lo,.str hi]] (.tup []) (encSpn ⟨lo,hi⟩):=by
 simp only [encSpn]
 refine writes_of fun h p q l w hl=>?_
 have hk:=True.intro
 have ws:=WS.start w
 refine W_doesQ hp rfl rfl rfl Tryz.func99 rfl (by simp [Tryz.f99]) ?_
 simp only [Tryz.f99]
 refine hide ?_;intro Q4 hQ4
 repeat' (first
  | (replace hQ4:=hQ4;simp [convA,isByteT,le_lim h1])
  | refine hQ4 _ _ _ ?_
  | ((with_reducible refine call_id ?_);first
   | (refine call_writes (byte_w 0) (by first | assumption | exact WS.new (by assumption) _ | exact WS.new (WS.new (by assumption) _) _) (by first | (simp only [List.length_append,List.length_cons,List.length_nil,be_length,textB];omega) | exact hl | omega | (simp only [List.length_append,List.length_cons,List.length_nil] at hl ⊢;omega) | (simp at hl ⊢;omega)) ?_;clear hk;intro h' ws' hk;(try simp only [keptP,and_true,new_next] at hk);(first | (have hk:=hk;skip) | have hk:=True.intro);(try simp [convA,isByteT,le_lim h1,le_lim h2,hk]))
   | (refine call_text (by first | assumption | omega) (by first | assumption | exact WS.new (by assumption) _ | exact WS.new (WS.new (by assumption) _) _) (by first | (simp only [List.length_append,be_length,textB];omega) | exact hl | omega | (simp only [List.length_append] at hl ⊢;omega) | (simp at hl ⊢;omega)) (by first | rfl | simp) ?_;clear hk;intro h' ws' hk;(try simp only [keptP,and_true] at hk);(first | (have hk:=hk;skip) | have hk:=True.intro);(try simp [convA,isByteT,le_lim h2,hk]))))
 all_goals first | omega | (simp;exact ⟨_,by simpa [List.append_assoc] using ws'⟩) | exact ⟨_,by simpa [List.append_assoc] using ws'⟩ | skip
theorem new_set1 (h:H) (a k k':Blk):((h.new a).new k).set (h.next + 1) k' = (h.new a).new k':=new_set (h.new a) k k'
theorem row_w (o:Row) (ho:(ls o).length < 1000000):Writes K 123 [.agg [sl 2 encColumn o]] (.tup []) (rowBy o):=by
 have hcp:=rcopy_c o ho
 have hlim:=col_lims (rowCopy_ok o)
 simp only [encRow] at hcp
 simp only [rowBy,colsBy]
 generalize rowCopy o = R at *
 obtain ⟨hR4,hR⟩:=hlim
 refine writes_of fun h p q l w hl=>?_
 have hk:=True.intro
 have ws:=WS.start w
 refine W_doesQ hp rfl rfl rfl Tryz.func123 rfl (by simp [Tryz.f123]) ?_
 simp only [Tryz.f123]
 refine hide ?_;intro Q5 hQ5
 repeat' (first
  | (replace hQ5:=hQ5;simp [convA,wrapB,hcp,new_set1])
  | refine hQ5 _ _ _ ?_
  | ((with_reducible refine call_id ?_);first
   | (refine call_writes (byte_w _) (by first | assumption | exact WS.new (by assumption) _ | exact WS.new (WS.new (by assumption) _) _) (by first | (simp only [List.length_cons,List.length_nil];omega) | exact hl | omega | (simp only [List.length_cons,List.length_nil] at hl ⊢;omega) | (simp at hl ⊢;omega)) ?_;clear hk;intro h' ws' hk;(try simp only [keptP,and_true,new_next] at hk);(first | (have hk:=hk;skip) | have hk:=True.intro);(try simp [hk]))
   | (refine call_text (by first | assumption | omega) (by first | assumption | exact WS.new (by assumption) _ | exact WS.new (WS.new (by assumption) _) _) (by first | (simp only [List.length_append,List.length_cons,List.length_nil,be_length,textB,encSpn,num4,num8];omega) | exact hl | omega | (simp only [List.length_append,List.length_cons,List.length_nil,be_length] at hl ⊢;omega) | (simp at hl ⊢;omega)) (by first | rfl | simp) ?_;clear hk;intro h' ws' hk;(try simp only [keptP,and_true,new_next] at hk);(first | (have hk:=hk;skip) | have hk:=True.intro);(try simp [convA,wrapB,hcp,new_set1,hk])))
  | (first | apply cF | apply wN | apply wS) <;> intro hcnd <;> (try simp only [hcnd]) <;> (try simp [-List.isEmpty_iff,-List.isEmpty_eq_false_iff] at hcnd))
 have hl0:l.length + (1 + ((ls R).flatMap colBy).length) ≤ 1099511627776:=by simp only [List.length_cons] at hl;omega
 refine does_each hp (ls R) (fun a r fr hh=>∃ j:Nat→AV,fr = ((.one (.ptr p 0 0))::j 1::j 2::j 3::j 4::j 5::j 6::j 7::j 8::j 9::j 10::j 11::j 12::j 13::j 14::j 15::j 16::j 17::(.one (sl 2 encColumn R))::(.one (ii (ls R).length))::(.one (ii a.length))::j 21::j 22::j 23::j 24::j 25::j 26::j 27::j 28::j 29::j 30::j 31::j 32::j 33::j 34::j 35::j 36::j 37::j 38::j 39::j 40::j 41::j 42::j 43::j 44::j 45::j 46::j 47::j 48::j 49::j 50::j 51::j 52::[])∧WS h q hh p (l++u8 (ls R).length::a.flatMap colBy) []) ?_ ?_ _ _ ?_
 rotate_left 2
 ·exact ex_get (by simp) (by have:=ws'.drop;simpa [List.append_assoc] using this)
 clear hk hl
 ·rintro a x r fr hh hll ⟨j,rfl,ws⟩
  obtain ⟨hx1,hx2,hx3⟩:=hR x (by rw [hll];simp)
  have hil:a.length < (ls R).length:=by rw [hll];simp
  obtain rfl:=ls_cons hll
  have hi:=index_sl (P:=Tryz.prog) (enc:=encColumn) (s:=2) (l:=a++x::r) (i:=a.length) Tryz.underlying79 (by simp) (by omega) (by simp)
  have hr:=sub_flat (enc:=encColumn) (s:=2) len_column a x r (o:=0) (n:=2) (by omega)
  simp only [Nat.add_zero,sub_all (len_column _)] at hr
  obtain ⟨xn,xl⟩:=x
  simp only [encColumn] at hr
  have hw:IntKind.i64.wrap ((a.length:Int) + 1) = ((a.length:Int) + 1):=step_wrap (by simp at hR4;omega)
  have hk:=True.intro
  simp only [ls_some,List.flatMap_append,List.flatMap_cons,List.length_append] at hl0
  have hl1:l.length + 1 + (a.flatMap colBy).length + (4 + xn.length) + 1 + ((ls xl).flatMap verBy).length ≤ 1099511627776:=by
   simp only [colBy,textB,be_length,List.length_append,List.length_cons] at hl0;omega
  have hlA:(l++u8 (a++⟨xn,xl⟩::r).length::a.flatMap colBy).length = l.length + 1 + (a.flatMap colBy).length:=by simp;omega
  obtain ⟨A,hA⟩:∃ A,l++u8 (a++(⟨xn,xl⟩:Column)::r).length::a.flatMap colBy = A:=⟨_,rfl⟩
  have hA2:l++u8 (a++(⟨xn,xl⟩:Column)::r).length::(a++[(⟨xn,xl⟩:Column)]).flatMap colBy = A++(textB xn++(u8 (ls xl).length::(ls xl).flatMap verBy)):=by
   rw [← hA];simp [colBy]
  simp only [ls_some] at ws ⊢
  rw [hA] at ws hlA
  rw [hA2]
  have hl:A.length + ((4 + xn.length) + (1 + ((ls xl).flatMap verBy).length)) ≤ 1099511627776:=by omega
  first | (refine hide ?_;intro Q6 hQ6) | have hQ6:=True.intro
  repeat' (first
   | (replace hQ6:=hQ6;simp [hi,hr,convA,isByteT,le_lim hx1])
   | (refine hQ6 _ _ _ ?_;clear hQ6 Q6;first | simp only [] | simp [hi,hr,hw,convA,isByteT,wrapB,le_lim hx1,hk] | skip)
   | (refine hadQ (by assumption) ?_;(try clear hQ6);first | simp only [] | simp [hi] | skip)
   | ((fail_if_success replace hQ6:=hQ6);(first | refine hide ?_ | refine hideS ?_ | refine hideB ?_);intro Q6 hQ6)
   | ((with_reducible refine call_id ?_);first
    | (refine call_writes (byte_w _) (by first | assumption | exact WS.new (by assumption) _ | exact WS.new (WS.new (by assumption) _) _) (by first | (simp only [List.length_append,List.length_cons,List.length_nil,be_length,textB];omega) | exact hl | omega | (simp only [List.length_append,List.length_cons,List.length_nil,be_length] at hl ⊢;omega) | (simp at hl ⊢;omega)) ?_;clear hk;intro h' ws' hk;(try simp only [keptP,and_true] at hk);(first | (have hk:=hk;skip) | have hk:=True.intro);(try simp [hk]))
    | (refine call_text (by first | assumption | omega) (by first | assumption | exact WS.new (by assumption) _ | exact WS.new (WS.new (by assumption) _) _) (by first | (simp only [List.length_append,be_length,textB];omega) | exact hl | omega | (simp only [List.length_append,List.length_cons,List.length_nil,be_length] at hl ⊢;omega) | (simp at hl ⊢;omega)) (by first | rfl | simp) ?_;clear hk;intro h' ws' hk;(try simp only [keptP,and_true] at hk);(first | (have hk:=hk;skip) | have hk:=True.intro);(try simp [convA,isByteT,wrapB,hk])))
   | (first | apply cF | apply wN | apply wS) <;> intro hcnd <;> (try simp only [hcnd]) <;> (try simp [-List.isEmpty_iff,-List.isEmpty_eq_false_iff] at hcnd))
  all_goals first | omega | skip
  have hwsB:WS h q h' p (A++(textB xn++[u8 (ls xl).length])) []:=by have:=ws'.drop;simpa [List.append_assoc] using this
  clear ws' hk
  refine does_each hp (ls xl) (fun a2 r2 fr h2=>∃ j:Nat→AV,fr = ((.one (.ptr p 0 0))::j 1::j 2::j 3::j 4::j 5::j 6::j 7::j 8::j 9::j 10::j 11::j 12::j 13::j 14::j 15::j 16::j 17::(.one (sl 2 encColumn (some (a++⟨xn,xl⟩::r))))::(.one (ii (a++(⟨xn,xl⟩:Column)::r).length))::(.one (ii a.length))::j 21::j 22::j 23::j 24::j 25::j 26::j 27::j 28::j 29::j 30::j 31::j 32::j 33::j 34::j 35::(.one (sl 4 encVersion xl))::(.one (ii (ls xl).length))::(.one (ii a2.length))::j 39::j 40::j 41::j 42::j 43::j 44::j 45::j 46::j 47::j 48::j 49::j 50::j 51::j 52::[])∧WS h q h2 p (A++(textB xn++(u8 (ls xl).length::a2.flatMap verBy))) []) ?_ ?_ _ _ ?_
  rotate_left 2
  ·exact ex_get (by simp) (by simpa using hwsB)
  clear hwsB
  ·rintro a2 x r2 fr h2 hll ⟨j2,rfl,ws2⟩
   have hxb:=hx3 x (by simp only;rw [hll];simp)
   simp only [List.length_append] at hx2
   obtain rfl:=ls_cons hll
   have hi2:=index_sl (P:=Tryz.prog) (enc:=encVersion) (s:=4) (l:=a2++x::r2) (i:=a2.length) Tryz.underlying89 (by simp) (by omega) (by simp)
   have hr2:=sub_flat (enc:=encVersion) (s:=4) len_version a2 x r2 (o:=0) (n:=4) (by omega)
   simp only [Nat.add_zero,sub_all (len_version _)] at hr2
   obtain ⟨xt,⟨xv_kind,xv_b,xv_n⟩⟩:=x
   simp only [encVersion] at hr2
   have hw2:IntKind.i64.wrap ((a2.length:Int) + 1) = ((a2.length:Int) + 1):=step_wrap (by simp at hx2;omega)
   simp only [ls_some,List.flatMap_append,List.flatMap_cons,List.length_append,verBy,num8,be_length] at hl
   have hl3:A.length + (4 + xn.length) + 1 + (a2.flatMap verBy).length + 8 + (encVal ⟨xv_kind,xv_b,xv_n⟩).length ≤ 1099511627776:=by
    have e:(a2.flatMap verBy).length = (a2.flatMap fun x=>be 8 (u64 x.time)++encVal x.v).length:=rfl
    omega
   simp only [ls_some] at ws2 ⊢
   obtain ⟨B,hB⟩:∃ B,A++(textB xn++(u8 (a2++(⟨xt,⟨xv_kind,xv_b,xv_n⟩⟩:Version)::r2).length::a2.flatMap verBy)) = B:=⟨_,rfl⟩
   have hBl:B.length = A.length + (4 + xn.length) + 1 + (a2.flatMap verBy).length:=by rw [← hB];simp only [textB,be_length,List.length_append,List.length_cons];omega
   have hB2:A++(textB xn++(u8 (a2++(⟨xt,⟨xv_kind,xv_b,xv_n⟩⟩:Version)::r2).length::(a2++[(⟨xt,⟨xv_kind,xv_b,xv_n⟩⟩:Version)]).flatMap verBy)) = B++(num8 xt++encVal ⟨xv_kind,xv_b,xv_n⟩):=by
    rw [← hB];simp [verBy]
   rw [hB] at ws2
   rw [hB2]
   have hk:=True.intro
   have ws:=ws2
   clear hl
   have hl:B.length + (8 + (encVal ⟨xv_kind,xv_b,xv_n⟩).length) ≤ 1099511627776:=by omega
   first | (refine hide ?_;intro Q7 hQ7) | have hQ7:=True.intro
   repeat' (first
    | (replace hQ7:=hQ7;simp [hi2,hr2,convA])
    | (refine hQ7 _ _ _ ?_;clear hQ7 Q7;first | simp only [] | simp [hi2,hr2,hw2,convA,wrapB,hk] | skip)
    | (refine hadQ (by assumption) ?_;(try clear hQ7);first | simp only [] | simp [hi2,hr2,hw2,convA,wrapB,hk] | skip)
    | ((fail_if_success replace hQ7:=hQ7);(first | refine hide ?_ | refine hideS ?_ | refine hideB ?_);intro Q7 hQ7)
    | ((with_reducible refine call_id ?_);first
     | (refine call_writes (longI_w _) (by first | assumption | exact WS.new (by assumption) _ | exact WS.new (WS.new (by assumption) _) _) (by first | (simp only [List.length_append,be_length,num8];omega) | exact hl | omega | (simp only [List.length_append] at hl ⊢;omega) | (simp at hl ⊢;omega)) ?_;clear hk;intro h' ws' hk;(try simp only [keptP,and_true] at hk);(first | (have hk:=hk;skip) | have hk:=True.intro);(try simp [hk]))
     | (refine call_writes (val_w xv_kind xv_b xv_n hxb) (by first | assumption | exact WS.new (by assumption) _ | exact WS.new (WS.new (by assumption) _) _) (by first | (simp only [List.length_append,be_length,num8];omega) | exact hl | omega | (simp only [List.length_append,List.length_cons,List.length_nil,be_length] at hl ⊢;omega) | (simp at hl ⊢;omega)) ?_;clear hk;intro h' ws' hk;(try simp only [keptP,and_true] at hk);(first | (have hk:=hk;skip) | have hk:=True.intro);(try simp [hw2]))
     | (refine call_text (by first | assumption | omega) (by first | assumption | exact WS.new (by assumption) _ | exact WS.new (WS.new (by assumption) _) _) (by first | (simp only [List.length_append,List.length_cons,List.length_nil,be_length,textB,encSpn,num4,num8];omega) | exact hl | omega | (simp only [List.length_append,List.length_cons,List.length_nil,be_length] at hl ⊢;omega) | (simp at hl ⊢;omega)) (by first | rfl | simp) ?_;clear hk;intro h' ws' hk;(try simp only [keptP,and_true,new_next] at hk);(first | (have hk:=hk;skip) | have hk:=True.intro);(try simp [hi2,hr2,hw2,convA,wrapB,hk])))
    | (first | apply cF | apply wN | apply wS) <;> intro hcnd <;> (try simp only [hcnd]) <;> (try simp [-List.isEmpty_iff,-List.isEmpty_eq_false_iff] at hcnd))
   all_goals first | omega | (refine ex_get (by simp) ?_;have:=ws'.drop;simpa [List.append_assoc] using this)
  ·rintro fr h2 ⟨j2,rfl,ws2⟩
   have hk:=True.intro
   have ws':=ws2
   first | (refine hide ?_;intro Q8 hQ8) | have hQ8:=True.intro
   repeat' (first
    | (replace hQ8:=hQ8;simp [hw])
    | (refine hQ8 _ _ _ ?_;clear hQ8 Q8;first | simp only [] | simp [hw,hk] | skip)
    | (refine hadQ (by assumption) ?_;(try clear hQ8);first | simp only [] | simp [hw,hk] | skip)
    | ((fail_if_success replace hQ8:=hQ8);(first | refine hide ?_ | refine hideS ?_ | refine hideB ?_);intro Q8 hQ8)
    | ((with_reducible refine call_id ?_);first
     | (refine call_writes (byte_w 0) (by first | assumption | exact WS.new (by assumption) _ | exact WS.new (WS.new (by assumption) _) _) (by first | (simp only [List.length_append,List.length_cons,List.length_nil,be_length,textB,encSpn,num4,num8];omega) | exact hl | omega | (simp only [List.length_append,List.length_cons,List.length_nil,be_length] at hl ⊢;omega) | (simp at hl ⊢;omega)) ?_;clear hk;intro h' ws' hk;(try simp only [keptP,and_true,new_next] at hk);(first | (have hk:=hk;skip) | have hk:=True.intro);(try simp [hw,hk]))
     | (refine call_text (by first | assumption | omega) (by first | assumption | exact WS.new (by assumption) _ | exact WS.new (WS.new (by assumption) _) _) (by first | (simp only [List.length_append,List.length_cons,List.length_nil,be_length,textB,encSpn,num4,num8];omega) | exact hl | omega | (simp only [List.length_append,List.length_cons,List.length_nil,be_length] at hl ⊢;omega) | (simp at hl ⊢;omega)) (by first | rfl | simp) ?_;clear hk;intro h' ws' hk;(try simp only [keptP,and_true,new_next] at hk);(first | (have hk:=hk;skip) | have hk:=True.intro);(try simp [hw,hk])))
    | (first | apply cF | apply wN | apply wS) <;> intro hcnd <;> (try simp only [hcnd]) <;> (try simp [-List.isEmpty_iff,-List.isEmpty_eq_false_iff] at hcnd))
   refine ex_get (by simp) ?_
   simpa [List.append_assoc] using ws'
 ·rintro fr hh ⟨j,rfl,ws⟩
  have hk:=True.intro
  have ws':=ws
  first | (refine hide ?_;intro Q9 hQ9) | have hQ9:=True.intro
  repeat' (first
   | (replace hQ9:=hQ9;simp [hk])
   | (refine hQ9 _ _ _ ?_;clear hQ9 Q9;first | simp only [] | simp [hk] | skip)
   | (refine hadQ (by assumption) ?_;(try clear hQ9);first | simp only [] | simp [hk] | skip)
   | ((fail_if_success replace hQ9:=hQ9);(first | refine hide ?_ | refine hideS ?_ | refine hideB ?_);intro Q9 hQ9)
   | ((with_reducible refine call_id ?_);first
    | (refine call_writes (byte_w 0) (by first | assumption | exact WS.new (by assumption) _ | exact WS.new (WS.new (by assumption) _) _) (by first | (simp only [List.length_append,List.length_cons,List.length_nil,be_length,textB,encSpn,num4,num8];omega) | exact hl | omega | (simp only [List.length_append,List.length_cons,List.length_nil,be_length] at hl ⊢;omega) | (simp at hl ⊢;omega)) ?_;clear hk;intro h' ws' hk;(try simp only [keptP,and_true,new_next] at hk);(first | (have hk:=hk;skip) | have hk:=True.intro);(try simp [hk]))
    | (refine call_text (by first | assumption | omega) (by first | assumption | exact WS.new (by assumption) _ | exact WS.new (WS.new (by assumption) _) _) (by first | (simp only [List.length_append,List.length_cons,List.length_nil,be_length,textB,encSpn,num4,num8];omega) | exact hl | omega | (simp only [List.length_append,List.length_cons,List.length_nil,be_length] at hl ⊢;omega) | (simp at hl ⊢;omega)) (by first | rfl | simp) ?_;clear hk;intro h' ws' hk;(try simp only [keptP,and_true,new_next] at hk);(first | (have hk:=hk;skip) | have hk:=True.intro);(try simp [hk])))
   | (first | apply cF | apply wN | apply wS) <;> intro hcnd <;> (try simp only [hcnd]) <;> (try simp [-List.isEmpty_iff,-List.isEmpty_eq_false_iff] at hcnd))
  exact ⟨_,ws'⟩
structure Apart (t:Nat) (tq:Option Nat) (p:Nat) (q:Option Nat):Prop where
 tp:t ≠ p
 qt:q ≠ some t
 bp:tq ≠ some p
 qb:∀ b,tq = some b→q ≠ some b
end Go.Proofs.YtiagcnfmgigllaaGreat
namespace Wm
open Go Go.Ab
end Wm
namespace Wm
open Go Go.Ab
end Wm
namespace Go.Proofs.YtiagcnfmgigllaaGreat
open Go Go.Ab Wm NumPlain
set_option maxRecDepth 10000
set_option maxHeartbeats 4000000
structure VerRd (x:Version):Prop where
 t:0 ≤ x.time∧x.time ≤ 1099511627776
 v:valOk x.v = true
 c:valCan x.v = x.v
 n:x.v.kind = 2→x.v.n < 256 ^ 8
structure ColRd (c:Column):Prop where
 nm:nameOk c.name = true
 n:(ls c.l).length ≤ 2
 ne:ls c.l ≠ []
 v:∀ x ∈ ls c.l,VerRd x
structure RowRd (o:Row):Prop where
 ok:rowB o = true
 n:(ls o).length ≤ 4
 c:∀ x ∈ ls o,ColRd x
theorem conv_bs (o:Option BL) (h:H):convA Tryz.prog 27 9 (bs o) h = some (.val (.one (.str (ls o))) h):=by
 have he:=elems_bs h o
 have hl:=lenS_bs o
 have:∀ s,bs o ≠ .str s:=by cases o <;> simp [bs_none,bs_some]
 simp only [convA]
 cases hbs:bs o <;> simp_all [isByteT,bytesOf_map]
theorem blt_irr (a:BL):blt a a = false:=less_irrefl a
theorem tix_self {l:List Named} (ok:TblOk l) {k:Nat} (hk:k < l.length):tix l l[k].name = k:=by
 have h1:=tix_lt ok.srt l[k].name k hk
 rw [cmpL_lt,blt_irr] at h1
 have h3:¬ k < tix l l[k].name:=fun e=>by have:=h1.1 e;cases this
 rcases Nat.eq_zero_or_pos k with h0 | h0
 ·omega
 ·have h2:=tix_lt ok.srt l[k].name (k - 1) (by omega)
  rw [cmpL_lt] at h2
  have:=h2.2 ((chain_iff nm_trans).1 ok.srt (k - 1) k (by omega) hk)
  omega
theorem tix_nil (l:List Named):tix l [] = 0:=by
 unfold tix
 cases l with
 | nil=>rfl
 | cons a l =>
  have:blt a.name [] = false:=by cases a.name <;> rfl
  simp [this]
theorem all_c {h:H} {p:Nat} {l:List Named} {q:Option Nat} (w:Bx h p 2 encNamed l q) (ok:TblOk l):W K 43 [.one (.ptr p 0 0),.one (.str []),.one (.str [])] h = some (.ret (.one (sl 2 encNamed (nz l))) h):=by
 have hlen:=ok.len
 have key:∃ r,W K 43 [.one (.ptr p 0 0),.one (.str []),.one (.str [])] h = some r∧r = .ret (.one (sl 2 encNamed (nz l))) h:=by
  refine W_iceQ hp rfl rfl rfl rfl Tryz.func43 rfl (by simp [Tryz.f43]) ?_
  simp only [Tryz.f43]
  refine hide ?_;intro Q1 hQ1
  repeat' (first
   | (replace hQ1:=hQ1;simp)
   | refine hQ1 _ _ _ ?_)
  refine does_loop hp (fun n fr hh=>Kept h hh∧∃ i lo s1,tix l lo = i∧i ≤ l.length∧n = l.length - i∧Sl hh 2 encNamed s1 (l.take i)∧(s1 = .nilslc ∨ l.take i ≠ [])∧(∀ b,ownB s1 = some b→h.next ≤ b)∧∃ j:Nat→AV,fr = ((.one (.ptr p 0 0))::(.one (.str lo))::(.one (.str []))::j 3::j 4::j 5::j 6::(.one s1)::j 8::j 9::j 10::j 11::j 12::j 13::j 14::j 15::j 16::j 17::j 18::j 19::j 20::j 21::j 22::j 23::[])) ?_ l.length _ _ ?_
  rotate_left
  ·exact ⟨kept_refl h,0,[],.nilslc,tix_nil l,by omega,rfl,.inl ⟨rfl,by simp⟩,.inl rfl,by simp [ownB],ex_get' (by simp)⟩
  ·rintro n fr hh ⟨kk,i,lo,s1,i1,i2,i3,i4,i5,i6,j,rfl⟩
   have hn:=kk.1
   have wB:Bx hh p 2 encNamed l q:=w.keep hn (kk.2 p w.1) fun b hb=>kk.2 b (w.lt hb)
   have hr:=trange_c wB ok lo [] 16
   obtain ⟨rg,hrg⟩:∃ rg,trange l lo [] 16 = rg:=⟨_,rfl⟩
   rw [hrg] at hr
   unfold trange at hrg
   simp only [i1,if_true] at hrg
   have hm:((max 0 (min (16:Int) 16)).toNat) = 16:=by decide
   rw [hm] at hrg
   by_cases hi:l.length ≤ i
   ·rw [if_pos hi] at hrg
    subst hrg
    simp only [nz_nil] at hr
    have hil:i = l.length:=by omega
    subst hil
    rw [List.take_length] at i4 i5
    have hap:appendA Tryz.prog 48 48 hh s1 .nilslc = some (s1,hh):=by
     rw [append_slice (size:=2) (el:=83) (x:=.nilslc) (m:=0) (new:=[]) (u:=48) (by simp) (by simp) Tryz.bytes83 Tryz.underlying48 rfl rfl]
     rcases i4 with ⟨rfl,_⟩ | ⟨bb,vv,zz,rfl,_⟩ <;> simp [appendL]
    have hsn:sl 2 encNamed none = .nilslc:=rfl
    rw [hsn] at hr
    have hr':W K 83 [.one (.ptr p 0 0),.one (.str lo),.one (.str []),.one (.int .i64 16)] hh = some (.ret (.tup [(false,[.nilslc]),(false,[.str []])]) hh):=hr
    first | (refine hide ?_;intro Q2 hQ2) | have hQ2:=True.intro
    repeat' (first
     | (replace hQ2:=hQ2;simp [strOp,hr',hap])
     | (refine hQ2 _ _ _ ?_;clear hQ2 Q2;first | simp only [] | simp [strOp,hr',hap] | skip)
     | (refine hadQ (by assumption) ?_;(try clear hQ2);first | simp only [] | simp [strOp] | skip)
     | ((fail_if_success replace hQ2:=hQ2);(first | refine hide ?_ | refine hideS ?_ | refine hideB ?_);intro Q2 hQ2))
    exact ice_sl len_named pure_named i4 i6 i5 kk rfl
   ·rw [if_neg hi,List.take_length] at hrg
    obtain ⟨D,hD⟩:∃ D,l.drop i = D:=⟨_,rfl⟩
    rw [hD] at hrg
    have hDl:D.length = l.length - i:=by rw [← hD,List.length_drop]
    have hl2:l = l.take i++D:=by rw [← hD,List.take_append_drop]
    have app:∀ m:List Named,m ≠ []→m.length ≤ 32→∃ s2 h2,appendA Tryz.prog 48 48 hh s1 (sl 2 encNamed (some m)) = some (s2,h2)∧Sl h2 2 encNamed s2 (l.take i++m)∧Kept h h2∧∀ b,ownB s2 = some b→h.next ≤ b:=by
     intro m hm hml
     obtain ⟨s2,h2,e,⟨b,v,z,hs2,ar⟩,k1,k2,k3⟩:=arr_append (P:=Tryz.prog) (t:=48) Tryz.underlying48 (by simp) (by simp) Tryz.bytes83 (by omega) len_named (a:=sl 2 encNamed (some m)) (m:=m) i4 (by simp [sl,lenS]) (elems_sl len_named (by omega) hh (some m)) hm (by simp only [limit,List.length_take];omega)
     refine ⟨s2,h2,e,.inr ⟨b,v,z,hs2,ar⟩,⟨by omega,fun b hb=>?_⟩,fun b hb=>?_⟩
     ·rw [k2 b (by omega) (fun e=>by have:=i6 b e;omega)];exact kk.2 b hb
     ·rcases k3 b hb with e | e
      ·exact i6 b e
      ·omega
    have hDn:D ≠ []:=fun e=>by rw [e] at hDl;simp at hDl;omega
    by_cases h16:D.length ≤ 16
    ·rw [if_pos h16] at hrg
     subst hrg
     rw [nz_ne hDn] at hr
     obtain ⟨s2,h2,e2,a1,a2,a3⟩:=app D hDn (by omega)
     rw [← hl2] at a1
     have hr':W K 83 [.one (.ptr p 0 0),.one (.str lo),.one (.str []),.one (.int .i64 16)] hh = some (.ret (.tup [(false,[sl 2 encNamed (some D)]),(false,[.str []])]) hh):=hr
     first | (refine hide ?_;intro Q3 hQ3) | have hQ3:=True.intro
     repeat' (first
      | (replace hQ3:=hQ3;simp [strOp,hr',e2])
      | (refine hQ3 _ _ _ ?_;clear hQ3 Q3;first | simp only [] | simp [strOp,hr',e2] | skip)
      | (refine hadQ (by assumption) ?_;(try clear hQ3);first | simp only [] | simp [strOp] | skip)
      | ((fail_if_success replace hQ3:=hQ3);(first | refine hide ?_ | refine hideS ?_ | refine hideB ?_);intro Q3 hQ3))
     exact ice_sl len_named pure_named a1 a3 (.inr (fun e=>by rw [e] at hlen hi;simp at hi)) a2 rfl
    ·rw [if_neg h16] at hrg
     have h16':16 < D.length:=by omega
     rw [List.getElem?_eq_getElem h16'] at hrg
     simp only at hrg
     subst hrg
     have hil:i + 16 < l.length:=by omega
     have hxe:D[16] = l[i + 16]:=by simp only [← hD];rw [List.getElem_drop]
     have hD16:D.take 16 ≠ []:=fun e=>by have:=congrArg List.length e;rw [List.length_take,List.length_nil] at this;omega
     rw [nz_ne hD16,hxe] at hr
     obtain ⟨s2,h2,e2,a1,a2,a3⟩:=app (D.take 16) hD16 (by simp;omega)
     have htk:l.take i++D.take 16 = l.take (i + 16):=by rw [← hD,List.take_add]
     rw [htk] at a1
     have hnx:=tix_self ok hil
     have hnn:=ok.nm _ (List.getElem_mem hil)
     obtain ⟨N,hN⟩:∃ N,l[i + 16].name = N:=⟨_,rfl⟩
     rw [hN] at hr hnx hnn
     have hNe:N ≠ []:=fun e=>by rw [e] at hnn;simp [nameOk] at hnn
     have hNb:(N == []) = false:=by simp [hNe]
     have hr':W K 83 [.one (.ptr p 0 0),.one (.str lo),.one (.str []),.one (.int .i64 16)] hh = some (.ret (.tup [(false,[sl 2 encNamed (some (D.take 16))]),(false,[.str N])]) hh):=hr
     generalize sl 2 encNamed (some (D.take 16)) = Z at *
     first | (refine hide ?_;intro Q4 hQ4) | have hQ4:=True.intro
     repeat' (first
      | (replace hQ4:=hQ4;simp [strOp,hNb,hr',e2])
      | (refine hQ4 _ _ _ ?_;clear hQ4 Q4;first | simp only [] | simp [strOp,hNe,hNb,hr',e2] | skip)
      | (refine hadQ (by assumption) ?_;(try clear hQ4);first | simp only [] | simp [strOp,hNe,hNb,hr',e2] | skip)
      | ((fail_if_success replace hQ4:=hQ4);(first | refine hide ?_ | refine hideS ?_ | refine hideB ?_);intro Q4 hQ4))
     exact ⟨l.length - (i + 16),by omega,a2,i + 16,N,s2,hnx,by omega,rfl,a1,.inr (fun e=>by have:=congrArg List.length e;rw [List.length_take,List.length_nil] at this;omega),a3,ex_get' (by simp)⟩
 obtain ⟨r,e,rfl⟩:=key
 exact e
abbrev tabB (sp:Span) (gen:Int) (fr:Bool) (pr pc:AS):Blk:=⟨0,[6],true,[.str sp.lo,.str sp.hi,ii gen,.bool fr,pr,pc]⟩
theorem Apart.keep {t p:Nat} {tq q q':Option Nat} {h h':H} (a:Apart t tq p q) (o:Only h h' p q q') (ht:t < h.next) (hq:∀ b,tq = some b→b < h.next):Apart t tq p q' where
 tp:=a.tp
 qt:=by
  rcases o.own with e | ⟨y,e,hy⟩
  ·rw [e];exact a.qt
  ·rw [e];intro hc;cases hc;omega
 bp:=a.bp
 qb b hb:=by
  rcases o.own with e | ⟨y,e,hy⟩
  ·rw [e];exact a.qb b hb
  ·rw [e];intro hc;cases hc;have:=hq _ hb;omega
def maxB (a b:BL):BL:=if Op.bytesLess a b then b else a
def meetOk (a b:Span):Bool:=spanOk a && (spanOk b && (hasName a (maxB a.lo b.lo) && hasName b (maxB a.lo b.lo)))
theorem spanMeet_c (l1 h1 l2 h2:BL) (h:H):W K 61 [.agg [.str l1,.str h1],.agg [.str l2,.str h2]] h = some (.ret (.one (.bool (meetOk ⟨l1,h1⟩ ⟨l2,h2⟩))) h):=by
 have r1:=spanRight_c l1 h1
 have r2:=spanRight_c l2 h2
 have m1:=spanHas_c l1 h1 (maxB l1 l2)
 have m2:=spanHas_c l2 h2 (maxB l1 l2)
 have mm:minmax true (.str l1) (.str l2) = some (.str (maxB l1 l2)):=rfl
 have hown:memL S.own 61 = false:=by kernel_rfl
 refine W_pure hp (by simp [pureV,-minmax,pureS,pureL]) (apart_does rfl rfl (by kernel_rfl) Tryz.func61 rfl (by simp [Tryz.f61]) ?_)
 simp only [Tryz.f61]
 refine hide ?_;intro Q1 hQ1
 repeat' (first
  | (replace hQ1:=hQ1;simp [r1,r2,m1,m2,-minmax,mm])
  | (refine hQ1 _ _ _ ?_;clear hQ1 Q1;first | simp only [] | simp [meetOk,-minmax,outV,frzV,frzS,pureS,K_own,hown])
  | (first | apply cF | apply wN | apply wS) <;> intro hcnd <;> (try simp only [hcnd]) <;> (try simp [-List.isEmpty_iff,-List.isEmpty_eq_false_iff] at hcnd))
 all_goals first | done | (simp_all [-List.isEmpty_iff,-List.isEmpty_eq_false_iff];done) | (simp_all;done) | (simp_all;omega) | (simp;omega) | (intros;omega) | (intros;simp only [decide_eq_true_eq] at *;omega) | (intros;simp at *;omega) | skip
end Go.Proofs.YtiagcnfmgigllaaGreat
namespace Wm
open Go Go.Ab
structure TabD where
 span:Span
 gen:Int
 fr:Bool
 rows:List Named
 cache:List Tld
def noA (c:Int):Answer:=⟨c,none,⟨[],[]⟩,0,0,0,0,0,[],none⟩
def mutT (l:List Named) (o:Op):List Named × Int :=
 let r:=(tfind l o.row).1
 if holds r o.cond = false then (l,25) else
 let a:=apply r (ls o.l)
 if a.2 = 0 then tset l o.row a.1 else (l,a.2)
def hiT (sp:Span) (hi:BL):BL:=if hi ≠ []∧(sp.hi = [] ∨ blt hi sp.hi = true) then hi else sp.hi
def opT (sp:Span) (l:List Named) (o:Op):Answer × List Named :=
 if o.kind = 1 then (if (tfind l o.row).2 = true then ⟨0,some [⟨o.row,(tfind l o.row).1⟩],⟨[],[]⟩,0,0,0,0,0,[],none⟩ else noA 0,l)
 else if o.kind = 2 then (noA (mutT l o).2,(mutT l o).1)
 else
  let r:=trange l o.row (hiT sp o.hi) o.most
  (⟨0,nz r.1,⟨o.row,if r.2 = [] then hiT sp o.hi else r.2⟩,0,0,0,0,0,[],none⟩,l)
def ansOk (a:Answer):Bool:=(inTo a.code 255 && (inTo a.group 255 && (inTo a.to 255 && inTo a.do_ 255))) && ((inTo a.gen 1073741824 && inTo a.old 1073741824) && (((ls a.rows).all fun x=>nameOk x.name && rowB x.r) && (decide ((ls a.rows).length ≤ 16) && (spanOk a.span && (decide (a.at_.length ≤ 16) && decide (lenB a.state ≤ 1048576))))))
def ansB (a:Answer):BL:=u8 a.code::u8 (ls a.rows).length::((ls a.rows).flatMap namedBy++(encSpn a.span++(u8 a.group::u8 a.to::u8 a.do_::(num4 a.gen++(num4 a.old++(textB a.at_++textB (ls a.state)))))))
def tlt (a b:TabD):Bool:=blt a.span.lo b.span.lo
structure TabOk (t:TabD):Prop where
 sp:spanOk t.span = true
 gen:1 ≤ t.gen∧t.gen ≤ 1073741824
 rows:TblOk t.rows
 cache:CchOk t.cache
 inn:∀ x ∈ t.rows,hasName t.span x.name = true
end Wm
