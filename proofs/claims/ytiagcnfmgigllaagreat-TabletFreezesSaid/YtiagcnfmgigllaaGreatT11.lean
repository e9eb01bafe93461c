/- A part of a proof over the abstract machine. No conditions. -/
import Derived.Test.YtiagcnfmgigllaaGreatT6
set_option linter.unusedSimpArgs false
set_option linter.unnecessarySimpa false
set_option linter.unusedVariables false
namespace Go.Proofs.YtiagcnfmgigllaaGreat
open Go Go.Ab Wm NumPlain
set_option maxRecDepth 10000
set_option maxHeartbeats 4000000
theorem D0D (B9:Int) (v_b:Option BL) (v_n:Nat) (hb:B9 = 1→(ls v_b).length ≤ 1048576):b0h K 174 [.agg [ii B9,bs v_b,.flt v_n]] (.tup []) (a0v ⟨B9,v_b,v_n⟩):=by
 by_cases h1:B9 = 1
 ·have hb:=hb h1
  simp only [a0v,h1,if_true]
  refine Z3 fun h p q l w hl=>?_
  have hk:=True.intro
  have ws:=WS.start w
  refine J6 hp rfl rfl rfl Tryz.func174 rfl (by simp [Tryz.f174]) ?_
  simp only [Tryz.f174]
  refine hide ?_;intro Q1 hQ1
  repeat' (first
   | (replace hQ1:=hQ1;simp [h1])
   | refine hQ1 _ _ _ ?_
   | ((with_reducible refine O1 ?_);first
    | (refine C5 (b0v 1) (by first | assumption | exact WS.new (by assumption) _ | exact WS.new (WS.new (by assumption) _) _) (by first | (simp only [List.length_append,List.length_cons,List.length_nil];omega) | exact hl | omega | (simp only [List.length_append,List.length_cons,List.length_nil] at hl ⊢;omega) | (simp at hl ⊢;omega)) ?_;clear hk;intro h' ws' hk;(try simp only [H9,and_true] at hk);(first | (have hk:=hk;skip) | have hk:=True.intro);(try simp [hk]))
    | (refine C5 (q0w v_b hb) (by first | assumption | exact WS.new (by assumption) _ | exact WS.new (WS.new (by assumption) _) _) (by first | (simp only [List.length_append,List.length_cons,List.length_nil,d0,D5];omega) | exact hl | omega | (simp only [List.length_append,List.length_cons,List.length_nil] at hl ⊢;omega) | (simp at hl ⊢;omega)) ?_;clear hk;intro h' ws' hk;(try simp only [H9,and_true] at hk);(first | (have hk:=hk;skip) | have hk:=True.intro);(try simp [h1]))
    | (refine N0 (by first | assumption | omega) (by first | assumption | exact WS.new (by assumption) _ | exact WS.new (WS.new (by assumption) _) _) (by first | (simp only [List.length_append,List.length_cons,List.length_nil,d0,D5,J9,O3,b0m];omega) | exact hl | omega | (simp only [List.length_append,List.length_cons,List.length_nil,d0] at hl ⊢;omega) | (simp at hl ⊢;omega)) (by first | rfl | simp) ?_;clear hk;intro h' ws' hk;(try simp only [H9,and_true,A0] at hk);(first | (have hk:=hk;skip) | have hk:=True.intro);(try simp [h1,hk])))
   | (first | apply cF | apply wN | apply wS) <;> intro hcnd <;> (try simp only [hcnd]) <;> (try simp [-List.isEmpty_iff,-List.isEmpty_eq_false_iff] at hcnd))
  all_goals first | omega | (simp;exact ⟨_,by simpa [List.append_assoc] using ws'⟩) | exact ⟨_,by simpa [List.append_assoc] using ws'⟩ | skip
 ·by_cases h2:B9 = 2
  ·subst h2;simp only [a0v,Int.reduceEq,if_true,if_false]
   refine Z3 fun h p q l w hl=>?_
   have hk:=True.intro
   have ws:=WS.start w
   refine J6 hp rfl rfl rfl Tryz.func174 rfl (by simp [Tryz.f174]) ?_
   simp only [Tryz.f174]
   refine hide ?_;intro Q2 hQ2
   repeat' (first
    | (replace hQ2:=hQ2;simp [hk])
    | refine hQ2 _ _ _ ?_
    | ((with_reducible refine O1 ?_);first
     | (refine C5 (b0v 2) (by first | assumption | exact WS.new (by assumption) _ | exact WS.new (WS.new (by assumption) _) _) (by first | (simp only [List.length_append,List.length_cons,List.length_nil];omega) | exact hl | omega | (simp only [List.length_append,List.length_cons,List.length_nil,d0] at hl ⊢;omega) | (simp at hl ⊢;omega)) ?_;clear hk;intro h' ws' hk;(try simp only [H9,and_true] at hk);(first | (have hk:=hk;skip) | have hk:=True.intro);(try simp [hk]))
     | (refine C5 (y0r v_n) (by first | assumption | exact WS.new (by assumption) _ | exact WS.new (WS.new (by assumption) _) _) (by first | (simp only [List.length_append,List.length_cons,List.length_nil,d0];omega) | exact hl | omega | (simp only [List.length_append,List.length_cons,List.length_nil,d0] at hl ⊢;omega) | (simp at hl ⊢;omega)) ?_;clear hk;intro h' ws' hk;(try simp only [H9,and_true] at hk);(first | (have hk:=hk;skip) | have hk:=True.intro);(try simp [hk]))
     | (refine N0 (by first | assumption | omega) (by first | assumption | exact WS.new (by assumption) _ | exact WS.new (WS.new (by assumption) _) _) (by first | (simp only [List.length_append,List.length_cons,List.length_nil,d0,D5,J9,O3,b0m];omega) | exact hl | omega | (simp only [List.length_append,List.length_cons,List.length_nil,d0] at hl ⊢;omega) | (simp at hl ⊢;omega)) (by first | rfl | simp) ?_;clear hk;intro h' ws' hk;(try simp only [H9,and_true,A0] at hk);(first | (have hk:=hk;skip) | have hk:=True.intro);(try simp [hk])))
    | (first | apply cF | apply wN | apply wS) <;> intro hcnd <;> (try simp only [hcnd]) <;> (try simp [-List.isEmpty_iff,-List.isEmpty_eq_false_iff] at hcnd))
   all_goals first | omega | (simp;exact ⟨_,by simpa [List.append_assoc] using ws'⟩) | exact ⟨_,by simpa [List.append_assoc] using ws'⟩ | skip
  ·simp only [a0v,h1,h2,if_false]
   refine Z3 fun h p q l w hl=>?_
   have hk:=True.intro
   have ws:=WS.start w
   refine J6 hp rfl rfl rfl Tryz.func174 rfl (by simp [Tryz.f174]) ?_
   simp only [Tryz.f174]
   refine hide ?_;intro Q3 hQ3
   repeat' (first
    | (replace hQ3:=hQ3;simp [hk])
    | refine hQ3 _ _ _ ?_
    | ((with_reducible refine O1 ?_);first
     | (refine C5 (b0v 0) (by first | assumption | exact WS.new (by assumption) _ | exact WS.new (WS.new (by assumption) _) _) (by first | (simp only [List.length_cons,List.length_nil];omega) | exact hl | omega | (simp only [List.length_append,List.length_cons,List.length_nil,d0] at hl ⊢;omega) | (simp at hl ⊢;omega)) ?_;clear hk;intro h' ws' hk;(try simp only [H9,and_true] at hk);(first | (have hk:=hk;skip) | have hk:=True.intro);(try simp [hk]))
     | (refine N0 (by first | assumption | omega) (by first | assumption | exact WS.new (by assumption) _ | exact WS.new (WS.new (by assumption) _) _) (by first | (simp only [List.length_append,d0,D5];omega) | exact hl | omega | (simp only [List.length_append,List.length_cons,List.length_nil,d0] at hl ⊢;omega) | (simp at hl ⊢;omega)) (by first | rfl | simp) ?_;clear hk;intro h' ws' hk;(try simp only [H9,and_true,A0] at hk);(first | (have hk:=hk;skip) | have hk:=True.intro);(try simp [hk])))
    | (first | apply cF | apply wN | apply wS) <;> intro hcnd <;> (try simp only [hcnd]) <;> (try simp [-List.isEmpty_iff,-List.isEmpty_eq_false_iff] at hcnd))
   all_goals first | omega | (simp;exact ⟨_,by simpa [List.append_assoc] using ws'⟩) | exact ⟨_,by simpa [List.append_assoc] using ws'⟩ | skip
theorem t0X (lo hi:BL) (h1:lo.length ≤ 1048576) (h2:hi.length ≤ 1048576):b0h K 99 [.agg [.str lo,.str hi]] (.tup []) (J9 ⟨lo,hi⟩):=by
 simp only [J9]
 refine Z3 fun h p q l w hl=>?_
 have hk:=True.intro
 have ws:=WS.start w
 refine J6 hp rfl rfl rfl Tryz.func99 rfl (by simp [Tryz.f99]) ?_
 simp only [Tryz.f99]
 refine hide ?_;intro Q4 hQ4
 repeat' (first
  | (replace hQ4:=hQ4;simp [A6,S9,b0B h1])
  | refine hQ4 _ _ _ ?_
  | ((with_reducible refine O1 ?_);first
   | (refine C5 (b0v 0) (by first | assumption | exact WS.new (by assumption) _ | exact WS.new (WS.new (by assumption) _) _) (by first | (simp only [List.length_append,List.length_cons,List.length_nil,d0,D5];omega) | exact hl | omega | (simp only [List.length_append,List.length_cons,List.length_nil] at hl ⊢;omega) | (simp at hl ⊢;omega)) ?_;clear hk;intro h' ws' hk;(try simp only [H9,and_true,A0] at hk);(first | (have hk:=hk;skip) | have hk:=True.intro);(try simp [A6,S9,b0B h1,b0B h2,hk]))
   | (refine N0 (by first | assumption | omega) (by first | assumption | exact WS.new (by assumption) _ | exact WS.new (WS.new (by assumption) _) _) (by first | (simp only [List.length_append,d0,D5];omega) | exact hl | omega | (simp only [List.length_append] at hl ⊢;omega) | (simp at hl ⊢;omega)) (by first | rfl | simp) ?_;clear hk;intro h' ws' hk;(try simp only [H9,and_true] at hk);(first | (have hk:=hk;skip) | have hk:=True.intro);(try simp [A6,S9,b0B h2,hk]))))
 all_goals first | omega | (simp;exact ⟨_,by simpa [List.append_assoc] using ws'⟩) | exact ⟨_,by simpa [List.append_assoc] using ws'⟩ | skip
theorem P8 (h:H) (a k k':Blk):((h.new a).new k).set (h.next + 1) k' = (h.new a).new k':=m0J (h.new a) k k'
theorem z0z (o:Row) (ho:(ls o).length < 1000000):b0h K 123 [.agg [sl 2 d9 o]] (.tup []) (g0c o):=by
 have hcp:=f0H o ho
 have hlim:=c0W (M7 o)
 simp only [F6] at hcp
 simp only [g0c,d0t]
 generalize rowCopy o = R at *
 obtain ⟨hR4,hR⟩:=hlim
 refine Z3 fun h p q l w hl=>?_
 have hk:=True.intro
 have ws:=WS.start w
 refine J6 hp rfl rfl rfl Tryz.func123 rfl (by simp [Tryz.f123]) ?_
 simp only [Tryz.f123]
 refine hide ?_;intro Q5 hQ5
 repeat' (first
  | (replace hQ5:=hQ5;simp [A6,b0d,hcp,P8])
  | refine hQ5 _ _ _ ?_
  | ((with_reducible refine O1 ?_);first
   | (refine C5 (b0v _) (by first | assumption | exact WS.new (by assumption) _ | exact WS.new (WS.new (by assumption) _) _) (by first | (simp only [List.length_cons,List.length_nil];omega) | exact hl | omega | (simp only [List.length_cons,List.length_nil] at hl ⊢;omega) | (simp at hl ⊢;omega)) ?_;clear hk;intro h' ws' hk;(try simp only [H9,and_true,A0] at hk);(first | (have hk:=hk;skip) | have hk:=True.intro);(try simp [hk]))
   | (refine N0 (by first | assumption | omega) (by first | assumption | exact WS.new (by assumption) _ | exact WS.new (WS.new (by assumption) _) _) (by first | (simp only [List.length_append,List.length_cons,List.length_nil,d0,D5,J9,O3,b0m];omega) | exact hl | omega | (simp only [List.length_append,List.length_cons,List.length_nil,d0] at hl ⊢;omega) | (simp at hl ⊢;omega)) (by first | rfl | simp) ?_;clear hk;intro h' ws' hk;(try simp only [H9,and_true,A0] at hk);(first | (have hk:=hk;skip) | have hk:=True.intro);(try simp [A6,b0d,hcp,P8,hk])))
  | (first | apply cF | apply wN | apply wS) <;> intro hcnd <;> (try simp only [hcnd]) <;> (try simp [-List.isEmpty_iff,-List.isEmpty_eq_false_iff] at hcnd))
 have hl0:l.length + (1 + ((ls R).flatMap b0n).length) ≤ 1099511627776:=by simp only [List.length_cons] at hl;omega
 refine F5 hp (ls R) (fun a r fr hh=>∃ j:Nat→AV,fr = ((.one (.ptr p 0 0))::j 1::j 2::j 3::j 4::j 5::j 6::j 7::j 8::j 9::j 10::j 11::j 12::j 13::j 14::j 15::j 16::j 17::(.one (sl 2 d9 R))::(.one (ii (ls R).length))::(.one (ii a.length))::j 21::j 22::j 23::j 24::j 25::j 26::j 27::j 28::j 29::j 30::j 31::j 32::j 33::j 34::j 35::j 36::j 37::j 38::j 39::j 40::j 41::j 42::j 43::j 44::j 45::j 46::j 47::j 48::j 49::j 50::j 51::j 52::[])∧WS h q hh p (l++u8 (ls R).length::a.flatMap b0n) []) ?_ ?_ _ _ ?_
 rotate_left 2
 ·exact Y6 (by simp) (by have:=ws'.drop;simpa [List.append_assoc] using this)
 clear hk hl
 ·rintro a x r fr hh hll ⟨j,rfl,ws⟩
  obtain ⟨hx1,hx2,hx3⟩:=hR x (by rw [hll];simp)
  have hil:a.length < (ls R).length:=by rw [hll];simp
  obtain rfl:=S7 hll
  have hi:=J8 (P:=Tryz.prog) (enc:=d9) (s:=2) (l:=a++x::r) (i:=a.length) Tryz.underlying79 (by simp) (by omega) (by simp)
  have hr:=I4 (enc:=d9) (s:=2) O8 a x r (o:=0) (n:=2) (by omega)
  simp only [Nat.add_zero,J2 (O8 _)] at hr
  obtain ⟨xn,xl⟩:=x
  simp only [d9] at hr
  have hw:IntKind.i64.wrap ((a.length:Int) + 1) = ((a.length:Int) + 1):=F0 (by simp at hR4;omega)
  have hk:=True.intro
  simp only [I6,List.flatMap_append,List.flatMap_cons,List.length_append] at hl0
  have hl1:l.length + 1 + (a.flatMap b0n).length + (4 + xn.length) + 1 + ((ls xl).flatMap a0t).length ≤ 1099511627776:=by
   simp only [b0n,D5,d0,List.length_append,List.length_cons] at hl0;omega
  have hlA:(l++u8 (a++⟨xn,xl⟩::r).length::a.flatMap b0n).length = l.length + 1 + (a.flatMap b0n).length:=by simp;omega
  obtain ⟨A,hA⟩:∃ A,l++u8 (a++(⟨xn,xl⟩:Column)::r).length::a.flatMap b0n = A:=⟨_,rfl⟩
  have hA2:l++u8 (a++(⟨xn,xl⟩:Column)::r).length::(a++[(⟨xn,xl⟩:Column)]).flatMap b0n = A++(D5 xn++(u8 (ls xl).length::(ls xl).flatMap a0t)):=by
   rw [← hA];simp [b0n]
  simp only [I6] at ws ⊢
  rw [hA] at ws hlA
  rw [hA2]
  have hl:A.length + ((4 + xn.length) + (1 + ((ls xl).flatMap a0t).length)) ≤ 1099511627776:=by omega
  first | (refine hide ?_;intro Q6 hQ6) | have hQ6:=True.intro
  repeat' (first
   | (replace hQ6:=hQ6;simp [hi,hr,A6,S9,b0B hx1])
   | (refine hQ6 _ _ _ ?_;clear hQ6 Q6;first | simp only [] | simp [hi,hr,hw,A6,S9,b0d,b0B hx1,hk] | skip)
   | (refine D3 (by assumption) ?_;(try clear hQ6);first | simp only [] | simp [hi] | skip)
   | ((fail_if_success replace hQ6:=hQ6);(first | refine hide ?_ | refine u6 ?_ | refine u7 ?_);intro Q6 hQ6)
   | ((with_reducible refine O1 ?_);first
    | (refine C5 (b0v _) (by first | assumption | exact WS.new (by assumption) _ | exact WS.new (WS.new (by assumption) _) _) (by first | (simp only [List.length_append,List.length_cons,List.length_nil,d0,D5];omega) | exact hl | omega | (simp only [List.length_append,List.length_cons,List.length_nil,d0] at hl ⊢;omega) | (simp at hl ⊢;omega)) ?_;clear hk;intro h' ws' hk;(try simp only [H9,and_true] at hk);(first | (have hk:=hk;skip) | have hk:=True.intro);(try simp [hk]))
    | (refine N0 (by first | assumption | omega) (by first | assumption | exact WS.new (by assumption) _ | exact WS.new (WS.new (by assumption) _) _) (by first | (simp only [List.length_append,d0,D5];omega) | exact hl | omega | (simp only [List.length_append,List.length_cons,List.length_nil,d0] at hl ⊢;omega) | (simp at hl ⊢;omega)) (by first | rfl | simp) ?_;clear hk;intro h' ws' hk;(try simp only [H9,and_true] at hk);(first | (have hk:=hk;skip) | have hk:=True.intro);(try simp [A6,S9,b0d,hk])))
   | (first | apply cF | apply wN | apply wS) <;> intro hcnd <;> (try simp only [hcnd]) <;> (try simp [-List.isEmpty_iff,-List.isEmpty_eq_false_iff] at hcnd))
  all_goals first | omega | skip
  have hwsB:WS h q h' p (A++(D5 xn++[u8 (ls xl).length])) []:=by have:=ws'.drop;simpa [List.append_assoc] using this
  clear ws' hk
  refine F5 hp (ls xl) (fun a2 r2 fr h2=>∃ j:Nat→AV,fr = ((.one (.ptr p 0 0))::j 1::j 2::j 3::j 4::j 5::j 6::j 7::j 8::j 9::j 10::j 11::j 12::j 13::j 14::j 15::j 16::j 17::(.one (sl 2 d9 (some (a++⟨xn,xl⟩::r))))::(.one (ii (a++(⟨xn,xl⟩:Column)::r).length))::(.one (ii a.length))::j 21::j 22::j 23::j 24::j 25::j 26::j 27::j 28::j 29::j 30::j 31::j 32::j 33::j 34::j 35::(.one (sl 4 c9 xl))::(.one (ii (ls xl).length))::(.one (ii a2.length))::j 39::j 40::j 41::j 42::j 43::j 44::j 45::j 46::j 47::j 48::j 49::j 50::j 51::j 52::[])∧WS h q h2 p (A++(D5 xn++(u8 (ls xl).length::a2.flatMap a0t))) []) ?_ ?_ _ _ ?_
  rotate_left 2
  ·exact Y6 (by simp) (by simpa using hwsB)
  clear hwsB
  ·rintro a2 x r2 fr h2 hll ⟨j2,rfl,ws2⟩
   have hxb:=hx3 x (by simp only;rw [hll];simp)
   simp only [List.length_append] at hx2
   obtain rfl:=S7 hll
   have hi2:=J8 (P:=Tryz.prog) (enc:=c9) (s:=4) (l:=a2++x::r2) (i:=a2.length) Tryz.underlying89 (by simp) (by omega) (by simp)
   have hr2:=I4 (enc:=c9) (s:=4) C9 a2 x r2 (o:=0) (n:=4) (by omega)
   simp only [Nat.add_zero,J2 (C9 _)] at hr2
   obtain ⟨xt,⟨xv_kind,xv_b,xv_n⟩⟩:=x
   simp only [c9] at hr2
   have hw2:IntKind.i64.wrap ((a2.length:Int) + 1) = ((a2.length:Int) + 1):=F0 (by simp at hx2;omega)
   simp only [I6,List.flatMap_append,List.flatMap_cons,List.length_append,a0t,b0m,d0] at hl
   have hl3:A.length + (4 + xn.length) + 1 + (a2.flatMap a0t).length + 8 + (a0v ⟨xv_kind,xv_b,xv_n⟩).length ≤ 1099511627776:=by
    have e:(a2.flatMap a0t).length = (a2.flatMap fun x=>be 8 (u64 x.time)++a0v x.v).length:=rfl
    omega
   simp only [I6] at ws2 ⊢
   obtain ⟨B,hB⟩:∃ B,A++(D5 xn++(u8 (a2++(⟨xt,⟨xv_kind,xv_b,xv_n⟩⟩:Version)::r2).length::a2.flatMap a0t)) = B:=⟨_,rfl⟩
   have hBl:B.length = A.length + (4 + xn.length) + 1 + (a2.flatMap a0t).length:=by rw [← hB];simp only [D5,d0,List.length_append,List.length_cons];omega
   have hB2:A++(D5 xn++(u8 (a2++(⟨xt,⟨xv_kind,xv_b,xv_n⟩⟩:Version)::r2).length::(a2++[(⟨xt,⟨xv_kind,xv_b,xv_n⟩⟩:Version)]).flatMap a0t)) = B++(b0m xt++a0v ⟨xv_kind,xv_b,xv_n⟩):=by
    rw [← hB];simp [a0t]
   rw [hB] at ws2
   rw [hB2]
   have hk:=True.intro
   have ws:=ws2
   clear hl
   have hl:B.length + (8 + (a0v ⟨xv_kind,xv_b,xv_n⟩).length) ≤ 1099511627776:=by omega
   first | (refine hide ?_;intro Q7 hQ7) | have hQ7:=True.intro
   repeat' (first
    | (replace hQ7:=hQ7;simp [hi2,hr2,A6])
    | (refine hQ7 _ _ _ ?_;clear hQ7 Q7;first | simp only [] | simp [hi2,hr2,hw2,A6,b0d,hk] | skip)
    | (refine D3 (by assumption) ?_;(try clear hQ7);first | simp only [] | simp [hi2,hr2,hw2,A6,b0d,hk] | skip)
    | ((fail_if_success replace hQ7:=hQ7);(first | refine hide ?_ | refine u6 ?_ | refine u7 ?_);intro Q7 hQ7)
    | ((with_reducible refine O1 ?_);first
     | (refine C5 (x0O _) (by first | assumption | exact WS.new (by assumption) _ | exact WS.new (WS.new (by assumption) _) _) (by first | (simp only [List.length_append,d0,b0m];omega) | exact hl | omega | (simp only [List.length_append] at hl ⊢;omega) | (simp at hl ⊢;omega)) ?_;clear hk;intro h' ws' hk;(try simp only [H9,and_true] at hk);(first | (have hk:=hk;skip) | have hk:=True.intro);(try simp [hk]))
     | (refine C5 (D0D xv_kind xv_b xv_n hxb) (by first | assumption | exact WS.new (by assumption) _ | exact WS.new (WS.new (by assumption) _) _) (by first | (simp only [List.length_append,d0,b0m];omega) | exact hl | omega | (simp only [List.length_append,List.length_cons,List.length_nil,d0] at hl ⊢;omega) | (simp at hl ⊢;omega)) ?_;clear hk;intro h' ws' hk;(try simp only [H9,and_true] at hk);(first | (have hk:=hk;skip) | have hk:=True.intro);(try simp [hw2]))
     | (refine N0 (by first | assumption | omega) (by first | assumption | exact WS.new (by assumption) _ | exact WS.new (WS.new (by assumption) _) _) (by first | (simp only [List.length_append,List.length_cons,List.length_nil,d0,D5,J9,O3,b0m];omega) | exact hl | omega | (simp only [List.length_append,List.length_cons,List.length_nil,d0] at hl ⊢;omega) | (simp at hl ⊢;omega)) (by first | rfl | simp) ?_;clear hk;intro h' ws' hk;(try simp only [H9,and_true,A0] at hk);(first | (have hk:=hk;skip) | have hk:=True.intro);(try simp [hi2,hr2,hw2,A6,b0d,hk])))
    | (first | apply cF | apply wN | apply wS) <;> intro hcnd <;> (try simp only [hcnd]) <;> (try simp [-List.isEmpty_iff,-List.isEmpty_eq_false_iff] at hcnd))
   all_goals first | omega | (refine Y6 (by simp) ?_;have:=ws'.drop;simpa [List.append_assoc] using this)
  ·rintro fr h2 ⟨j2,rfl,ws2⟩
   have hk:=True.intro
   have ws':=ws2
   first | (refine hide ?_;intro Q8 hQ8) | have hQ8:=True.intro
   repeat' (first
    | (replace hQ8:=hQ8;simp [hw])
    | (refine hQ8 _ _ _ ?_;clear hQ8 Q8;first | simp only [] | simp [hw,hk] | skip)
    | (refine D3 (by assumption) ?_;(try clear hQ8);first | simp only [] | simp [hw,hk] | skip)
    | ((fail_if_success replace hQ8:=hQ8);(first | refine hide ?_ | refine u6 ?_ | refine u7 ?_);intro Q8 hQ8)
    | ((with_reducible refine O1 ?_);first
     | (refine C5 (b0v 0) (by first | assumption | exact WS.new (by assumption) _ | exact WS.new (WS.new (by assumption) _) _) (by first | (simp only [List.length_append,List.length_cons,List.length_nil,d0,D5,J9,O3,b0m];omega) | exact hl | omega | (simp only [List.length_append,List.length_cons,List.length_nil,d0] at hl ⊢;omega) | (simp at hl ⊢;omega)) ?_;clear hk;intro h' ws' hk;(try simp only [H9,and_true,A0] at hk);(first | (have hk:=hk;skip) | have hk:=True.intro);(try simp [hw,hk]))
     | (refine N0 (by first | assumption | omega) (by first | assumption | exact WS.new (by assumption) _ | exact WS.new (WS.new (by assumption) _) _) (by first | (simp only [List.length_append,List.length_cons,List.length_nil,d0,D5,J9,O3,b0m];omega) | exact hl | omega | (simp only [List.length_append,List.length_cons,List.length_nil,d0] at hl ⊢;omega) | (simp at hl ⊢;omega)) (by first | rfl | simp) ?_;clear hk;intro h' ws' hk;(try simp only [H9,and_true,A0] at hk);(first | (have hk:=hk;skip) | have hk:=True.intro);(try simp [hw,hk])))
    | (first | apply cF | apply wN | apply wS) <;> intro hcnd <;> (try simp only [hcnd]) <;> (try simp [-List.isEmpty_iff,-List.isEmpty_eq_false_iff] at hcnd))
   refine Y6 (by simp) ?_
   simpa [List.append_assoc] using ws'
 ·rintro fr hh ⟨j,rfl,ws⟩
  have hk:=True.intro
  have ws':=ws
  first | (refine hide ?_;intro Q9 hQ9) | have hQ9:=True.intro
  repeat' (first
   | (replace hQ9:=hQ9;simp [hk])
   | (refine hQ9 _ _ _ ?_;clear hQ9 Q9;first | simp only [] | simp [hk] | skip)
   | (refine D3 (by assumption) ?_;(try clear hQ9);first | simp only [] | simp [hk] | skip)
   | ((fail_if_success replace hQ9:=hQ9);(first | refine hide ?_ | refine u6 ?_ | refine u7 ?_);intro Q9 hQ9)
   | ((with_reducible refine O1 ?_);first
    | (refine C5 (b0v 0) (by first | assumption | exact WS.new (by assumption) _ | exact WS.new (WS.new (by assumption) _) _) (by first | (simp only [List.length_append,List.length_cons,List.length_nil,d0,D5,J9,O3,b0m];omega) | exact hl | omega | (simp only [List.length_append,List.length_cons,List.length_nil,d0] at hl ⊢;omega) | (simp at hl ⊢;omega)) ?_;clear hk;intro h' ws' hk;(try simp only [H9,and_true,A0] at hk);(first | (have hk:=hk;skip) | have hk:=True.intro);(try simp [hk]))
    | (refine N0 (by first | assumption | omega) (by first | assumption | exact WS.new (by assumption) _ | exact WS.new (WS.new (by assumption) _) _) (by first | (simp only [List.length_append,List.length_cons,List.length_nil,d0,D5,J9,O3,b0m];omega) | exact hl | omega | (simp only [List.length_append,List.length_cons,List.length_nil,d0] at hl ⊢;omega) | (simp at hl ⊢;omega)) (by first | rfl | simp) ?_;clear hk;intro h' ws' hk;(try simp only [H9,and_true,A0] at hk);(first | (have hk:=hk;skip) | have hk:=True.intro);(try simp [hk])))
   | (first | apply cF | apply wN | apply wS) <;> intro hcnd <;> (try simp only [hcnd]) <;> (try simp [-List.isEmpty_iff,-List.isEmpty_eq_false_iff] at hcnd))
  exact ⟨_,ws'⟩
theorem w0c {h0 h:H} {q0:Option Nat} {p:Nat} {l:BL} {kept:List (Nat × Blk)} (w:WS h0 q0 h p l kept) {b:Nat} {k:Blk} (hf:h.f b = some k) (hb:b < h0.next) (hp:b ≠ p) (hq:q0 ≠ some b):WS h0 q0 h p l ((b,k)::kept):=by
 obtain ⟨q,w,g,hk,hd⟩:=w
 refine ⟨q,w,g,⟨hf,hk⟩,fun e he=>?_⟩
 rcases List.mem_cons.1 he with rfl | he
 ·refine ⟨Nat.lt_of_lt_of_le hb g.next,hp, ?_⟩
  rcases g.own with e | ⟨x,e,hx⟩
  ·rw [e];exact hq
  ·rw [e];intro hc;cases hc;omega
 ·exact hd e he
theorem r0B {h0 h:H} {q0:Option Nat} {p:Nat} {l:BL} {kept:List (Nat × Blk)} (w:WS h0 q0 h p l kept) {b:Nat} (hb:b < h0.next) (hp:b ≠ p) (hq:q0 ≠ some b):h.f b = h0.f b:=by
 obtain ⟨q,_,g,_⟩:=w;exact g.keep b hb hp hq
structure Apart (t:Nat) (tq:Option Nat) (p:Nat) (q:Option Nat):Prop where
 tp:t ≠ p
 qt:q ≠ some t
 bp:tq ≠ some p
 qb:∀ b,tq = some b→q ≠ some b
theorem m0l {K:Conf} {f:Nat} {args:List AV} {h:H} {p:Nat} {q:Option Nat} {x:BL} (hh:∃ r,W K f args h = some r∧∃ h' kept,r = .ret (.tup []) h'∧WS h q h' p x kept):∃ h' q',W K f args h = some (.ret (.tup []) h')∧Wr h' p q' x∧Only h h' p q q':=by
 obtain ⟨r,e,h',kept,rfl,q',w',g',_⟩:=hh
 exact ⟨h',q',e,w',g'⟩
theorem B0g {h:H} {p t:Nat} {q tq:Option Nat} {l:BL} {tl:List Named} (w:Wr h p q l) (bx:Bx h t 2 c8 tl tq) (ok:TblOk tl) (ha:Apart t tq p q) (hl:l.length + (l0P tl).length ≤ 1099511627776) :
  ∃ h' q',W K 100 [.one (.ptr t 0 0),.one (.ptr p 0 0)] h = some (.ret (.tup []) h')∧Wr h' p q' (l++l0P tl)∧Only h h' p q q':=by
 refine m0l ?_
 have hlen:=ok.len
 have hcl:=t9 A7 tl
 obtain ⟨w1,s,w2,w3,w4,w5⟩:=bx
 have hs:=w3.sees A7
 have hla:∀ (u:TypeId) (h':H),P6 s (some (.slice u)) h' = some (one (ii tl.length) h'):=fun u h'=>P3 h' u hs (by omega) hcl
 have ws:=w0c (WS.start w) w2 w1 ha.tp ha.qt
 have hk:=w2
 simp only [l0P] at hl ⊢
 have hl0:l.length + (4 + (tl.flatMap I8).length) ≤ 1099511627776:=by simp only [List.length_append,O3,d0] at hl;omega
 refine J6 hp rfl rfl rfl Tryz.func100 rfl (by simp [Tryz.f100]) ?_
 simp only [Tryz.f100]
 first | (refine hide ?_;intro Q1 hQ1) | have hQ1:=True.intro
 repeat' (first
  | (replace hQ1:=hQ1;simp [hla,A6,hk])
  | (refine hQ1 _ _ _ ?_;clear hQ1 Q1;first | simp only [] | simp [hla,A6,hk] | skip)
  | (refine D3 (by assumption) ?_;(try clear hQ1);first | simp only [] | simp [hla,A6,hk] | skip)
  | ((fail_if_success replace hQ1:=hQ1);(first | refine hide ?_ | refine u6 ?_ | refine u7 ?_);intro Q1 hQ1)
  | ((with_reducible refine O1 ?_);first
   | (refine C5 (k0f _) (by first | assumption | exact WS.new (by assumption) _ | exact WS.new (WS.new (by assumption) _) _) (by first | (simp only [d0,O3];omega) | exact hl | omega | (simp only [List.length_append,List.length_cons,List.length_nil,d0] at hl ⊢;omega) | (simp at hl ⊢;omega)) ?_;clear hk;intro h' ws' hk;(try simp only [H9,and_true] at hk);(first | (have hk:=hk;skip) | have hk:=True.intro);(try simp [hla,hk]))
   | (refine N0 (by first | assumption | omega) (by first | assumption | exact WS.new (by assumption) _ | exact WS.new (WS.new (by assumption) _) _) (by first | (simp only [List.length_append,List.length_cons,List.length_nil,d0,D5,J9,O3,b0m];omega) | exact hl | omega | (simp only [List.length_append,List.length_cons,List.length_nil,d0] at hl ⊢;omega) | (simp at hl ⊢;omega)) (by first | rfl | simp) ?_;clear hk;intro h' ws' hk;(try simp only [H9,and_true,A0] at hk);(first | (have hk:=hk;skip) | have hk:=True.intro);(try simp [hla,A6,hk]))))
 refine F5 hp tl (fun a r fr hh=>∃ j:Nat→AV,fr = (j 0::(.one (.ptr p 0 0))::j 2::j 3::j 4::j 5::j 6::j 7::j 8::j 9::j 10::j 11::j 12::j 13::j 14::j 15::j 16::(.one s)::(.one (ii tl.length))::(.one (ii a.length))::j 20::j 21::j 22::j 23::j 24::j 25::j 26::j 27::j 28::j 29::j 30::j 31::j 32::[])∧WS h q hh p (l++(O3 tl.length++a.flatMap I8)) []) ?_ ?_ _ _ ?_
 rotate_left 2
 ·exact Y6 (by simp) (by have:=ws'.drop;simpa [List.append_assoc] using this)
 clear hk ws'
 ·rintro a x r fr hh hll ⟨j,rfl,ws⟩
  have hil:a.length < tl.length:=by rw [hll];simp
  have hxe:tl[a.length] = x:=by simp only [hll];simp
  have hxm:x ∈ tl:=by rw [hll];simp
  have hsee:Sees hh 2 s (cat c8 tl):=Rw.sees_keep hs fun b hb=>r0B ws (w3.lt hb) (fun e=>ha.bp (by rw [← w4,hb,e])) (ha.qb b (by rw [← w4,hb]))
  have hix:U0 Tryz.prog 48 s a.length = some (atS 2 s a.length):=V9 Tryz.underlying48 (by simp) hsee (by omega) hcl hil
  have hrd:I5 hh (atS 2 s a.length) 2 = some (c8 x):=by rw [X9 hsee (by omega) hcl hil,c0r A7 _ hil,hxe]
  have hw:IntKind.i64.wrap ((a.length:Int) + 1) = (a.length:Int) + 1:=F0 (by omega)
  have hx1:x.name.length ≤ 1048576:=by have:=ok.nm x hxm;simp only [J4,Bool.and_eq_true,decide_eq_true_eq] at this;omega
  have hx2:=o0u ok hxm
  have hlf:(tl.flatMap I8).length = (a.flatMap I8).length + ((I8 x).length + (r.flatMap I8).length):=by rw [hll];simp only [List.flatMap_append,List.flatMap_cons,List.length_append]
  obtain ⟨xn,xr⟩:=x
  simp only [c8] at hrd
  simp only at hx1 hx2
  obtain ⟨A,hA⟩:∃ A,l++(O3 tl.length++a.flatMap I8) = A:=⟨_,rfl⟩
  have hAl:A.length = l.length + (4 + (a.flatMap I8).length):=by rw [← hA];simp only [List.length_append,O3,d0]
  have hA2:l++(O3 tl.length++(a++[(⟨xn,xr⟩:Named)]).flatMap I8) = A++(D5 xn++g0c xr):=by rw [← hA];simp [I8]
  rw [hA] at ws
  rw [hA2]
  have hk:=True.intro
  clear hl
  have hl:A.length + (4 + xn.length + (g0c xr).length) ≤ 1099511627776:=by
   simp only [I8,D5,List.length_append,d0] at hlf;omega
  first | (refine hide ?_;intro Q2 hQ2) | have hQ2:=True.intro
  repeat' (first
   | (replace hQ2:=hQ2;simp [hix,hrd,hil,A6,S9,b0B hx1])
   | (refine hQ2 _ _ _ ?_;clear hQ2 Q2;first | simp only [] | simp [hix,hrd,hil,hw,A6,S9,b0B hx1,hk] | skip)
   | (refine D3 (by assumption) ?_;(try clear hQ2);first | simp only [] | simp [hix,hrd,hil,hw,A6,S9,b0B hx1,hk] | skip)
   | ((fail_if_success replace hQ2:=hQ2);(first | refine hide ?_ | refine u6 ?_ | refine u7 ?_);intro Q2 hQ2)
   | ((with_reducible refine O1 ?_);first
    | (refine C5 (z0z xr hx2) (by first | assumption | exact WS.new (by assumption) _ | exact WS.new (WS.new (by assumption) _) _) (by first | (simp only [List.length_append,d0,D5];omega) | exact hl | omega | (simp only [List.length_append,List.length_cons,List.length_nil,d0] at hl ⊢;omega) | (simp at hl ⊢;omega)) ?_;clear hk;intro h' ws' hk;(try simp only [H9,and_true] at hk);(first | (have hk:=hk;skip) | have hk:=True.intro);(try simp [hw]))
    | (refine N0 (by first | assumption | omega) (by first | assumption | exact WS.new (by assumption) _ | exact WS.new (WS.new (by assumption) _) _) (by first | (simp only [List.length_append,d0,D5];omega) | exact hl | omega | (simp only [List.length_append,List.length_cons,List.length_nil,d0] at hl ⊢;omega) | (simp at hl ⊢;omega)) (by first | rfl | simp) ?_;clear hk;intro h' ws' hk;(try simp only [H9,and_true] at hk);(first | (have hk:=hk;skip) | have hk:=True.intro);(try simp [hk]))))
  all_goals first | omega | (refine Y6 (by simp) ?_;have:=ws'.drop;simpa [List.append_assoc] using this)
 ·rintro fr hh ⟨j,rfl,ws⟩
  have hk:=True.intro
  have ws':=ws
  first | (refine hide ?_;intro Q3 hQ3) | have hQ3:=True.intro
  repeat' (first
   | (replace hQ3:=hQ3;simp [hk])
   | (refine hQ3 _ _ _ ?_;clear hQ3 Q3;first | simp only [] | simp [hk] | skip)
   | (refine D3 (by assumption) ?_;(try clear hQ3);first | simp only [] | simp [hk] | skip)
   | ((fail_if_success replace hQ3:=hQ3);(first | refine hide ?_ | refine u6 ?_ | refine u7 ?_);intro Q3 hQ3)
   | ((with_reducible refine O1 ?_);first
    | (refine C5 (b0v 0) (by first | assumption | exact WS.new (by assumption) _ | exact WS.new (WS.new (by assumption) _) _) (by first | (simp only [List.length_append,List.length_cons,List.length_nil,d0,D5,J9,O3,b0m];omega) | exact hl | omega | (simp only [List.length_append,List.length_cons,List.length_nil,d0] at hl ⊢;omega) | (simp at hl ⊢;omega)) ?_;clear hk;intro h' ws' hk;(try simp only [H9,and_true,A0] at hk);(first | (have hk:=hk;skip) | have hk:=True.intro);(try simp [hk]))
    | (refine N0 (by first | assumption | omega) (by first | assumption | exact WS.new (by assumption) _ | exact WS.new (WS.new (by assumption) _) _) (by first | (simp only [List.length_append,List.length_cons,List.length_nil,d0,D5,J9,O3,b0m];omega) | exact hl | omega | (simp only [List.length_append,List.length_cons,List.length_nil,d0] at hl ⊢;omega) | (simp at hl ⊢;omega)) (by first | rfl | simp) ?_;clear hk;intro h' ws' hk;(try simp only [H9,and_true,A0] at hk);(first | (have hk:=hk;skip) | have hk:=True.intro);(try simp [hk]))))
  exact ⟨_,ws'⟩
theorem B0J {h:H} {p t:Nat} {q tq:Option Nat} {l:BL} {tl:List Tld} (w:Wr h p q l) (bx:Bx h t 3 J7 tl tq) (ok:CchOk tl) (ha:Apart t tq p q) (hl:l.length + (l0p tl).length ≤ 1099511627776) :
  ∃ h' q',W K 101 [.one (.ptr t 0 0),.one (.ptr p 0 0)] h = some (.ret (.tup []) h')∧Wr h' p q' (l++l0p tl)∧Only h h' p q q':=by
 refine m0l ?_
 have hlen:=ok.len
 have hcl:=t9 b0f tl
 obtain ⟨w1,s,w2,w3,w4,w5⟩:=bx
 have hs:=w3.sees b0f
 have hla:∀ (u:TypeId) (h':H),P6 s (some (.slice u)) h' = some (one (ii tl.length) h'):=fun u h'=>P3 h' u hs (by omega) hcl
 have ws:=w0c (WS.start w) w2 w1 ha.tp ha.qt
 have hk:=w2
 simp only [l0p] at hl ⊢
 have hl0:l.length + (4 + (tl.flatMap c0N).length) ≤ 1099511627776:=by simp only [List.length_append,O3,d0] at hl;omega
 refine J6 hp rfl rfl rfl Tryz.func101 rfl (by simp [Tryz.f101]) ?_
 simp only [Tryz.f101]
 first | (refine hide ?_;intro Q4 hQ4) | have hQ4:=True.intro
 repeat' (first
  | (replace hQ4:=hQ4;simp [hla,A6,hk])
  | (refine hQ4 _ _ _ ?_;clear hQ4 Q4;first | simp only [] | simp [hla,A6,hk] | skip)
  | (refine D3 (by assumption) ?_;(try clear hQ4);first | simp only [] | simp [hla,A6,hk] | skip)
  | ((fail_if_success replace hQ4:=hQ4);(first | refine hide ?_ | refine u6 ?_ | refine u7 ?_);intro Q4 hQ4)
  | ((with_reducible refine O1 ?_);first
   | (refine C5 (k0f _) (by first | assumption | exact WS.new (by assumption) _ | exact WS.new (WS.new (by assumption) _) _) (by first | (simp only [d0,O3];omega) | exact hl | omega | (simp only [List.length_append,List.length_cons,List.length_nil,d0] at hl ⊢;omega) | (simp at hl ⊢;omega)) ?_;clear hk;intro h' ws' hk;(try simp only [H9,and_true] at hk);(first | (have hk:=hk;skip) | have hk:=True.intro);(try simp [hla,hk]))
   | (refine N0 (by first | assumption | omega) (by first | assumption | exact WS.new (by assumption) _ | exact WS.new (WS.new (by assumption) _) _) (by first | (simp only [List.length_append,List.length_cons,List.length_nil,d0,D5,J9,O3,b0m];omega) | exact hl | omega | (simp only [List.length_append,List.length_cons,List.length_nil,d0] at hl ⊢;omega) | (simp at hl ⊢;omega)) (by first | rfl | simp) ?_;clear hk;intro h' ws' hk;(try simp only [H9,and_true,A0] at hk);(first | (have hk:=hk;skip) | have hk:=True.intro);(try simp [hla,A6,hk]))))
 refine F5 hp tl (fun a r fr hh=>∃ j:Nat→AV,fr = (j 0::(.one (.ptr p 0 0))::j 2::j 3::j 4::j 5::j 6::j 7::j 8::j 9::j 10::j 11::j 12::j 13::j 14::j 15::j 16::(.one s)::(.one (ii tl.length))::(.one (ii a.length))::j 20::j 21::j 22::j 23::j 24::j 25::j 26::j 27::j 28::j 29::j 30::j 31::j 32::j 33::j 34::j 35::j 36::j 37::[])∧WS h q hh p (l++(O3 tl.length++a.flatMap c0N)) []) ?_ ?_ _ _ ?_
 rotate_left 2
 ·exact Y6 (by simp) (by have:=ws'.drop;simpa [List.append_assoc] using this)
 clear hk ws'
 ·rintro a x r fr hh hll ⟨j,rfl,ws⟩
  have hil:a.length < tl.length:=by rw [hll];simp
  have hxe:tl[a.length] = x:=by simp only [hll];simp
  have hxm:x ∈ tl:=by rw [hll];simp
  have hsee:Sees hh 3 s (cat J7 tl):=Rw.sees_keep hs fun b hb=>r0B ws (w3.lt hb) (fun e=>ha.bp (by rw [← w4,hb,e])) (ha.qb b (by rw [← w4,hb]))
  have hix:U0 Tryz.prog 143 s a.length = some (atS 3 s a.length):=V9 Tryz.underlying143 (by simp) hsee (by omega) hcl hil
  have hrd:I5 hh (atS 3 s a.length) 3 = some (J7 x):=by rw [X9 hsee (by omega) hcl hil,c0r b0f _ hil,hxe]
  have hw:IntKind.i64.wrap ((a.length:Int) + 1) = (a.length:Int) + 1:=F0 (by omega)
  have hx1:=(b0u (ok.ok x hxm)).2.2.2.2
  have hlf:(tl.flatMap c0N).length = (a.flatMap c0N).length + ((c0N x).length + (r.flatMap c0N).length):=by rw [hll];simp only [List.flatMap_append,List.flatMap_cons,List.length_append]
  obtain ⟨xc,xs,xb⟩:=x
  simp only [J7] at hrd
  simp only at hx1
  obtain ⟨A,hA⟩:∃ A,l++(O3 tl.length++a.flatMap c0N) = A:=⟨_,rfl⟩
  have hAl:A.length = l.length + (4 + (a.flatMap c0N).length):=by rw [← hA];simp only [List.length_append,O3,d0]
  have hA2:l++(O3 tl.length++(a++[(⟨xc,xs,xb⟩:Tld)]).flatMap c0N) = A++(u8 xc::(O3 xs++D5 (ls xb))):=by rw [← hA];simp [c0N]
  rw [hA] at ws
  rw [hA2]
  have hk:=True.intro
  clear hl
  have hl:A.length + (1 + 4 + (4 + (ls xb).length)) ≤ 1099511627776:=by
   simp only [c0N,D5,O3,List.length_append,List.length_cons,d0] at hlf;omega
  first | (refine hide ?_;intro Q5 hQ5) | have hQ5:=True.intro
  repeat' (first
   | (replace hQ5:=hQ5;simp [hix,hrd,hil,A6,b0d])
   | (refine hQ5 _ _ _ ?_;clear hQ5 Q5;first | simp only [] | simp [hix,hrd,hil,hw,A6,b0d,hk] | skip)
   | (refine D3 (by assumption) ?_;(try clear hQ5);first | simp only [] | simp [hix,hrd,hil,hw,A6,b0d,hk] | skip)
   | ((fail_if_success replace hQ5:=hQ5);(first | refine hide ?_ | refine u6 ?_ | refine u7 ?_);intro Q5 hQ5)
   | ((with_reducible refine O1 ?_);first
    | (refine C5 (b0v _) (by first | assumption | exact WS.new (by assumption) _ | exact WS.new (WS.new (by assumption) _) _) (by first | (simp only [List.length_append,List.length_cons,List.length_nil,d0,O3];omega) | exact hl | omega | (simp only [List.length_append,List.length_cons,List.length_nil,d0] at hl ⊢;omega) | (simp at hl ⊢;omega)) ?_;clear hk;intro h' ws' hk;(try simp only [H9,and_true] at hk);(first | (have hk:=hk;skip) | have hk:=True.intro);(try simp [A6,hk]))
    | (refine C5 (k0f _) (by first | assumption | exact WS.new (by assumption) _ | exact WS.new (WS.new (by assumption) _) _) (by first | (simp only [List.length_append,List.length_cons,List.length_nil,d0,O3];omega) | exact hl | omega | (simp only [List.length_append,List.length_cons,List.length_nil,d0] at hl ⊢;omega) | (simp at hl ⊢;omega)) ?_;clear hk;intro h' ws' hk;(try simp only [H9,and_true] at hk);(first | (have hk:=hk;skip) | have hk:=True.intro);(try simp [hk]))
    | (refine C5 (q0w xb hx1) (by first | assumption | exact WS.new (by assumption) _ | exact WS.new (WS.new (by assumption) _) _) (by first | (simp only [List.length_append,List.length_cons,List.length_nil,d0,D5,O3];omega) | exact hl | omega | (simp only [List.length_append,List.length_cons,List.length_nil,d0] at hl ⊢;omega) | (simp at hl ⊢;omega)) ?_;clear hk;intro h' ws' hk;(try simp only [H9,and_true] at hk);(first | (have hk:=hk;skip) | have hk:=True.intro);(try simp [hw]))
    | (refine N0 (by first | assumption | omega) (by first | assumption | exact WS.new (by assumption) _ | exact WS.new (WS.new (by assumption) _) _) (by first | (simp only [List.length_append,List.length_cons,List.length_nil,d0,D5,J9,O3,b0m];omega) | exact hl | omega | (simp only [List.length_append,List.length_cons,List.length_nil,d0] at hl ⊢;omega) | (simp at hl ⊢;omega)) (by first | rfl | simp) ?_;clear hk;intro h' ws' hk;(try simp only [H9,and_true,A0] at hk);(first | (have hk:=hk;skip) | have hk:=True.intro);(try simp [hix,hrd,hil,hw,A6,b0d,hk]))))
  all_goals first | omega | (refine Y6 (by simp) ?_;have:=ws'.drop;simpa [List.append_assoc] using this)
 ·rintro fr hh ⟨j,rfl,ws⟩
  have hk:=True.intro
  have ws':=ws
  first | (refine hide ?_;intro Q6 hQ6) | have hQ6:=True.intro
  repeat' (first
   | (replace hQ6:=hQ6;simp [hk])
   | (refine hQ6 _ _ _ ?_;clear hQ6 Q6;first | simp only [] | simp [hk] | skip)
   | (refine D3 (by assumption) ?_;(try clear hQ6);first | simp only [] | simp [hk] | skip)
   | ((fail_if_success replace hQ6:=hQ6);(first | refine hide ?_ | refine u6 ?_ | refine u7 ?_);intro Q6 hQ6)
   | ((with_reducible refine O1 ?_);first
    | (refine C5 (b0v 0) (by first | assumption | exact WS.new (by assumption) _ | exact WS.new (WS.new (by assumption) _) _) (by first | (simp only [List.length_append,List.length_cons,List.length_nil,d0,D5,J9,O3,b0m];omega) | exact hl | omega | (simp only [List.length_append,List.length_cons,List.length_nil,d0] at hl ⊢;omega) | (simp at hl ⊢;omega)) ?_;clear hk;intro h' ws' hk;(try simp only [H9,and_true,A0] at hk);(first | (have hk:=hk;skip) | have hk:=True.intro);(try simp [hk]))
    | (refine N0 (by first | assumption | omega) (by first | assumption | exact WS.new (by assumption) _ | exact WS.new (WS.new (by assumption) _) _) (by first | (simp only [List.length_append,List.length_cons,List.length_nil,d0,D5,J9,O3,b0m];omega) | exact hl | omega | (simp only [List.length_append,List.length_cons,List.length_nil,d0] at hl ⊢;omega) | (simp at hl ⊢;omega)) (by first | rfl | simp) ?_;clear hk;intro h' ws' hk;(try simp only [H9,and_true,A0] at hk);(first | (have hk:=hk;skip) | have hk:=True.intro);(try simp [hk]))))
  exact ⟨_,ws'⟩
end Go.Proofs.YtiagcnfmgigllaaGreat
