/- A part of a proof over the abstract machine. No conditions. -/
import Derived.Test.YtiagcnfmgigllaaGreatT6
set_option linter.all false
namespace Go.Proofs.YtiagcnfmgigllaaGreat
open Go Go.Ab Wm NumPlain Go.Proofs.Tryz
set_option maxRecDepth 10000
set_option maxHeartbeats 4000000
theorem F0L (B7:Int) (v_b:Option BL) (v_n:Nat) (hb:B7 = 1→(ls v_b).length ≤ 1048576):a0Q K 174 [.agg [ii B7,bs v_b,.flt v_n]] (.tup []) (a0r ⟨B7,v_b,v_n⟩):=by
 by_cases h1:B7 = 1
 ·have hb:=hb h1
  simp only [a0r,h1,if_true]
  refine Y7 fun h p q l w hl=>?_
  have hk:=oqk
  have ws:=WS.start w
  refine H6 hp rfl rfl rfl func174 rfl (by simp [Tryz.f174]) ?_
  simp only [Tryz.f174]
  refine c7 ?_;intro Q1 hQ1
  repeat' (first
   | (replace hQ1:=hQ1;simp [h1])
   | refine hQ1 _ _ _ ?_
   | ((with_reducible refine N0 ?_);first
    | (refine B9 (b0f 1) (by first | assumption | exact WS.new (by assumption) _ | exact WS.new (WS.new (by assumption) _) _) (by first | (simp only [oqa,oqb,oqc];omega) | exact hl | omega | (simp only [oqa,oqb,oqc] at hl ⊢;omega) | (simp at hl ⊢;omega)) ?_;clear hk;intro h' ws' hk;(try simp only [F6,and_true] at hk);(first | (have hk:=hk;skip) | have hk:=oqk);(try simp [hk]))
    | (refine B9 (p0R v_b hb) (by first | assumption | exact WS.new (by assumption) _ | exact WS.new (WS.new (by assumption) _) _) (by first | (simp only [oqa,oqb,oqc,g9,D7];omega) | exact hl | omega | (simp only [oqa,oqb,oqc] at hl ⊢;omega) | (simp at hl ⊢;omega)) ?_;clear hk;intro h' ws' hk;(try simp only [F6,and_true] at hk);(first | (have hk:=hk;skip) | have hk:=oqk);(try simp [h1]))
    | (refine L8 (by first | assumption | omega) (by first | assumption | exact WS.new (by assumption) _ | exact WS.new (WS.new (by assumption) _) _) (by first | (simp only [oqa,oqb,oqc,g9,D7,I9,L7,a0Z];omega) | exact hl | omega | (simp only [oqa,oqb,oqc,g9] at hl ⊢;omega) | (simp at hl ⊢;omega)) (by first | rfl | simp) ?_;clear hk;intro h' ws' hk;(try simp only [F6,and_true,A1] at hk);(first | (have hk:=hk;skip) | have hk:=oqk);(try simp [h1,hk])))
   | (first | apply cF | apply wN | apply wS) <;> intro hcnd <;> (try simp only [hcnd]) <;> (try simp [-List.isEmpty_iff,-List.isEmpty_eq_false_iff] at hcnd))
  all_goals first | omega | (simp;exact ⟨_,by simpa [oqh] using ws'⟩) | exact ⟨_,by simpa [oqh] using ws'⟩ | skip
 ·by_cases h2:B7 = 2
  ·subst h2;simp only [a0r,Int.reduceEq,if_true,if_false]
   refine Y7 fun h p q l w hl=>?_
   have hk:=oqk
   have ws:=WS.start w
   refine H6 hp rfl rfl rfl func174 rfl (by simp [Tryz.f174]) ?_
   simp only [Tryz.f174]
   refine c7 ?_;intro Q2 hQ2
   repeat' (first
    | (replace hQ2:=hQ2;simp [hk])
    | refine hQ2 _ _ _ ?_
    | ((with_reducible refine N0 ?_);first
     | (refine B9 (b0f 2) (by first | assumption | exact WS.new (by assumption) _ | exact WS.new (WS.new (by assumption) _) _) (by first | (simp only [oqa,oqb,oqc];omega) | exact hl | omega | (simp only [oqa,oqb,oqc,g9] at hl ⊢;omega) | (simp at hl ⊢;omega)) ?_;clear hk;intro h' ws' hk;(try simp only [F6,and_true] at hk);(first | (have hk:=hk;skip) | have hk:=oqk);(try simp [hk]))
     | (refine B9 (z0s v_n) (by first | assumption | exact WS.new (by assumption) _ | exact WS.new (WS.new (by assumption) _) _) (by first | (simp only [oqa,oqb,oqc,g9];omega) | exact hl | omega | (simp only [oqa,oqb,oqc,g9] at hl ⊢;omega) | (simp at hl ⊢;omega)) ?_;clear hk;intro h' ws' hk;(try simp only [F6,and_true] at hk);(first | (have hk:=hk;skip) | have hk:=oqk);(try simp [hk]))
     | (refine L8 (by first | assumption | omega) (by first | assumption | exact WS.new (by assumption) _ | exact WS.new (WS.new (by assumption) _) _) (by first | (simp only [oqa,oqb,oqc,g9,D7,I9,L7,a0Z];omega) | exact hl | omega | (simp only [oqa,oqb,oqc,g9] at hl ⊢;omega) | (simp at hl ⊢;omega)) (by first | rfl | simp) ?_;clear hk;intro h' ws' hk;(try simp only [F6,and_true,A1] at hk);(first | (have hk:=hk;skip) | have hk:=oqk);(try simp [hk])))
    | (first | apply cF | apply wN | apply wS) <;> intro hcnd <;> (try simp only [hcnd]) <;> (try simp [-List.isEmpty_iff,-List.isEmpty_eq_false_iff] at hcnd))
   all_goals first | omega | (simp;exact ⟨_,by simpa [oqh] using ws'⟩) | exact ⟨_,by simpa [oqh] using ws'⟩ | skip
  ·simp only [a0r,h1,h2,if_false]
   refine Y7 fun h p q l w hl=>?_
   have hk:=oqk
   have ws:=WS.start w
   refine H6 hp rfl rfl rfl func174 rfl (by simp [Tryz.f174]) ?_
   simp only [Tryz.f174]
   refine c7 ?_;intro Q3 hQ3
   repeat' (first
    | (replace hQ3:=hQ3;simp [hk])
    | refine hQ3 _ _ _ ?_
    | ((with_reducible refine N0 ?_);first
     | (refine B9 (b0f 0) (by first | assumption | exact WS.new (by assumption) _ | exact WS.new (WS.new (by assumption) _) _) (by first | (simp only [oqb,oqc];omega) | exact hl | omega | (simp only [oqa,oqb,oqc,g9] at hl ⊢;omega) | (simp at hl ⊢;omega)) ?_;clear hk;intro h' ws' hk;(try simp only [F6,and_true] at hk);(first | (have hk:=hk;skip) | have hk:=oqk);(try simp [hk]))
     | (refine L8 (by first | assumption | omega) (by first | assumption | exact WS.new (by assumption) _ | exact WS.new (WS.new (by assumption) _) _) (by first | (simp only [oqa,g9,D7];omega) | exact hl | omega | (simp only [oqa,oqb,oqc,g9] at hl ⊢;omega) | (simp at hl ⊢;omega)) (by first | rfl | simp) ?_;clear hk;intro h' ws' hk;(try simp only [F6,and_true,A1] at hk);(first | (have hk:=hk;skip) | have hk:=oqk);(try simp [hk])))
    | (first | apply cF | apply wN | apply wS) <;> intro hcnd <;> (try simp only [hcnd]) <;> (try simp [-List.isEmpty_iff,-List.isEmpty_eq_false_iff] at hcnd))
   all_goals first | omega | (simp;exact ⟨_,by simpa [oqh] using ws'⟩) | exact ⟨_,by simpa [oqh] using ws'⟩ | skip
theorem v0q (lo hi:BL) (h1:lo.length ≤ 1048576) (h2:hi.length ≤ 1048576):a0Q K 99 [.agg [.str lo,.str hi]] (.tup []) (I9 ⟨lo,hi⟩):=by
 simp only [I9]
 refine Y7 fun h p q l w hl=>?_
 have hk:=oqk
 have ws:=WS.start w
 refine H6 hp rfl rfl rfl func99 rfl (by simp [Tryz.f99]) ?_
 simp only [Tryz.f99]
 refine c7 ?_;intro Q4 hQ4
 repeat' (first
  | (replace hQ4:=hQ4;simp [A5,R9,b0l h1])
  | refine hQ4 _ _ _ ?_
  | ((with_reducible refine N0 ?_);first
   | (refine B9 (b0f 0) (by first | assumption | exact WS.new (by assumption) _ | exact WS.new (WS.new (by assumption) _) _) (by first | (simp only [oqa,oqb,oqc,g9,D7];omega) | exact hl | omega | (simp only [oqa,oqb,oqc] at hl ⊢;omega) | (simp at hl ⊢;omega)) ?_;clear hk;intro h' ws' hk;(try simp only [F6,and_true,A1] at hk);(first | (have hk:=hk;skip) | have hk:=oqk);(try simp [A5,R9,b0l h1,b0l h2,hk]))
   | (refine L8 (by first | assumption | omega) (by first | assumption | exact WS.new (by assumption) _ | exact WS.new (WS.new (by assumption) _) _) (by first | (simp only [oqa,g9,D7];omega) | exact hl | omega | (simp only [oqa] at hl ⊢;omega) | (simp at hl ⊢;omega)) (by first | rfl | simp) ?_;clear hk;intro h' ws' hk;(try simp only [F6,and_true] at hk);(first | (have hk:=hk;skip) | have hk:=oqk);(try simp [A5,R9,b0l h2,hk]))))
 all_goals first | omega | (simp;exact ⟨_,by simpa [oqh] using ws'⟩) | exact ⟨_,by simpa [oqh] using ws'⟩ | skip
theorem P8 (h:H) (a k k':Blk):((h.new a).new k).set (h.next + 1) k' = (h.new a).new k':=n0D (h.new a) k k'
theorem A0z (o:Row) (ho:(ls o).length < 1000000):a0Q K 123 [.agg [sl 2 j9 o]] (.tup []) (g0a o):=by
 have hcp:=f0A o ho
 have hlim:=h0j (L5 o)
 simp only [D6] at hcp
 simp only [g0a,f0m]
 generalize rowCopy o = R at *
 obtain ⟨hR4,hR⟩:=hlim
 refine Y7 fun h p q l w hl=>?_
 have hk:=oqk
 have ws:=WS.start w
 refine H6 hp rfl rfl rfl func123 rfl (by simp [Tryz.f123]) ?_
 simp only [Tryz.f123]
 refine c7 ?_;intro Q5 hQ5
 repeat' (first
  | (replace hQ5:=hQ5;simp [A5,a0R,hcp,P8])
  | refine hQ5 _ _ _ ?_
  | ((with_reducible refine N0 ?_);first
   | (refine B9 (b0f _) (by first | assumption | exact WS.new (by assumption) _ | exact WS.new (WS.new (by assumption) _) _) (by first | (simp only [oqb,oqc];omega) | exact hl | omega | (simp only [oqb,oqc] at hl ⊢;omega) | (simp at hl ⊢;omega)) ?_;clear hk;intro h' ws' hk;(try simp only [F6,and_true,A1] at hk);(first | (have hk:=hk;skip) | have hk:=oqk);(try simp [hk]))
   | (refine L8 (by first | assumption | omega) (by first | assumption | exact WS.new (by assumption) _ | exact WS.new (WS.new (by assumption) _) _) (by first | (simp only [oqa,oqb,oqc,g9,D7,I9,L7,a0Z];omega) | exact hl | omega | (simp only [oqa,oqb,oqc,g9] at hl ⊢;omega) | (simp at hl ⊢;omega)) (by first | rfl | simp) ?_;clear hk;intro h' ws' hk;(try simp only [F6,and_true,A1] at hk);(first | (have hk:=hk;skip) | have hk:=oqk);(try simp [A5,a0R,hcp,P8,hk])))
  | (first | apply cF | apply wN | apply wS) <;> intro hcnd <;> (try simp only [hcnd]) <;> (try simp [-List.isEmpty_iff,-List.isEmpty_eq_false_iff] at hcnd))
 have hl0:l.length + (1 + ((ls R).flatMap b0a).length) ≤ 1099511627776:=by simp only [oqb] at hl;omega
 refine D5 hp (ls R) (fun a r fr hh=>∃ j:Nat→AV,fr = ((.one (.ptr p 0 0))::j 1::j 2::j 3::j 4::j 5::j 6::j 7::j 8::j 9::j 10::j 11::j 12::j 13::j 14::j 15::j 16::j 17::(.one (sl 2 j9 R))::(.one (ii (ls R).length))::(.one (ii a.length))::j 21::j 22::j 23::j 24::j 25::j 26::j 27::j 28::j 29::j 30::j 31::j 32::j 33::j 34::j 35::j 36::j 37::j 38::j 39::j 40::j 41::j 42::j 43::j 44::j 45::j 46::j 47::j 48::j 49::j 50::j 51::j 52::[])∧WS h q hh p (l++u8 (ls R).length::a.flatMap b0a) []) ?_ ?_ _ _ ?_
 rotate_left 2
 ·exact Y3 (by simp) (by have:=ws'.drop;simpa [oqh] using this)
 clear hk hl
 ·rintro a x r fr hh hll ⟨j,rfl,ws⟩
  obtain ⟨hx1,hx2,hx3⟩:=hR x (by rw [hll];simp)
  have hil:a.length < (ls R).length:=by rw [hll];simp
  obtain rfl:=O9 hll
  have hi:=I4 (P:=prog) (enc:=j9) (s:=2) (l:=a++x::r) (i:=a.length) underlying79 (by simp) (by omega) (by simp)
  have hr:=F3 (enc:=j9) (s:=2) N6 a x r (o:=0) (n:=2) (by omega)
  simp only [Nat.add_zero,I8 (N6 _)] at hr
  obtain ⟨xn,xl⟩:=x
  simp only [j9] at hr
  have hw:IntKind.i64.wrap ((a.length:Int) + 1) = ((a.length:Int) + 1):=D3 (by simp at hR4;omega)
  have hk:=oqk
  simp only [H1,List.flatMap_append,List.flatMap_cons,oqa] at hl0
  have hl1:l.length + 1 + (a.flatMap b0a).length + (4 + xn.length) + 1 + ((ls xl).flatMap a0p).length ≤ 1099511627776:=by
   simp only [b0a,D7,g9,oqa,oqb] at hl0;omega
  have hlA:(l++u8 (a++⟨xn,xl⟩::r).length::a.flatMap b0a).length = l.length + 1 + (a.flatMap b0a).length:=by simp;omega
  obtain ⟨A,hA⟩:∃ A,l++u8 (a++(⟨xn,xl⟩:Column)::r).length::a.flatMap b0a = A:=⟨_,rfl⟩
  have hA2:l++u8 (a++(⟨xn,xl⟩:Column)::r).length::(a++[(⟨xn,xl⟩:Column)]).flatMap b0a = A++(D7 xn++(u8 (ls xl).length::(ls xl).flatMap a0p)):=by
   rw [← hA];simp [b0a]
  simp only [H1] at ws ⊢
  rw [hA] at ws hlA
  rw [hA2]
  have hl:A.length + ((4 + xn.length) + (1 + ((ls xl).flatMap a0p).length)) ≤ 1099511627776:=by omega
  first | (refine c7 ?_;intro Q6 hQ6) | have hQ6:=oqk
  repeat' (first
   | (replace hQ6:=hQ6;simp [hi,hr,A5,R9,b0l hx1])
   | (refine hQ6 _ _ _ ?_;clear hQ6 Q6;first | simp only [] | simp [hi,hr,hw,A5,R9,a0R,b0l hx1,hk] | skip)
   | (refine C5 (by assumption) ?_;(try clear hQ6);first | simp only [] | simp [hi] | skip)
   | ((fail_if_success replace hQ6:=hQ6);(first | refine c7 ?_ | refine y5 ?_ | refine y3 ?_);intro Q6 hQ6)
   | ((with_reducible refine N0 ?_);first
    | (refine B9 (b0f _) (by first | assumption | exact WS.new (by assumption) _ | exact WS.new (WS.new (by assumption) _) _) (by first | (simp only [oqa,oqb,oqc,g9,D7];omega) | exact hl | omega | (simp only [oqa,oqb,oqc,g9] at hl ⊢;omega) | (simp at hl ⊢;omega)) ?_;clear hk;intro h' ws' hk;(try simp only [F6,and_true] at hk);(first | (have hk:=hk;skip) | have hk:=oqk);(try simp [hk]))
    | (refine L8 (by first | assumption | omega) (by first | assumption | exact WS.new (by assumption) _ | exact WS.new (WS.new (by assumption) _) _) (by first | (simp only [oqa,g9,D7];omega) | exact hl | omega | (simp only [oqa,oqb,oqc,g9] at hl ⊢;omega) | (simp at hl ⊢;omega)) (by first | rfl | simp) ?_;clear hk;intro h' ws' hk;(try simp only [F6,and_true] at hk);(first | (have hk:=hk;skip) | have hk:=oqk);(try simp [A5,R9,a0R,hk])))
   | (first | apply cF | apply wN | apply wS) <;> intro hcnd <;> (try simp only [hcnd]) <;> (try simp [-List.isEmpty_iff,-List.isEmpty_eq_false_iff] at hcnd))
  all_goals first | omega | skip
  have hwsB:WS h q h' p (A++(D7 xn++[u8 (ls xl).length])) []:=by have:=ws'.drop;simpa [oqh] using this
  clear ws' hk
  refine D5 hp (ls xl) (fun a2 r2 fr h2=>∃ j:Nat→AV,fr = ((.one (.ptr p 0 0))::j 1::j 2::j 3::j 4::j 5::j 6::j 7::j 8::j 9::j 10::j 11::j 12::j 13::j 14::j 15::j 16::j 17::(.one (sl 2 j9 (some (a++⟨xn,xl⟩::r))))::(.one (ii (a++(⟨xn,xl⟩:Column)::r).length))::(.one (ii a.length))::j 21::j 22::j 23::j 24::j 25::j 26::j 27::j 28::j 29::j 30::j 31::j 32::j 33::j 34::j 35::(.one (sl 4 c9 xl))::(.one (ii (ls xl).length))::(.one (ii a2.length))::j 39::j 40::j 41::j 42::j 43::j 44::j 45::j 46::j 47::j 48::j 49::j 50::j 51::j 52::[])∧WS h q h2 p (A++(D7 xn++(u8 (ls xl).length::a2.flatMap a0p))) []) ?_ ?_ _ _ ?_
  rotate_left 2
  ·exact Y3 (by simp) (by simpa using hwsB)
  clear hwsB
  ·rintro a2 x r2 fr h2 hll ⟨j2,rfl,ws2⟩
   have hxb:=hx3 x (by simp only;rw [hll];simp)
   simp only [oqa] at hx2
   obtain rfl:=O9 hll
   have hi2:=I4 (P:=prog) (enc:=c9) (s:=4) (l:=a2++x::r2) (i:=a2.length) underlying89 (by simp) (by omega) (by simp)
   have hr2:=F3 (enc:=c9) (s:=4) C3 a2 x r2 (o:=0) (n:=4) (by omega)
   simp only [Nat.add_zero,I8 (C3 _)] at hr2
   obtain ⟨xt,⟨xv_kind,xv_b,xv_n⟩⟩:=x
   simp only [c9] at hr2
   have hw2:IntKind.i64.wrap ((a2.length:Int) + 1) = ((a2.length:Int) + 1):=D3 (by simp at hx2;omega)
   simp only [H1,List.flatMap_append,List.flatMap_cons,oqa,a0p,a0Z,g9] at hl
   have hl3:A.length + (4 + xn.length) + 1 + (a2.flatMap a0p).length + 8 + (a0r ⟨xv_kind,xv_b,xv_n⟩).length ≤ 1099511627776:=by
    have e:(a2.flatMap a0p).length = (a2.flatMap fun x=>be 8 (u64 x.time)++a0r x.v).length:=rfl
    omega
   simp only [H1] at ws2 ⊢
   obtain ⟨B,hB⟩:∃ B,A++(D7 xn++(u8 (a2++(⟨xt,⟨xv_kind,xv_b,xv_n⟩⟩:Version)::r2).length::a2.flatMap a0p)) = B:=⟨_,rfl⟩
   have hBl:B.length = A.length + (4 + xn.length) + 1 + (a2.flatMap a0p).length:=by rw [← hB];simp only [D7,g9,oqa,oqb];omega
   have hB2:A++(D7 xn++(u8 (a2++(⟨xt,⟨xv_kind,xv_b,xv_n⟩⟩:Version)::r2).length::(a2++[(⟨xt,⟨xv_kind,xv_b,xv_n⟩⟩:Version)]).flatMap a0p)) = B++(a0Z xt++a0r ⟨xv_kind,xv_b,xv_n⟩):=by
    rw [← hB];simp [a0p]
   rw [hB] at ws2
   rw [hB2]
   have hk:=oqk
   have ws:=ws2
   clear hl
   have hl:B.length + (8 + (a0r ⟨xv_kind,xv_b,xv_n⟩).length) ≤ 1099511627776:=by omega
   first | (refine c7 ?_;intro Q7 hQ7) | have hQ7:=oqk
   repeat' (first
    | (replace hQ7:=hQ7;simp [hi2,hr2,A5])
    | (refine hQ7 _ _ _ ?_;clear hQ7 Q7;first | simp only [] | simp [hi2,hr2,hw2,A5,a0R,hk] | skip)
    | (refine C5 (by assumption) ?_;(try clear hQ7);first | simp only [] | simp [hi2,hr2,hw2,A5,a0R,hk] | skip)
    | ((fail_if_success replace hQ7:=hQ7);(first | refine c7 ?_ | refine y5 ?_ | refine y3 ?_);intro Q7 hQ7)
    | ((with_reducible refine N0 ?_);first
     | (refine B9 (y0X _) (by first | assumption | exact WS.new (by assumption) _ | exact WS.new (WS.new (by assumption) _) _) (by first | (simp only [oqa,g9,a0Z];omega) | exact hl | omega | (simp only [oqa] at hl ⊢;omega) | (simp at hl ⊢;omega)) ?_;clear hk;intro h' ws' hk;(try simp only [F6,and_true] at hk);(first | (have hk:=hk;skip) | have hk:=oqk);(try simp [hk]))
     | (refine B9 (F0L xv_kind xv_b xv_n hxb) (by first | assumption | exact WS.new (by assumption) _ | exact WS.new (WS.new (by assumption) _) _) (by first | (simp only [oqa,g9,a0Z];omega) | exact hl | omega | (simp only [oqa,oqb,oqc,g9] at hl ⊢;omega) | (simp at hl ⊢;omega)) ?_;clear hk;intro h' ws' hk;(try simp only [F6,and_true] at hk);(first | (have hk:=hk;skip) | have hk:=oqk);(try simp [hw2]))
     | (refine L8 (by first | assumption | omega) (by first | assumption | exact WS.new (by assumption) _ | exact WS.new (WS.new (by assumption) _) _) (by first | (simp only [oqa,oqb,oqc,g9,D7,I9,L7,a0Z];omega) | exact hl | omega | (simp only [oqa,oqb,oqc,g9] at hl ⊢;omega) | (simp at hl ⊢;omega)) (by first | rfl | simp) ?_;clear hk;intro h' ws' hk;(try simp only [F6,and_true,A1] at hk);(first | (have hk:=hk;skip) | have hk:=oqk);(try simp [hi2,hr2,hw2,A5,a0R,hk])))
    | (first | apply cF | apply wN | apply wS) <;> intro hcnd <;> (try simp only [hcnd]) <;> (try simp [-List.isEmpty_iff,-List.isEmpty_eq_false_iff] at hcnd))
   all_goals first | omega | (refine Y3 (by simp) ?_;have:=ws'.drop;simpa [oqh] using this)
  ·rintro fr h2 ⟨j2,rfl,ws2⟩
   have hk:=oqk
   have ws':=ws2
   first | (refine c7 ?_;intro Q8 hQ8) | have hQ8:=oqk
   repeat' (first
    | (replace hQ8:=hQ8;simp [hw])
    | (refine hQ8 _ _ _ ?_;clear hQ8 Q8;first | simp only [] | simp [hw,hk] | skip)
    | (refine C5 (by assumption) ?_;(try clear hQ8);first | simp only [] | simp [hw,hk] | skip)
    | ((fail_if_success replace hQ8:=hQ8);(first | refine c7 ?_ | refine y5 ?_ | refine y3 ?_);intro Q8 hQ8)
    | ((with_reducible refine N0 ?_);first
     | (refine B9 (b0f 0) (by first | assumption | exact WS.new (by assumption) _ | exact WS.new (WS.new (by assumption) _) _) (by first | (simp only [oqa,oqb,oqc,g9,D7,I9,L7,a0Z];omega) | exact hl | omega | (simp only [oqa,oqb,oqc,g9] at hl ⊢;omega) | (simp at hl ⊢;omega)) ?_;clear hk;intro h' ws' hk;(try simp only [F6,and_true,A1] at hk);(first | (have hk:=hk;skip) | have hk:=oqk);(try simp [hw,hk]))
     | (refine L8 (by first | assumption | omega) (by first | assumption | exact WS.new (by assumption) _ | exact WS.new (WS.new (by assumption) _) _) (by first | (simp only [oqa,oqb,oqc,g9,D7,I9,L7,a0Z];omega) | exact hl | omega | (simp only [oqa,oqb,oqc,g9] at hl ⊢;omega) | (simp at hl ⊢;omega)) (by first | rfl | simp) ?_;clear hk;intro h' ws' hk;(try simp only [F6,and_true,A1] at hk);(first | (have hk:=hk;skip) | have hk:=oqk);(try simp [hw,hk])))
    | (first | apply cF | apply wN | apply wS) <;> intro hcnd <;> (try simp only [hcnd]) <;> (try simp [-List.isEmpty_iff,-List.isEmpty_eq_false_iff] at hcnd))
   refine Y3 (by simp) ?_
   simpa [oqh] using ws'
 ·rintro fr hh ⟨j,rfl,ws⟩
  have hk:=oqk
  have ws':=ws
  first | (refine c7 ?_;intro Q9 hQ9) | have hQ9:=oqk
  repeat' (first
   | (replace hQ9:=hQ9;simp [hk])
   | (refine hQ9 _ _ _ ?_;clear hQ9 Q9;first | simp only [] | simp [hk] | skip)
   | (refine C5 (by assumption) ?_;(try clear hQ9);first | simp only [] | simp [hk] | skip)
   | ((fail_if_success replace hQ9:=hQ9);(first | refine c7 ?_ | refine y5 ?_ | refine y3 ?_);intro Q9 hQ9)
   | ((with_reducible refine N0 ?_);first
    | (refine B9 (b0f 0) (by first | assumption | exact WS.new (by assumption) _ | exact WS.new (WS.new (by assumption) _) _) (by first | (simp only [oqa,oqb,oqc,g9,D7,I9,L7,a0Z];omega) | exact hl | omega | (simp only [oqa,oqb,oqc,g9] at hl ⊢;omega) | (simp at hl ⊢;omega)) ?_;clear hk;intro h' ws' hk;(try simp only [F6,and_true,A1] at hk);(first | (have hk:=hk;skip) | have hk:=oqk);(try simp [hk]))
    | (refine L8 (by first | assumption | omega) (by first | assumption | exact WS.new (by assumption) _ | exact WS.new (WS.new (by assumption) _) _) (by first | (simp only [oqa,oqb,oqc,g9,D7,I9,L7,a0Z];omega) | exact hl | omega | (simp only [oqa,oqb,oqc,g9] at hl ⊢;omega) | (simp at hl ⊢;omega)) (by first | rfl | simp) ?_;clear hk;intro h' ws' hk;(try simp only [F6,and_true,A1] at hk);(first | (have hk:=hk;skip) | have hk:=oqk);(try simp [hk])))
   | (first | apply cF | apply wN | apply wS) <;> intro hcnd <;> (try simp only [hcnd]) <;> (try simp [-List.isEmpty_iff,-List.isEmpty_eq_false_iff] at hcnd))
  exact ⟨_,ws'⟩
theorem u0p {h0 h:H} {q0:Option Nat} {p:Nat} {l:BL} {kept:List (Nat × Blk)} (w:WS h0 q0 h p l kept) {b:Nat} {k:Blk} (hf:h.f b = some k) (hb:b < h0.next) (hp:b ≠ p) (hq:q0 ≠ some b):WS h0 q0 h p l ((b,k)::kept):=by
 obtain ⟨q,w,g,hk,hd⟩:=w
 refine ⟨q,w,g,⟨hf,hk⟩,fun e he=>?_⟩
 rcases oqf.1 he with rfl | he
 ·refine ⟨oqp hb g.next,hp, ?_⟩
  rcases g.own with e | ⟨x,e,hx⟩
  ·rw [e];exact hq
  ·rw [e];intro hc;cases hc;omega
 ·exact hd e he
theorem r0T {h0 h:H} {q0:Option Nat} {p:Nat} {l:BL} {kept:List (Nat × Blk)} (w:WS h0 q0 h p l kept) {b:Nat} (hb:b < h0.next) (hp:b ≠ p) (hq:q0 ≠ some b):h.f b = h0.f b:=by
 obtain ⟨q,_,g,_⟩:=w;exact g.keep b hb hp hq
structure Apart (t:Nat) (tq:Option Nat) (p:Nat) (q:Option Nat):Prop where
 tp:t ≠ p
 qt:q ≠ some t
 bp:tq ≠ some p
 qb:∀ b,tq = some b→q ≠ some b
theorem m0d {K:Conf} {f:Nat} {args:List AV} {h:H} {p:Nat} {q:Option Nat} {x:BL} (hh:∃ r,W K f args h = some r∧∃ h' kept,r = .ret (.tup []) h'∧WS h q h' p x kept):∃ h' q',W K f args h = some (.ret (.tup []) h')∧Wr h' p q' x∧Only h h' p q q':=by
 obtain ⟨r,e,h',kept,rfl,q',w',g',_⟩:=hh
 exact ⟨h',q',e,w',g'⟩
theorem B0j {h:H} {p t:Nat} {q tq:Option Nat} {l:BL} {tl:List Named} (w:Wr h p q l) (bx:Bx h t 2 c8 tl tq) (ok:TblOk tl) (ha:Apart t tq p q) (hl:l.length + (c0q tl).length ≤ 1099511627776) :
  ∃ h' q',W K 100 [.one (.ptr t 0 0),.one (.ptr p 0 0)] h = some (.ret (.tup []) h')∧Wr h' p q' (l++c0q tl)∧Only h h' p q q':=by
 refine m0d ?_
 have hlen:=ok.len
 have hcl:=z7 z9 tl
 obtain ⟨w1,s,w2,w3,w4,w5⟩:=bx
 have hs:=w3.sees z9
 have hla:∀ (u:TypeId) (h':H),O7 s (some (.slice u)) h' = some (one (ii tl.length) h'):=fun u h'=>O4 h' u hs (by omega) hcl
 have ws:=u0p (WS.start w) w2 w1 ha.tp ha.qt
 have hk:=w2
 simp only [c0q] at hl ⊢
 have hl0:l.length + (4 + (tl.flatMap I1).length) ≤ 1099511627776:=by simp only [oqa,L7,g9] at hl;omega
 refine H6 hp rfl rfl rfl func100 rfl (by simp [Tryz.f100]) ?_
 simp only [Tryz.f100]
 first | (refine c7 ?_;intro Q1 hQ1) | have hQ1:=oqk
 repeat' (first
  | (replace hQ1:=hQ1;simp [hla,A5,hk])
  | (refine hQ1 _ _ _ ?_;clear hQ1 Q1;first | simp only [] | simp [hla,A5,hk] | skip)
  | (refine C5 (by assumption) ?_;(try clear hQ1);first | simp only [] | simp [hla,A5,hk] | skip)
  | ((fail_if_success replace hQ1:=hQ1);(first | refine c7 ?_ | refine y5 ?_ | refine y3 ?_);intro Q1 hQ1)
  | ((with_reducible refine N0 ?_);first
   | (refine B9 (k0z _) (by first | assumption | exact WS.new (by assumption) _ | exact WS.new (WS.new (by assumption) _) _) (by first | (simp only [g9,L7];omega) | exact hl | omega | (simp only [oqa,oqb,oqc,g9] at hl ⊢;omega) | (simp at hl ⊢;omega)) ?_;clear hk;intro h' ws' hk;(try simp only [F6,and_true] at hk);(first | (have hk:=hk;skip) | have hk:=oqk);(try simp [hla,hk]))
   | (refine L8 (by first | assumption | omega) (by first | assumption | exact WS.new (by assumption) _ | exact WS.new (WS.new (by assumption) _) _) (by first | (simp only [oqa,oqb,oqc,g9,D7,I9,L7,a0Z];omega) | exact hl | omega | (simp only [oqa,oqb,oqc,g9] at hl ⊢;omega) | (simp at hl ⊢;omega)) (by first | rfl | simp) ?_;clear hk;intro h' ws' hk;(try simp only [F6,and_true,A1] at hk);(first | (have hk:=hk;skip) | have hk:=oqk);(try simp [hla,A5,hk]))))
 refine D5 hp tl (fun a r fr hh=>∃ j:Nat→AV,fr = (j 0::(.one (.ptr p 0 0))::j 2::j 3::j 4::j 5::j 6::j 7::j 8::j 9::j 10::j 11::j 12::j 13::j 14::j 15::j 16::(.one s)::(.one (ii tl.length))::(.one (ii a.length))::j 20::j 21::j 22::j 23::j 24::j 25::j 26::j 27::j 28::j 29::j 30::j 31::j 32::[])∧WS h q hh p (l++(L7 tl.length++a.flatMap I1)) []) ?_ ?_ _ _ ?_
 rotate_left 2
 ·exact Y3 (by simp) (by have:=ws'.drop;simpa [oqh] using this)
 clear hk ws'
 ·rintro a x r fr hh hll ⟨j,rfl,ws⟩
  have hil:a.length < tl.length:=by rw [hll];simp
  have hxe:tl[a.length] = x:=by simp only [hll];simp
  have hxm:x ∈ tl:=by rw [hll];simp
  have hsee:Sees hh 2 s (cat c8 tl):=Rw.sees_keep hs fun b hb=>r0T ws (w3.lt hb) (fun e=>ha.bp (by rw [← w4,hb,e])) (ha.qb b (by rw [← w4,hb]))
  have hix:S6 prog 48 s a.length = some (atS 2 s a.length):=W5 underlying48 (by simp) hsee (by omega) hcl hil
  have hrd:H4 hh (atS 2 s a.length) 2 = some (c8 x):=by rw [Y9 hsee (by omega) hcl hil,c0J z9 _ hil,hxe]
  have hw:IntKind.i64.wrap ((a.length:Int) + 1) = (a.length:Int) + 1:=D3 (by omega)
  have hx1:x.name.length ≤ 1048576:=by have:=ok.nm x hxm;simp only [I6,oqd,oqj] at this;omega
  have hx2:=p0i ok hxm
  have hlf:(tl.flatMap I1).length = (a.flatMap I1).length + ((I1 x).length + (r.flatMap I1).length):=by rw [hll];simp only [List.flatMap_append,List.flatMap_cons,oqa]
  obtain ⟨xn,xr⟩:=x
  simp only [c8] at hrd
  simp only at hx1 hx2
  obtain ⟨A,hA⟩:∃ A,l++(L7 tl.length++a.flatMap I1) = A:=⟨_,rfl⟩
  have hAl:A.length = l.length + (4 + (a.flatMap I1).length):=by rw [← hA];simp only [oqa,L7,g9]
  have hA2:l++(L7 tl.length++(a++[(⟨xn,xr⟩:Named)]).flatMap I1) = A++(D7 xn++g0a xr):=by rw [← hA];simp [I1]
  rw [hA] at ws
  rw [hA2]
  have hk:=oqk
  clear hl
  have hl:A.length + (4 + xn.length + (g0a xr).length) ≤ 1099511627776:=by
   simp only [I1,D7,oqa,g9] at hlf;omega
  first | (refine c7 ?_;intro Q2 hQ2) | have hQ2:=oqk
  repeat' (first
   | (replace hQ2:=hQ2;simp [hix,hrd,hil,A5,R9,b0l hx1])
   | (refine hQ2 _ _ _ ?_;clear hQ2 Q2;first | simp only [] | simp [hix,hrd,hil,hw,A5,R9,b0l hx1,hk] | skip)
   | (refine C5 (by assumption) ?_;(try clear hQ2);first | simp only [] | simp [hix,hrd,hil,hw,A5,R9,b0l hx1,hk] | skip)
   | ((fail_if_success replace hQ2:=hQ2);(first | refine c7 ?_ | refine y5 ?_ | refine y3 ?_);intro Q2 hQ2)
   | ((with_reducible refine N0 ?_);first
    | (refine B9 (A0z xr hx2) (by first | assumption | exact WS.new (by assumption) _ | exact WS.new (WS.new (by assumption) _) _) (by first | (simp only [oqa,g9,D7];omega) | exact hl | omega | (simp only [oqa,oqb,oqc,g9] at hl ⊢;omega) | (simp at hl ⊢;omega)) ?_;clear hk;intro h' ws' hk;(try simp only [F6,and_true] at hk);(first | (have hk:=hk;skip) | have hk:=oqk);(try simp [hw]))
    | (refine L8 (by first | assumption | omega) (by first | assumption | exact WS.new (by assumption) _ | exact WS.new (WS.new (by assumption) _) _) (by first | (simp only [oqa,g9,D7];omega) | exact hl | omega | (simp only [oqa,oqb,oqc,g9] at hl ⊢;omega) | (simp at hl ⊢;omega)) (by first | rfl | simp) ?_;clear hk;intro h' ws' hk;(try simp only [F6,and_true] at hk);(first | (have hk:=hk;skip) | have hk:=oqk);(try simp [hk]))))
  all_goals first | omega | (refine Y3 (by simp) ?_;have:=ws'.drop;simpa [oqh] using this)
 ·rintro fr hh ⟨j,rfl,ws⟩
  have hk:=oqk
  have ws':=ws
  first | (refine c7 ?_;intro Q3 hQ3) | have hQ3:=oqk
  repeat' (first
   | (replace hQ3:=hQ3;simp [hk])
   | (refine hQ3 _ _ _ ?_;clear hQ3 Q3;first | simp only [] | simp [hk] | skip)
   | (refine C5 (by assumption) ?_;(try clear hQ3);first | simp only [] | simp [hk] | skip)
   | ((fail_if_success replace hQ3:=hQ3);(first | refine c7 ?_ | refine y5 ?_ | refine y3 ?_);intro Q3 hQ3)
   | ((with_reducible refine N0 ?_);first
    | (refine B9 (b0f 0) (by first | assumption | exact WS.new (by assumption) _ | exact WS.new (WS.new (by assumption) _) _) (by first | (simp only [oqa,oqb,oqc,g9,D7,I9,L7,a0Z];omega) | exact hl | omega | (simp only [oqa,oqb,oqc,g9] at hl ⊢;omega) | (simp at hl ⊢;omega)) ?_;clear hk;intro h' ws' hk;(try simp only [F6,and_true,A1] at hk);(first | (have hk:=hk;skip) | have hk:=oqk);(try simp [hk]))
    | (refine L8 (by first | assumption | omega) (by first | assumption | exact WS.new (by assumption) _ | exact WS.new (WS.new (by assumption) _) _) (by first | (simp only [oqa,oqb,oqc,g9,D7,I9,L7,a0Z];omega) | exact hl | omega | (simp only [oqa,oqb,oqc,g9] at hl ⊢;omega) | (simp at hl ⊢;omega)) (by first | rfl | simp) ?_;clear hk;intro h' ws' hk;(try simp only [F6,and_true,A1] at hk);(first | (have hk:=hk;skip) | have hk:=oqk);(try simp [hk]))))
  exact ⟨_,ws'⟩
theorem B0Q {h:H} {p t:Nat} {q tq:Option Nat} {l:BL} {tl:List Tld} (w:Wr h p q l) (bx:Bx h t 3 G9 tl tq) (ok:CchOk tl) (ha:Apart t tq p q) (hl:l.length + (b0C tl).length ≤ 1099511627776) :
  ∃ h' q',W K 101 [.one (.ptr t 0 0),.one (.ptr p 0 0)] h = some (.ret (.tup []) h')∧Wr h' p q' (l++b0C tl)∧Only h h' p q q':=by
 refine m0d ?_
 have hlen:=ok.len
 have hcl:=z7 a0S tl
 obtain ⟨w1,s,w2,w3,w4,w5⟩:=bx
 have hs:=w3.sees a0S
 have hla:∀ (u:TypeId) (h':H),O7 s (some (.slice u)) h' = some (one (ii tl.length) h'):=fun u h'=>O4 h' u hs (by omega) hcl
 have ws:=u0p (WS.start w) w2 w1 ha.tp ha.qt
 have hk:=w2
 simp only [b0C] at hl ⊢
 have hl0:l.length + (4 + (tl.flatMap a0O).length) ≤ 1099511627776:=by simp only [oqa,L7,g9] at hl;omega
 refine H6 hp rfl rfl rfl func101 rfl (by simp [Tryz.f101]) ?_
 simp only [Tryz.f101]
 first | (refine c7 ?_;intro Q4 hQ4) | have hQ4:=oqk
 repeat' (first
  | (replace hQ4:=hQ4;simp [hla,A5,hk])
  | (refine hQ4 _ _ _ ?_;clear hQ4 Q4;first | simp only [] | simp [hla,A5,hk] | skip)
  | (refine C5 (by assumption) ?_;(try clear hQ4);first | simp only [] | simp [hla,A5,hk] | skip)
  | ((fail_if_success replace hQ4:=hQ4);(first | refine c7 ?_ | refine y5 ?_ | refine y3 ?_);intro Q4 hQ4)
  | ((with_reducible refine N0 ?_);first
   | (refine B9 (k0z _) (by first | assumption | exact WS.new (by assumption) _ | exact WS.new (WS.new (by assumption) _) _) (by first | (simp only [g9,L7];omega) | exact hl | omega | (simp only [oqa,oqb,oqc,g9] at hl ⊢;omega) | (simp at hl ⊢;omega)) ?_;clear hk;intro h' ws' hk;(try simp only [F6,and_true] at hk);(first | (have hk:=hk;skip) | have hk:=oqk);(try simp [hla,hk]))
   | (refine L8 (by first | assumption | omega) (by first | assumption | exact WS.new (by assumption) _ | exact WS.new (WS.new (by assumption) _) _) (by first | (simp only [oqa,oqb,oqc,g9,D7,I9,L7,a0Z];omega) | exact hl | omega | (simp only [oqa,oqb,oqc,g9] at hl ⊢;omega) | (simp at hl ⊢;omega)) (by first | rfl | simp) ?_;clear hk;intro h' ws' hk;(try simp only [F6,and_true,A1] at hk);(first | (have hk:=hk;skip) | have hk:=oqk);(try simp [hla,A5,hk]))))
 refine D5 hp tl (fun a r fr hh=>∃ j:Nat→AV,fr = (j 0::(.one (.ptr p 0 0))::j 2::j 3::j 4::j 5::j 6::j 7::j 8::j 9::j 10::j 11::j 12::j 13::j 14::j 15::j 16::(.one s)::(.one (ii tl.length))::(.one (ii a.length))::j 20::j 21::j 22::j 23::j 24::j 25::j 26::j 27::j 28::j 29::j 30::j 31::j 32::j 33::j 34::j 35::j 36::j 37::[])∧WS h q hh p (l++(L7 tl.length++a.flatMap a0O)) []) ?_ ?_ _ _ ?_
 rotate_left 2
 ·exact Y3 (by simp) (by have:=ws'.drop;simpa [oqh] using this)
 clear hk ws'
 ·rintro a x r fr hh hll ⟨j,rfl,ws⟩
  have hil:a.length < tl.length:=by rw [hll];simp
  have hxe:tl[a.length] = x:=by simp only [hll];simp
  have hxm:x ∈ tl:=by rw [hll];simp
  have hsee:Sees hh 3 s (cat G9 tl):=Rw.sees_keep hs fun b hb=>r0T ws (w3.lt hb) (fun e=>ha.bp (by rw [← w4,hb,e])) (ha.qb b (by rw [← w4,hb]))
  have hix:S6 prog 143 s a.length = some (atS 3 s a.length):=W5 underlying143 (by simp) hsee (by omega) hcl hil
  have hrd:H4 hh (atS 3 s a.length) 3 = some (G9 x):=by rw [Y9 hsee (by omega) hcl hil,c0J a0S _ hil,hxe]
  have hw:IntKind.i64.wrap ((a.length:Int) + 1) = (a.length:Int) + 1:=D3 (by omega)
  have hx1:=(a0n (ok.ok x hxm)).2.2.2.2
  have hlf:(tl.flatMap a0O).length = (a.flatMap a0O).length + ((a0O x).length + (r.flatMap a0O).length):=by rw [hll];simp only [List.flatMap_append,List.flatMap_cons,oqa]
  obtain ⟨xc,xs,xb⟩:=x
  simp only [G9] at hrd
  simp only at hx1
  obtain ⟨A,hA⟩:∃ A,l++(L7 tl.length++a.flatMap a0O) = A:=⟨_,rfl⟩
  have hAl:A.length = l.length + (4 + (a.flatMap a0O).length):=by rw [← hA];simp only [oqa,L7,g9]
  have hA2:l++(L7 tl.length++(a++[(⟨xc,xs,xb⟩:Tld)]).flatMap a0O) = A++(u8 xc::(L7 xs++D7 (ls xb))):=by rw [← hA];simp [a0O]
  rw [hA] at ws
  rw [hA2]
  have hk:=oqk
  clear hl
  have hl:A.length + (1 + 4 + (4 + (ls xb).length)) ≤ 1099511627776:=by
   simp only [a0O,D7,L7,oqa,oqb,g9] at hlf;omega
  first | (refine c7 ?_;intro Q5 hQ5) | have hQ5:=oqk
  repeat' (first
   | (replace hQ5:=hQ5;simp [hix,hrd,hil,A5,a0R])
   | (refine hQ5 _ _ _ ?_;clear hQ5 Q5;first | simp only [] | simp [hix,hrd,hil,hw,A5,a0R,hk] | skip)
   | (refine C5 (by assumption) ?_;(try clear hQ5);first | simp only [] | simp [hix,hrd,hil,hw,A5,a0R,hk] | skip)
   | ((fail_if_success replace hQ5:=hQ5);(first | refine c7 ?_ | refine y5 ?_ | refine y3 ?_);intro Q5 hQ5)
   | ((with_reducible refine N0 ?_);first
    | (refine B9 (b0f _) (by first | assumption | exact WS.new (by assumption) _ | exact WS.new (WS.new (by assumption) _) _) (by first | (simp only [oqa,oqb,oqc,g9,L7];omega) | exact hl | omega | (simp only [oqa,oqb,oqc,g9] at hl ⊢;omega) | (simp at hl ⊢;omega)) ?_;clear hk;intro h' ws' hk;(try simp only [F6,and_true] at hk);(first | (have hk:=hk;skip) | have hk:=oqk);(try simp [A5,hk]))
    | (refine B9 (k0z _) (by first | assumption | exact WS.new (by assumption) _ | exact WS.new (WS.new (by assumption) _) _) (by first | (simp only [oqa,oqb,oqc,g9,L7];omega) | exact hl | omega | (simp only [oqa,oqb,oqc,g9] at hl ⊢;omega) | (simp at hl ⊢;omega)) ?_;clear hk;intro h' ws' hk;(try simp only [F6,and_true] at hk);(first | (have hk:=hk;skip) | have hk:=oqk);(try simp [hk]))
    | (refine B9 (p0R xb hx1) (by first | assumption | exact WS.new (by assumption) _ | exact WS.new (WS.new (by assumption) _) _) (by first | (simp only [oqa,oqb,oqc,g9,D7,L7];omega) | exact hl | omega | (simp only [oqa,oqb,oqc,g9] at hl ⊢;omega) | (simp at hl ⊢;omega)) ?_;clear hk;intro h' ws' hk;(try simp only [F6,and_true] at hk);(first | (have hk:=hk;skip) | have hk:=oqk);(try simp [hw]))
    | (refine L8 (by first | assumption | omega) (by first | assumption | exact WS.new (by assumption) _ | exact WS.new (WS.new (by assumption) _) _) (by first | (simp only [oqa,oqb,oqc,g9,D7,I9,L7,a0Z];omega) | exact hl | omega | (simp only [oqa,oqb,oqc,g9] at hl ⊢;omega) | (simp at hl ⊢;omega)) (by first | rfl | simp) ?_;clear hk;intro h' ws' hk;(try simp only [F6,and_true,A1] at hk);(first | (have hk:=hk;skip) | have hk:=oqk);(try simp [hix,hrd,hil,hw,A5,a0R,hk]))))
  all_goals first | omega | (refine Y3 (by simp) ?_;have:=ws'.drop;simpa [oqh] using this)
 ·rintro fr hh ⟨j,rfl,ws⟩
  have hk:=oqk
  have ws':=ws
  first | (refine c7 ?_;intro Q6 hQ6) | have hQ6:=oqk
  repeat' (first
   | (replace hQ6:=hQ6;simp [hk])
   | (refine hQ6 _ _ _ ?_;clear hQ6 Q6;first | simp only [] | simp [hk] | skip)
   | (refine C5 (by assumption) ?_;(try clear hQ6);first | simp only [] | simp [hk] | skip)
   | ((fail_if_success replace hQ6:=hQ6);(first | refine c7 ?_ | refine y5 ?_ | refine y3 ?_);intro Q6 hQ6)
   | ((with_reducible refine N0 ?_);first
    | (refine B9 (b0f 0) (by first | assumption | exact WS.new (by assumption) _ | exact WS.new (WS.new (by assumption) _) _) (by first | (simp only [oqa,oqb,oqc,g9,D7,I9,L7,a0Z];omega) | exact hl | omega | (simp only [oqa,oqb,oqc,g9] at hl ⊢;omega) | (simp at hl ⊢;omega)) ?_;clear hk;intro h' ws' hk;(try simp only [F6,and_true,A1] at hk);(first | (have hk:=hk;skip) | have hk:=oqk);(try simp [hk]))
    | (refine L8 (by first | assumption | omega) (by first | assumption | exact WS.new (by assumption) _ | exact WS.new (WS.new (by assumption) _) _) (by first | (simp only [oqa,oqb,oqc,g9,D7,I9,L7,a0Z];omega) | exact hl | omega | (simp only [oqa,oqb,oqc,g9] at hl ⊢;omega) | (simp at hl ⊢;omega)) (by first | rfl | simp) ?_;clear hk;intro h' ws' hk;(try simp only [F6,and_true,A1] at hk);(first | (have hk:=hk;skip) | have hk:=oqk);(try simp [hk]))))
  exact ⟨_,ws'⟩
end Go.Proofs.YtiagcnfmgigllaaGreat
