/- A part of a proof over the abstract machine. No conditions. -/
import Derived.Test.YtiagcnfmgigllaaGreatT6
set_option linter.all false
namespace Go.Proofs.YtiagcnfmgigllaaGreat
open Go Go.Ab Wm NumPlain Go.Proofs.Tryz
set_option maxRecDepth 10000
set_option maxHeartbeats 4000000
theorem F0Z (H9:Int) (v_b:Option BL) (v_n:Nat) (hb:H9 = 1->(ls v_b).length <= 1048576):b0F K 174 [.agg [ii H9,bs v_b,.flt v_n]] (.tup []) (a0W ⟨H9,v_b,v_n⟩):=by
 by_cases h1:H9 = 1
 ·have hb:=hb h1
  simp only [a0W,h1,if_true]
  refine a0A fun h p q l w hl=>?_
  have hk:=oqk
  have ws:=WS.start w
  refine zzE func174 rfl ?_
  simp only [f174]
  intro Q1 Y1
  repeat' (first
   | (replace Y1:=Y1;simp [h1])
   | refine Y1 _ _ _ ?_
   | ((with_reducible refine S7 ?_);first
    | (refine C8 (a0V 1) (by first | assumption | exact WS.new (by assumption) _ | exact WS.new (WS.new (by assumption) _) _) (by first | (simp only [oqa,oqb,oqc];omega) | exact hl | omega | (simp only [oqa,oqb,oqc] at hl |-;omega) | (simp at hl |-;omega)) ?_;clear hk;intro h' ws' hk;(try simp only [J4,and_true] at hk);(first | (have hk:=hk;skip) | have hk:=oqk);(try simp [hk]))
    | (refine C8 (r0v v_b hb) (by first | assumption | exact WS.new (by assumption) _ | exact WS.new (WS.new (by assumption) _) _) (by first | (simp only [oqa,oqb,oqc,c8,I1];omega) | exact hl | omega | (simp only [oqa,oqb,oqc] at hl |-;omega) | (simp at hl |-;omega)) ?_;clear hk;intro h' ws' hk;(try simp only [J4,and_true] at hk);(first | (have hk:=hk;skip) | have hk:=oqk);(try simp [h1]))
    | (refine P8 (by first | assumption | omega) (by first | assumption | exact WS.new (by assumption) _ | exact WS.new (WS.new (by assumption) _) _) (by first | (simp only [oqa,oqb,oqc,c8,I1,L7,N8,b0K];omega) | exact hl | omega | (simp only [oqa,oqb,oqc,c8] at hl |-;omega) | (simp at hl |-;omega)) (by first | rfl | simp) ?_;clear hk;intro h' ws' hk;(try simp only [J4,and_true,A6] at hk);(first | (have hk:=hk;skip) | have hk:=oqk);(try simp [h1,hk])))
   | (first | apply cF | apply wN | apply wS) <;> intro Ya <;> (try simp only [Ya]) <;> (try simp [-List.isEmpty_iff,-List.isEmpty_eq_false_iff] at Ya))
  all_goals first | omega | (simp;exact ⟨_,by simpa [oqh] using ws'⟩) | exact ⟨_,by simpa [oqh] using ws'⟩ | skip
 ·by_cases h2:H9 = 2
  ·subst h2;simp only [a0W,Int.reduceEq,if_true,if_false]
   refine a0A fun h p q l w hl=>?_
   have hk:=oqk
   have ws:=WS.start w
   refine zzE func174 rfl ?_
   simp only [f174]
   intro Q2 Y2
   repeat' (first
    | (replace Y2:=Y2;simp [hk])
    | refine Y2 _ _ _ ?_
    | ((with_reducible refine S7 ?_);first
     | (refine C8 (a0V 2) (by first | assumption | exact WS.new (by assumption) _ | exact WS.new (WS.new (by assumption) _) _) (by first | (simp only [oqa,oqb,oqc];omega) | exact hl | omega | (simp only [oqa,oqb,oqc,c8] at hl |-;omega) | (simp at hl |-;omega)) ?_;clear hk;intro h' ws' hk;(try simp only [J4,and_true] at hk);(first | (have hk:=hk;skip) | have hk:=oqk);(try simp [hk]))
     | (refine C8 (y0H v_n) (by first | assumption | exact WS.new (by assumption) _ | exact WS.new (WS.new (by assumption) _) _) (by first | (simp only [oqa,oqb,oqc,c8];omega) | exact hl | omega | (simp only [oqa,oqb,oqc,c8] at hl |-;omega) | (simp at hl |-;omega)) ?_;clear hk;intro h' ws' hk;(try simp only [J4,and_true] at hk);(first | (have hk:=hk;skip) | have hk:=oqk);(try simp [hk]))
     | (refine P8 (by first | assumption | omega) (by first | assumption | exact WS.new (by assumption) _ | exact WS.new (WS.new (by assumption) _) _) (by first | (simp only [oqa,oqb,oqc,c8,I1,L7,N8,b0K];omega) | exact hl | omega | (simp only [oqa,oqb,oqc,c8] at hl |-;omega) | (simp at hl |-;omega)) (by first | rfl | simp) ?_;clear hk;intro h' ws' hk;(try simp only [J4,and_true,A6] at hk);(first | (have hk:=hk;skip) | have hk:=oqk);(try simp [hk])))
    | (first | apply cF | apply wN | apply wS) <;> intro Ya <;> (try simp only [Ya]) <;> (try simp [-List.isEmpty_iff,-List.isEmpty_eq_false_iff] at Ya))
   all_goals first | omega | (simp;exact ⟨_,by simpa [oqh] using ws'⟩) | exact ⟨_,by simpa [oqh] using ws'⟩ | skip
  ·simp only [a0W,h1,h2,if_false]
   refine a0A fun h p q l w hl=>?_
   have hk:=oqk
   have ws:=WS.start w
   refine zzE func174 rfl ?_
   simp only [f174]
   intro Q3 Y3
   repeat' (first
    | (replace Y3:=Y3;simp [hk])
    | refine Y3 _ _ _ ?_
    | ((with_reducible refine S7 ?_);first
     | (refine C8 (a0V 0) (by first | assumption | exact WS.new (by assumption) _ | exact WS.new (WS.new (by assumption) _) _) (by first | (simp only [oqb,oqc];omega) | exact hl | omega | (simp only [oqa,oqb,oqc,c8] at hl |-;omega) | (simp at hl |-;omega)) ?_;clear hk;intro h' ws' hk;(try simp only [J4,and_true] at hk);(first | (have hk:=hk;skip) | have hk:=oqk);(try simp [hk]))
     | (refine P8 (by first | assumption | omega) (by first | assumption | exact WS.new (by assumption) _ | exact WS.new (WS.new (by assumption) _) _) (by first | (simp only [oqa,c8,I1];omega) | exact hl | omega | (simp only [oqa,oqb,oqc,c8] at hl |-;omega) | (simp at hl |-;omega)) (by first | rfl | simp) ?_;clear hk;intro h' ws' hk;(try simp only [J4,and_true,A6] at hk);(first | (have hk:=hk;skip) | have hk:=oqk);(try simp [hk])))
    | (first | apply cF | apply wN | apply wS) <;> intro Ya <;> (try simp only [Ya]) <;> (try simp [-List.isEmpty_iff,-List.isEmpty_eq_false_iff] at Ya))
   all_goals first | omega | (simp;exact ⟨_,by simpa [oqh] using ws'⟩) | exact ⟨_,by simpa [oqh] using ws'⟩ | skip
theorem w0T (lo hi:BL) (h1:lo.length <= 1048576) (h2:hi.length <= 1048576):b0F K 99 [.agg [.str lo,.str hi]] (.tup []) (L7 ⟨lo,hi⟩):=by
 simp only [L7]
 refine a0A fun h p q l w hl=>?_
 have hk:=oqk
 have ws:=WS.start w
 refine zzE func99 rfl ?_
 simp only [f99]
 intro Q4 Y4
 repeat' (first
  | (replace Y4:=Y4;simp [B6,W4,c0a h1])
  | refine Y4 _ _ _ ?_
  | ((with_reducible refine S7 ?_);first
   | (refine C8 (a0V 0) (by first | assumption | exact WS.new (by assumption) _ | exact WS.new (WS.new (by assumption) _) _) (by first | (simp only [oqa,oqb,oqc,c8,I1];omega) | exact hl | omega | (simp only [oqa,oqb,oqc] at hl |-;omega) | (simp at hl |-;omega)) ?_;clear hk;intro h' ws' hk;(try simp only [J4,and_true,A6] at hk);(first | (have hk:=hk;skip) | have hk:=oqk);(try simp [B6,W4,c0a h1,c0a h2,hk]))
   | (refine P8 (by first | assumption | omega) (by first | assumption | exact WS.new (by assumption) _ | exact WS.new (WS.new (by assumption) _) _) (by first | (simp only [oqa,c8,I1];omega) | exact hl | omega | (simp only [oqa] at hl |-;omega) | (simp at hl |-;omega)) (by first | rfl | simp) ?_;clear hk;intro h' ws' hk;(try simp only [J4,and_true] at hk);(first | (have hk:=hk;skip) | have hk:=oqk);(try simp [B6,W4,c0a h2,hk]))))
 all_goals first | omega | (simp;exact ⟨_,by simpa [oqh] using ws'⟩) | exact ⟨_,by simpa [oqh] using ws'⟩ | skip
theorem T8 (h:H) (a k k':Blk):((h.new a).new k).set (h.next + 1) k' = (h.new a).new k':=n0R (h.new a) k k'
theorem A0P (o:Row) (ho:(ls o).length < 1000000):b0F K 123 [.agg [sl 2 l7 o]] (.tup []) (g0K o):=by
 have hcp:=g0r o ho
 have hlim:=q0h (P6 o)
 simp only [J8] at hcp
 simp only [g0K,f0U]
 generalize rowCopy o = R at *
 obtain ⟨hR4,hR⟩:=hlim
 refine a0A fun h p q l w hl=>?_
 have hk:=oqk
 have ws:=WS.start w
 refine zzE func123 rfl ?_
 simp only [f123]
 intro Q5 Y5
 repeat' (first
  | (replace Y5:=Y5;simp [B6,b0h,hcp,T8])
  | refine Y5 _ _ _ ?_
  | ((with_reducible refine S7 ?_);first
   | (refine C8 (a0V _) (by first | assumption | exact WS.new (by assumption) _ | exact WS.new (WS.new (by assumption) _) _) (by first | (simp only [oqb,oqc];omega) | exact hl | omega | (simp only [oqb,oqc] at hl |-;omega) | (simp at hl |-;omega)) ?_;clear hk;intro h' ws' hk;(try simp only [J4,and_true,A6] at hk);(first | (have hk:=hk;skip) | have hk:=oqk);(try simp [hk]))
   | (refine P8 (by first | assumption | omega) (by first | assumption | exact WS.new (by assumption) _ | exact WS.new (WS.new (by assumption) _) _) (by first | (simp only [oqa,oqb,oqc,c8,I1,L7,N8,b0K];omega) | exact hl | omega | (simp only [oqa,oqb,oqc,c8] at hl |-;omega) | (simp at hl |-;omega)) (by first | rfl | simp) ?_;clear hk;intro h' ws' hk;(try simp only [J4,and_true,A6] at hk);(first | (have hk:=hk;skip) | have hk:=oqk);(try simp [B6,b0h,hcp,T8,hk])))
  | (first | apply cF | apply wN | apply wS) <;> intro Ya <;> (try simp only [Ya]) <;> (try simp [-List.isEmpty_iff,-List.isEmpty_eq_false_iff] at Ya))
 have hl0:l.length + (1 + ((ls R).flatMap b0N).length) <= 1099511627776:=by simp only [oqb] at hl;omega
 refine I8 hp (ls R) (fun a r fr hh=>∃ j:Nat->AV,fr = ((.one (.ptr p 0 0))::j 1::j 2::j 3::j 4::j 5::j 6::j 7::j 8::j 9::j 10::j 11::j 12::j 13::j 14::j 15::j 16::j 17::(.one (sl 2 l7 R))::(.one (ii (ls R).length))::(.one (ii a.length))::j 21::j 22::j 23::j 24::j 25::j 26::j 27::j 28::j 29::j 30::j 31::j 32::j 33::j 34::j 35::j 36::j 37::j 38::j 39::j 40::j 41::j 42::j 43::j 44::j 45::j 46::j 47::j 48::j 49::j 50::j 51::j 52::[])/\WS h q hh p (l++u8 (ls R).length::a.flatMap b0N) []) ?_ ?_ _ _ ?_
 rotate_left 2
 ·exact a0q (by simp) (by have:=ws'.drop;simpa [oqh] using this)
 clear hk hl
 ·rintro a x r fr hh hll ⟨j,rfl,ws⟩
  obtain ⟨hx1,hx2,hx3⟩:=hR x (by rw [hll];simp)
  have hil:a.length < (ls R).length:=by rw [hll];simp
  obtain rfl:=a0R hll
  have hi:=N6 (P:=prog) (enc:=l7) (s:=2) (l:=a++x::r) (i:=a.length) underlying79 (by simp) (by omega) (by simp)
  have hr:=O9 (enc:=l7) (s:=2) a0d a x r (o:=0) (n:=2) (by omega)
  simp only [Nat.add_zero,L4 (a0d _)] at hr
  obtain ⟨xn,xl⟩:=x
  simp only [l7] at hr
  have hw:IntKind.i64.wrap ((a.length:Int) + 1) = ((a.length:Int) + 1):=J1 (by simp at hR4;omega)
  have hk:=oqk
  simp only [K6,List.flatMap_append,List.flatMap_cons,oqa] at hl0
  have hl1:l.length + 1 + (a.flatMap b0N).length + (4 + xn.length) + 1 + ((ls xl).flatMap a0T).length <= 1099511627776:=by
   simp only [b0N,I1,c8,oqa,oqb] at hl0;omega
  have hlA:(l++u8 (a++⟨xn,xl⟩::r).length::a.flatMap b0N).length = l.length + 1 + (a.flatMap b0N).length:=by simp;omega
  obtain ⟨A,hA⟩:∃ A,l++u8 (a++(⟨xn,xl⟩:Column)::r).length::a.flatMap b0N = A:=⟨_,rfl⟩
  have hA2:l++u8 (a++(⟨xn,xl⟩:Column)::r).length::(a++[(⟨xn,xl⟩:Column)]).flatMap b0N = A++(I1 xn++(u8 (ls xl).length::(ls xl).flatMap a0T)):=by
   rw [<- hA];simp [b0N]
  simp only [K6] at ws |-
  rw [hA] at ws hlA
  rw [hA2]
  have hl:A.length + ((4 + xn.length) + (1 + ((ls xl).flatMap a0T).length)) <= 1099511627776:=by omega
  first | (refine s9 ?_;intro Q6 Y6) | have Y6:=oqk
  repeat' (first
   | (replace Y6:=Y6;simp [hi,hr,B6,W4,c0a hx1])
   | (refine Y6 _ _ _ ?_;clear Y6 Q6;first | simp only [] | simp [hi,hr,hw,B6,W4,b0h,c0a hx1,hk] | skip)
   | (refine F6 (by assumption) ?_;(try clear Y6);first | simp only [] | simp [hi] | skip)
   | ((fail_if_success replace Y6:=Y6);(first | refine s9 ?_ | refine A1 ?_ | refine A4 ?_);intro Q6 Y6)
   | ((with_reducible refine S7 ?_);first
    | (refine C8 (a0V _) (by first | assumption | exact WS.new (by assumption) _ | exact WS.new (WS.new (by assumption) _) _) (by first | (simp only [oqa,oqb,oqc,c8,I1];omega) | exact hl | omega | (simp only [oqa,oqb,oqc,c8] at hl |-;omega) | (simp at hl |-;omega)) ?_;clear hk;intro h' ws' hk;(try simp only [J4,and_true] at hk);(first | (have hk:=hk;skip) | have hk:=oqk);(try simp [hk]))
    | (refine P8 (by first | assumption | omega) (by first | assumption | exact WS.new (by assumption) _ | exact WS.new (WS.new (by assumption) _) _) (by first | (simp only [oqa,c8,I1];omega) | exact hl | omega | (simp only [oqa,oqb,oqc,c8] at hl |-;omega) | (simp at hl |-;omega)) (by first | rfl | simp) ?_;clear hk;intro h' ws' hk;(try simp only [J4,and_true] at hk);(first | (have hk:=hk;skip) | have hk:=oqk);(try simp [B6,W4,b0h,hk])))
   | (first | apply cF | apply wN | apply wS) <;> intro Ya <;> (try simp only [Ya]) <;> (try simp [-List.isEmpty_iff,-List.isEmpty_eq_false_iff] at Ya))
  all_goals first | omega | skip
  have hwsB:WS h q h' p (A++(I1 xn++[u8 (ls xl).length])) []:=by have:=ws'.drop;simpa [oqh] using this
  clear ws' hk
  refine I8 hp (ls xl) (fun a2 r2 fr h2=>∃ j:Nat->AV,fr = ((.one (.ptr p 0 0))::j 1::j 2::j 3::j 4::j 5::j 6::j 7::j 8::j 9::j 10::j 11::j 12::j 13::j 14::j 15::j 16::j 17::(.one (sl 2 l7 (some (a++⟨xn,xl⟩::r))))::(.one (ii (a++(⟨xn,xl⟩:Column)::r).length))::(.one (ii a.length))::j 21::j 22::j 23::j 24::j 25::j 26::j 27::j 28::j 29::j 30::j 31::j 32::j 33::j 34::j 35::(.one (sl 4 i9 xl))::(.one (ii (ls xl).length))::(.one (ii a2.length))::j 39::j 40::j 41::j 42::j 43::j 44::j 45::j 46::j 47::j 48::j 49::j 50::j 51::j 52::[])/\WS h q h2 p (A++(I1 xn++(u8 (ls xl).length::a2.flatMap a0T))) []) ?_ ?_ _ _ ?_
  rotate_left 2
  ·exact a0q (by simp) (by simpa using hwsB)
  clear hwsB
  ·rintro a2 x r2 fr h2 hll ⟨j2,rfl,ws2⟩
   have hxb:=hx3 x (by simp only;rw [hll];simp)
   simp only [oqa] at hx2
   obtain rfl:=a0R hll
   have hi2:=N6 (P:=prog) (enc:=i9) (s:=4) (l:=a2++x::r2) (i:=a2.length) underlying89 (by simp) (by omega) (by simp)
   have hr2:=O9 (enc:=i9) (s:=4) J0 a2 x r2 (o:=0) (n:=4) (by omega)
   simp only [Nat.add_zero,L4 (J0 _)] at hr2
   obtain ⟨xt,⟨xv_kind,xv_b,xv_n⟩⟩:=x
   simp only [i9] at hr2
   have hw2:IntKind.i64.wrap ((a2.length:Int) + 1) = ((a2.length:Int) + 1):=J1 (by simp at hx2;omega)
   simp only [K6,List.flatMap_append,List.flatMap_cons,oqa,a0T,b0K,c8] at hl
   have hl3:A.length + (4 + xn.length) + 1 + (a2.flatMap a0T).length + 8 + (a0W ⟨xv_kind,xv_b,xv_n⟩).length <= 1099511627776:=by
    have e:(a2.flatMap a0T).length = (a2.flatMap fun x=>be 8 (u64 x.time)++a0W x.v).length:=rfl
    omega
   simp only [K6] at ws2 |-
   obtain ⟨B,hB⟩:∃ B,A++(I1 xn++(u8 (a2++(⟨xt,⟨xv_kind,xv_b,xv_n⟩⟩:Version)::r2).length::a2.flatMap a0T)) = B:=⟨_,rfl⟩
   have hBl:B.length = A.length + (4 + xn.length) + 1 + (a2.flatMap a0T).length:=by rw [<- hB];simp only [I1,c8,oqa,oqb];omega
   have hB2:A++(I1 xn++(u8 (a2++(⟨xt,⟨xv_kind,xv_b,xv_n⟩⟩:Version)::r2).length::(a2++[(⟨xt,⟨xv_kind,xv_b,xv_n⟩⟩:Version)]).flatMap a0T)) = B++(b0K xt++a0W ⟨xv_kind,xv_b,xv_n⟩):=by
    rw [<- hB];simp [a0T]
   rw [hB] at ws2
   rw [hB2]
   have hk:=oqk
   have ws:=ws2
   clear hl
   have hl:B.length + (8 + (a0W ⟨xv_kind,xv_b,xv_n⟩).length) <= 1099511627776:=by omega
   first | (refine s9 ?_;intro Q7 Y7) | have Y7:=oqk
   repeat' (first
    | (replace Y7:=Y7;simp [hi2,hr2,B6])
    | (refine Y7 _ _ _ ?_;clear Y7 Q7;first | simp only [] | simp [hi2,hr2,hw2,B6,b0h,hk] | skip)
    | (refine F6 (by assumption) ?_;(try clear Y7);first | simp only [] | simp [hi2,hr2,hw2,B6,b0h,hk] | skip)
    | ((fail_if_success replace Y7:=Y7);(first | refine s9 ?_ | refine A1 ?_ | refine A4 ?_);intro Q7 Y7)
    | ((with_reducible refine S7 ?_);first
     | (refine C8 (z0K _) (by first | assumption | exact WS.new (by assumption) _ | exact WS.new (WS.new (by assumption) _) _) (by first | (simp only [oqa,c8,b0K];omega) | exact hl | omega | (simp only [oqa] at hl |-;omega) | (simp at hl |-;omega)) ?_;clear hk;intro h' ws' hk;(try simp only [J4,and_true] at hk);(first | (have hk:=hk;skip) | have hk:=oqk);(try simp [hk]))
     | (refine C8 (F0Z xv_kind xv_b xv_n hxb) (by first | assumption | exact WS.new (by assumption) _ | exact WS.new (WS.new (by assumption) _) _) (by first | (simp only [oqa,c8,b0K];omega) | exact hl | omega | (simp only [oqa,oqb,oqc,c8] at hl |-;omega) | (simp at hl |-;omega)) ?_;clear hk;intro h' ws' hk;(try simp only [J4,and_true] at hk);(first | (have hk:=hk;skip) | have hk:=oqk);(try simp [hw2]))
     | (refine P8 (by first | assumption | omega) (by first | assumption | exact WS.new (by assumption) _ | exact WS.new (WS.new (by assumption) _) _) (by first | (simp only [oqa,oqb,oqc,c8,I1,L7,N8,b0K];omega) | exact hl | omega | (simp only [oqa,oqb,oqc,c8] at hl |-;omega) | (simp at hl |-;omega)) (by first | rfl | simp) ?_;clear hk;intro h' ws' hk;(try simp only [J4,and_true,A6] at hk);(first | (have hk:=hk;skip) | have hk:=oqk);(try simp [hi2,hr2,hw2,B6,b0h,hk])))
    | (first | apply cF | apply wN | apply wS) <;> intro Ya <;> (try simp only [Ya]) <;> (try simp [-List.isEmpty_iff,-List.isEmpty_eq_false_iff] at Ya))
   all_goals first | omega | (refine a0q (by simp) ?_;have:=ws'.drop;simpa [oqh] using this)
  ·rintro fr h2 ⟨j2,rfl,ws2⟩
   have hk:=oqk
   have ws':=ws2
   first | (refine s9 ?_;intro Q8 Y8) | have Y8:=oqk
   repeat' (first
    | (replace Y8:=Y8;simp [hw])
    | (refine Y8 _ _ _ ?_;clear Y8 Q8;first | simp only [] | simp [hw,hk] | skip)
    | (refine F6 (by assumption) ?_;(try clear Y8);first | simp only [] | simp [hw,hk] | skip)
    | ((fail_if_success replace Y8:=Y8);(first | refine s9 ?_ | refine A1 ?_ | refine A4 ?_);intro Q8 Y8)
    | ((with_reducible refine S7 ?_);first
     | (refine C8 (a0V 0) (by first | assumption | exact WS.new (by assumption) _ | exact WS.new (WS.new (by assumption) _) _) (by first | (simp only [oqa,oqb,oqc,c8,I1,L7,N8,b0K];omega) | exact hl | omega | (simp only [oqa,oqb,oqc,c8] at hl |-;omega) | (simp at hl |-;omega)) ?_;clear hk;intro h' ws' hk;(try simp only [J4,and_true,A6] at hk);(first | (have hk:=hk;skip) | have hk:=oqk);(try simp [hw,hk]))
     | (refine P8 (by first | assumption | omega) (by first | assumption | exact WS.new (by assumption) _ | exact WS.new (WS.new (by assumption) _) _) (by first | (simp only [oqa,oqb,oqc,c8,I1,L7,N8,b0K];omega) | exact hl | omega | (simp only [oqa,oqb,oqc,c8] at hl |-;omega) | (simp at hl |-;omega)) (by first | rfl | simp) ?_;clear hk;intro h' ws' hk;(try simp only [J4,and_true,A6] at hk);(first | (have hk:=hk;skip) | have hk:=oqk);(try simp [hw,hk])))
    | (first | apply cF | apply wN | apply wS) <;> intro Ya <;> (try simp only [Ya]) <;> (try simp [-List.isEmpty_iff,-List.isEmpty_eq_false_iff] at Ya))
   refine a0q (by simp) ?_
   simpa [oqh] using ws'
 ·rintro fr hh ⟨j,rfl,ws⟩
  have hk:=oqk
  have ws':=ws
  first | (refine s9 ?_;intro Q9 Y9) | have Y9:=oqk
  repeat' (first
   | (replace Y9:=Y9;simp [hk])
   | (refine Y9 _ _ _ ?_;clear Y9 Q9;first | simp only [] | simp [hk] | skip)
   | (refine F6 (by assumption) ?_;(try clear Y9);first | simp only [] | simp [hk] | skip)
   | ((fail_if_success replace Y9:=Y9);(first | refine s9 ?_ | refine A1 ?_ | refine A4 ?_);intro Q9 Y9)
   | ((with_reducible refine S7 ?_);first
    | (refine C8 (a0V 0) (by first | assumption | exact WS.new (by assumption) _ | exact WS.new (WS.new (by assumption) _) _) (by first | (simp only [oqa,oqb,oqc,c8,I1,L7,N8,b0K];omega) | exact hl | omega | (simp only [oqa,oqb,oqc,c8] at hl |-;omega) | (simp at hl |-;omega)) ?_;clear hk;intro h' ws' hk;(try simp only [J4,and_true,A6] at hk);(first | (have hk:=hk;skip) | have hk:=oqk);(try simp [hk]))
    | (refine P8 (by first | assumption | omega) (by first | assumption | exact WS.new (by assumption) _ | exact WS.new (WS.new (by assumption) _) _) (by first | (simp only [oqa,oqb,oqc,c8,I1,L7,N8,b0K];omega) | exact hl | omega | (simp only [oqa,oqb,oqc,c8] at hl |-;omega) | (simp at hl |-;omega)) (by first | rfl | simp) ?_;clear hk;intro h' ws' hk;(try simp only [J4,and_true,A6] at hk);(first | (have hk:=hk;skip) | have hk:=oqk);(try simp [hk])))
   | (first | apply cF | apply wN | apply wS) <;> intro Ya <;> (try simp only [Ya]) <;> (try simp [-List.isEmpty_iff,-List.isEmpty_eq_false_iff] at Ya))
  exact ⟨_,ws'⟩
theorem v0U {h0 h:H} {q0:Option Nat} {p:Nat} {l:BL} {kept:List (Nat × Blk)} (w:WS h0 q0 h p l kept) {b:Nat} {k:Blk} (hf:h.f b = some k) (hb:b < h0.next) (hp:b ≠ p) (hq:q0 ≠ some b):WS h0 q0 h p l ((b,k)::kept):=by
 obtain ⟨q,w,g,hk,hd⟩:=w
 refine ⟨q,w,g,⟨hf,hk⟩,fun e he=>?_⟩
 rcases oqf.1 he with rfl | he
 ·refine ⟨oqp hb g.next,hp, ?_⟩
  rcases g.own with e | ⟨x,e,hx⟩
  ·rw [e];exact hq
  ·rw [e];intro hc;cases hc;omega
 ·exact hd e he
theorem s0k {h0 h:H} {q0:Option Nat} {p:Nat} {l:BL} {kept:List (Nat × Blk)} (w:WS h0 q0 h p l kept) {b:Nat} (hb:b < h0.next) (hp:b ≠ p) (hq:q0 ≠ some b):h.f b = h0.f b:=by
 obtain ⟨q,_,g,_⟩:=w;exact g.keep b hb hp hq
structure Apart (t:Nat) (tq:Option Nat) (p:Nat) (q:Option Nat):Prop where
 tp:t ≠ p
 qt:q ≠ some t
 bp:tq ≠ some p
 qb:∀ b,tq = some b->q ≠ some b
theorem n0f {K:Conf} {f:Nat} {args:List AV} {h:H} {p:Nat} {q:Option Nat} {x:BL} (hh:∃ r,W K f args h = some r/\∃ h' kept,r = .ret (.tup []) h'/\WS h q h' p x kept):∃ h' q',W K f args h = some (.ret (.tup []) h')/\Wr h' p q' x/\Only h h' p q q':=by
 obtain ⟨r,e,h',kept,rfl,q',w',g',_⟩:=hh
 exact ⟨h',q',e,w',g'⟩
theorem C0C {h:H} {p t:Nat} {q tq:Option Nat} {l:BL} {tl:List Named} (w:Wr h p q l) (bx:Bx h t 2 g9 tl tq) (ok:TblOk tl) (ha:Apart t tq p q) (hl:l.length + (c0i tl).length <= 1099511627776) :
  ∃ h' q',W K 100 [.one (.ptr t 0 0),.one (.ptr p 0 0)] h = some (.ret (.tup []) h')/\Wr h' p q' (l++c0i tl)/\Only h h' p q q':=by
 refine n0f ?_
 have hlen:=ok.len
 have hcl:=A8 C4 tl
 obtain ⟨w1,s,w2,w3,w4,w5⟩:=bx
 have hs:=w3.sees C4
 have hla:∀ (u:TypeId) (h':H),V9 s (some (.slice u)) h' = some (one (ii tl.length) h'):=fun u h'=>U4 h' u hs (by omega) hcl
 have ws:=v0U (WS.start w) w2 w1 ha.tp ha.qt
 have hk:=w2
 simp only [c0i] at hl |-
 have hl0:l.length + (4 + (tl.flatMap K9).length) <= 1099511627776:=by simp only [oqa,N8,c8] at hl;omega
 refine j0P hp rfl rfl rfl func100 rfl (by simp [f100]) ?_
 simp only [f100]
 first | (refine s9 ?_;intro Q1 Y1) | have Y1:=oqk
 repeat' (first
  | (replace Y1:=Y1;simp [hla,B6,hk])
  | (refine Y1 _ _ _ ?_;clear Y1 Q1;first | simp only [] | simp [hla,B6,hk] | skip)
  | (refine F6 (by assumption) ?_;(try clear Y1);first | simp only [] | simp [hla,B6,hk] | skip)
  | ((fail_if_success replace Y1:=Y1);(first | refine s9 ?_ | refine A1 ?_ | refine A4 ?_);intro Q1 Y1)
  | ((with_reducible refine S7 ?_);first
   | (refine C8 (j0a _) (by first | assumption | exact WS.new (by assumption) _ | exact WS.new (WS.new (by assumption) _) _) (by first | (simp only [c8,N8];omega) | exact hl | omega | (simp only [oqa,oqb,oqc,c8] at hl |-;omega) | (simp at hl |-;omega)) ?_;clear hk;intro h' ws' hk;(try simp only [J4,and_true] at hk);(first | (have hk:=hk;skip) | have hk:=oqk);(try simp [hla,hk]))
   | (refine P8 (by first | assumption | omega) (by first | assumption | exact WS.new (by assumption) _ | exact WS.new (WS.new (by assumption) _) _) (by first | (simp only [oqa,oqb,oqc,c8,I1,L7,N8,b0K];omega) | exact hl | omega | (simp only [oqa,oqb,oqc,c8] at hl |-;omega) | (simp at hl |-;omega)) (by first | rfl | simp) ?_;clear hk;intro h' ws' hk;(try simp only [J4,and_true,A6] at hk);(first | (have hk:=hk;skip) | have hk:=oqk);(try simp [hla,B6,hk]))))
 refine I8 hp tl (fun a r fr hh=>∃ j:Nat->AV,fr = (j 0::(.one (.ptr p 0 0))::j 2::j 3::j 4::j 5::j 6::j 7::j 8::j 9::j 10::j 11::j 12::j 13::j 14::j 15::j 16::(.one s)::(.one (ii tl.length))::(.one (ii a.length))::j 20::j 21::j 22::j 23::j 24::j 25::j 26::j 27::j 28::j 29::j 30::j 31::j 32::[])/\WS h q hh p (l++(N8 tl.length++a.flatMap K9)) []) ?_ ?_ _ _ ?_
 rotate_left 2
 ·exact a0q (by simp) (by have:=ws'.drop;simpa [oqh] using this)
 clear hk ws'
 ·rintro a x r fr hh hll ⟨j,rfl,ws⟩
  have hil:a.length < tl.length:=by rw [hll];simp
  have hxe:tl[a.length] = x:=by simp only [hll];simp
  have hxm:x ∈ tl:=by rw [hll];simp
  have hsee:Sees hh 2 s (cat g9 tl):=Rw.sees_keep hs fun b hb=>s0k ws (w3.lt hb) (fun e=>ha.bp (by rw [<- w4,hb,e])) (ha.qb b (by rw [<- w4,hb]))
  have hix:U7 prog 48 s a.length = some (atS 2 s a.length):=a0b underlying48 (by simp) hsee (by omega) hcl hil
  have hrd:K8 hh (atS 2 s a.length) 2 = some (g9 x):=by rw [a0z hsee (by omega) hcl hil,d0F C4 _ hil,hxe]
  have hw:IntKind.i64.wrap ((a.length:Int) + 1) = (a.length:Int) + 1:=J1 (by omega)
  have hx1:x.name.length <= 1048576:=by have:=ok.nm x hxm;simp only [J9,oqd,oqj] at this;omega
  have hx2:=q0x ok hxm
  have hlf:(tl.flatMap K9).length = (a.flatMap K9).length + ((K9 x).length + (r.flatMap K9).length):=by rw [hll];simp only [List.flatMap_append,List.flatMap_cons,oqa]
  obtain ⟨xn,xr⟩:=x
  simp only [g9] at hrd
  simp only at hx1 hx2
  obtain ⟨A,hA⟩:∃ A,l++(N8 tl.length++a.flatMap K9) = A:=⟨_,rfl⟩
  have hAl:A.length = l.length + (4 + (a.flatMap K9).length):=by rw [<- hA];simp only [oqa,N8,c8]
  have hA2:l++(N8 tl.length++(a++[(⟨xn,xr⟩:Named)]).flatMap K9) = A++(I1 xn++g0K xr):=by rw [<- hA];simp [K9]
  rw [hA] at ws
  rw [hA2]
  have hk:=oqk
  clear hl
  have hl:A.length + (4 + xn.length + (g0K xr).length) <= 1099511627776:=by
   simp only [K9,I1,oqa,c8] at hlf;omega
  first | (refine s9 ?_;intro Q2 Y2) | have Y2:=oqk
  repeat' (first
   | (replace Y2:=Y2;simp [hix,hrd,hil,B6,W4,c0a hx1])
   | (refine Y2 _ _ _ ?_;clear Y2 Q2;first | simp only [] | simp [hix,hrd,hil,hw,B6,W4,c0a hx1,hk] | skip)
   | (refine F6 (by assumption) ?_;(try clear Y2);first | simp only [] | simp [hix,hrd,hil,hw,B6,W4,c0a hx1,hk] | skip)
   | ((fail_if_success replace Y2:=Y2);(first | refine s9 ?_ | refine A1 ?_ | refine A4 ?_);intro Q2 Y2)
   | ((with_reducible refine S7 ?_);first
    | (refine C8 (A0P xr hx2) (by first | assumption | exact WS.new (by assumption) _ | exact WS.new (WS.new (by assumption) _) _) (by first | (simp only [oqa,c8,I1];omega) | exact hl | omega | (simp only [oqa,oqb,oqc,c8] at hl |-;omega) | (simp at hl |-;omega)) ?_;clear hk;intro h' ws' hk;(try simp only [J4,and_true] at hk);(first | (have hk:=hk;skip) | have hk:=oqk);(try simp [hw]))
    | (refine P8 (by first | assumption | omega) (by first | assumption | exact WS.new (by assumption) _ | exact WS.new (WS.new (by assumption) _) _) (by first | (simp only [oqa,c8,I1];omega) | exact hl | omega | (simp only [oqa,oqb,oqc,c8] at hl |-;omega) | (simp at hl |-;omega)) (by first | rfl | simp) ?_;clear hk;intro h' ws' hk;(try simp only [J4,and_true] at hk);(first | (have hk:=hk;skip) | have hk:=oqk);(try simp [hk]))))
  all_goals first | omega | (refine a0q (by simp) ?_;have:=ws'.drop;simpa [oqh] using this)
 ·rintro fr hh ⟨j,rfl,ws⟩
  have hk:=oqk
  have ws':=ws
  first | (refine s9 ?_;intro Q3 Y3) | have Y3:=oqk
  repeat' (first
   | (replace Y3:=Y3;simp [hk])
   | (refine Y3 _ _ _ ?_;clear Y3 Q3;first | simp only [] | simp [hk] | skip)
   | (refine F6 (by assumption) ?_;(try clear Y3);first | simp only [] | simp [hk] | skip)
   | ((fail_if_success replace Y3:=Y3);(first | refine s9 ?_ | refine A1 ?_ | refine A4 ?_);intro Q3 Y3)
   | ((with_reducible refine S7 ?_);first
    | (refine C8 (a0V 0) (by first | assumption | exact WS.new (by assumption) _ | exact WS.new (WS.new (by assumption) _) _) (by first | (simp only [oqa,oqb,oqc,c8,I1,L7,N8,b0K];omega) | exact hl | omega | (simp only [oqa,oqb,oqc,c8] at hl |-;omega) | (simp at hl |-;omega)) ?_;clear hk;intro h' ws' hk;(try simp only [J4,and_true,A6] at hk);(first | (have hk:=hk;skip) | have hk:=oqk);(try simp [hk]))
    | (refine P8 (by first | assumption | omega) (by first | assumption | exact WS.new (by assumption) _ | exact WS.new (WS.new (by assumption) _) _) (by first | (simp only [oqa,oqb,oqc,c8,I1,L7,N8,b0K];omega) | exact hl | omega | (simp only [oqa,oqb,oqc,c8] at hl |-;omega) | (simp at hl |-;omega)) (by first | rfl | simp) ?_;clear hk;intro h' ws' hk;(try simp only [J4,and_true,A6] at hk);(first | (have hk:=hk;skip) | have hk:=oqk);(try simp [hk]))))
  exact ⟨_,ws'⟩
theorem B0K {h:H} {p t:Nat} {q tq:Option Nat} {l:BL} {tl:List Tld} (w:Wr h p q l) (bx:Bx h t 3 J7 tl tq) (ok:CchOk tl) (ha:Apart t tq p q) (hl:l.length + (b0M tl).length <= 1099511627776) :
  ∃ h' q',W K 101 [.one (.ptr t 0 0),.one (.ptr p 0 0)] h = some (.ret (.tup []) h')/\Wr h' p q' (l++b0M tl)/\Only h h' p q q':=by
 refine n0f ?_
 have hlen:=ok.len
 have hcl:=A8 b0D tl
 obtain ⟨w1,s,w2,w3,w4,w5⟩:=bx
 have hs:=w3.sees b0D
 have hla:∀ (u:TypeId) (h':H),V9 s (some (.slice u)) h' = some (one (ii tl.length) h'):=fun u h'=>U4 h' u hs (by omega) hcl
 have ws:=v0U (WS.start w) w2 w1 ha.tp ha.qt
 have hk:=w2
 simp only [b0M] at hl |-
 have hl0:l.length + (4 + (tl.flatMap b0q).length) <= 1099511627776:=by simp only [oqa,N8,c8] at hl;omega
 refine j0P hp rfl rfl rfl func101 rfl (by simp [f101]) ?_
 simp only [f101]
 first | (refine s9 ?_;intro Q4 Y4) | have Y4:=oqk
 repeat' (first
  | (replace Y4:=Y4;simp [hla,B6,hk])
  | (refine Y4 _ _ _ ?_;clear Y4 Q4;first | simp only [] | simp [hla,B6,hk] | skip)
  | (refine F6 (by assumption) ?_;(try clear Y4);first | simp only [] | simp [hla,B6,hk] | skip)
  | ((fail_if_success replace Y4:=Y4);(first | refine s9 ?_ | refine A1 ?_ | refine A4 ?_);intro Q4 Y4)
  | ((with_reducible refine S7 ?_);first
   | (refine C8 (j0a _) (by first | assumption | exact WS.new (by assumption) _ | exact WS.new (WS.new (by assumption) _) _) (by first | (simp only [c8,N8];omega) | exact hl | omega | (simp only [oqa,oqb,oqc,c8] at hl |-;omega) | (simp at hl |-;omega)) ?_;clear hk;intro h' ws' hk;(try simp only [J4,and_true] at hk);(first | (have hk:=hk;skip) | have hk:=oqk);(try simp [hla,hk]))
   | (refine P8 (by first | assumption | omega) (by first | assumption | exact WS.new (by assumption) _ | exact WS.new (WS.new (by assumption) _) _) (by first | (simp only [oqa,oqb,oqc,c8,I1,L7,N8,b0K];omega) | exact hl | omega | (simp only [oqa,oqb,oqc,c8] at hl |-;omega) | (simp at hl |-;omega)) (by first | rfl | simp) ?_;clear hk;intro h' ws' hk;(try simp only [J4,and_true,A6] at hk);(first | (have hk:=hk;skip) | have hk:=oqk);(try simp [hla,B6,hk]))))
 refine I8 hp tl (fun a r fr hh=>∃ j:Nat->AV,fr = (j 0::(.one (.ptr p 0 0))::j 2::j 3::j 4::j 5::j 6::j 7::j 8::j 9::j 10::j 11::j 12::j 13::j 14::j 15::j 16::(.one s)::(.one (ii tl.length))::(.one (ii a.length))::j 20::j 21::j 22::j 23::j 24::j 25::j 26::j 27::j 28::j 29::j 30::j 31::j 32::j 33::j 34::j 35::j 36::j 37::[])/\WS h q hh p (l++(N8 tl.length++a.flatMap b0q)) []) ?_ ?_ _ _ ?_
 rotate_left 2
 ·exact a0q (by simp) (by have:=ws'.drop;simpa [oqh] using this)
 clear hk ws'
 ·rintro a x r fr hh hll ⟨j,rfl,ws⟩
  have hil:a.length < tl.length:=by rw [hll];simp
  have hxe:tl[a.length] = x:=by simp only [hll];simp
  have hxm:x ∈ tl:=by rw [hll];simp
  have hsee:Sees hh 3 s (cat J7 tl):=Rw.sees_keep hs fun b hb=>s0k ws (w3.lt hb) (fun e=>ha.bp (by rw [<- w4,hb,e])) (ha.qb b (by rw [<- w4,hb]))
  have hix:U7 prog 143 s a.length = some (atS 3 s a.length):=a0b underlying143 (by simp) hsee (by omega) hcl hil
  have hrd:K8 hh (atS 3 s a.length) 3 = some (J7 x):=by rw [a0z hsee (by omega) hcl hil,d0F b0D _ hil,hxe]
  have hw:IntKind.i64.wrap ((a.length:Int) + 1) = (a.length:Int) + 1:=J1 (by omega)
  have hx1:=(a0B (ok.ok x hxm)).2.2.2.2
  have hlf:(tl.flatMap b0q).length = (a.flatMap b0q).length + ((b0q x).length + (r.flatMap b0q).length):=by rw [hll];simp only [List.flatMap_append,List.flatMap_cons,oqa]
  obtain ⟨xc,xs,xb⟩:=x
  simp only [J7] at hrd
  simp only at hx1
  obtain ⟨A,hA⟩:∃ A,l++(N8 tl.length++a.flatMap b0q) = A:=⟨_,rfl⟩
  have hAl:A.length = l.length + (4 + (a.flatMap b0q).length):=by rw [<- hA];simp only [oqa,N8,c8]
  have hA2:l++(N8 tl.length++(a++[(⟨xc,xs,xb⟩:Tld)]).flatMap b0q) = A++(u8 xc::(N8 xs++I1 (ls xb))):=by rw [<- hA];simp [b0q]
  rw [hA] at ws
  rw [hA2]
  have hk:=oqk
  clear hl
  have hl:A.length + (1 + 4 + (4 + (ls xb).length)) <= 1099511627776:=by
   simp only [b0q,I1,N8,oqa,oqb,c8] at hlf;omega
  first | (refine s9 ?_;intro Q5 Y5) | have Y5:=oqk
  repeat' (first
   | (replace Y5:=Y5;simp [hix,hrd,hil,B6,b0h])
   | (refine Y5 _ _ _ ?_;clear Y5 Q5;first | simp only [] | simp [hix,hrd,hil,hw,B6,b0h,hk] | skip)
   | (refine F6 (by assumption) ?_;(try clear Y5);first | simp only [] | simp [hix,hrd,hil,hw,B6,b0h,hk] | skip)
   | ((fail_if_success replace Y5:=Y5);(first | refine s9 ?_ | refine A1 ?_ | refine A4 ?_);intro Q5 Y5)
   | ((with_reducible refine S7 ?_);first
    | (refine C8 (a0V _) (by first | assumption | exact WS.new (by assumption) _ | exact WS.new (WS.new (by assumption) _) _) (by first | (simp only [oqa,oqb,oqc,c8,N8];omega) | exact hl | omega | (simp only [oqa,oqb,oqc,c8] at hl |-;omega) | (simp at hl |-;omega)) ?_;clear hk;intro h' ws' hk;(try simp only [J4,and_true] at hk);(first | (have hk:=hk;skip) | have hk:=oqk);(try simp [B6,hk]))
    | (refine C8 (j0a _) (by first | assumption | exact WS.new (by assumption) _ | exact WS.new (WS.new (by assumption) _) _) (by first | (simp only [oqa,oqb,oqc,c8,N8];omega) | exact hl | omega | (simp only [oqa,oqb,oqc,c8] at hl |-;omega) | (simp at hl |-;omega)) ?_;clear hk;intro h' ws' hk;(try simp only [J4,and_true] at hk);(first | (have hk:=hk;skip) | have hk:=oqk);(try simp [hk]))
    | (refine C8 (r0v xb hx1) (by first | assumption | exact WS.new (by assumption) _ | exact WS.new (WS.new (by assumption) _) _) (by first | (simp only [oqa,oqb,oqc,c8,I1,N8];omega) | exact hl | omega | (simp only [oqa,oqb,oqc,c8] at hl |-;omega) | (simp at hl |-;omega)) ?_;clear hk;intro h' ws' hk;(try simp only [J4,and_true] at hk);(first | (have hk:=hk;skip) | have hk:=oqk);(try simp [hw]))
    | (refine P8 (by first | assumption | omega) (by first | assumption | exact WS.new (by assumption) _ | exact WS.new (WS.new (by assumption) _) _) (by first | (simp only [oqa,oqb,oqc,c8,I1,L7,N8,b0K];omega) | exact hl | omega | (simp only [oqa,oqb,oqc,c8] at hl |-;omega) | (simp at hl |-;omega)) (by first | rfl | simp) ?_;clear hk;intro h' ws' hk;(try simp only [J4,and_true,A6] at hk);(first | (have hk:=hk;skip) | have hk:=oqk);(try simp [hix,hrd,hil,hw,B6,b0h,hk]))))
  all_goals first | omega | (refine a0q (by simp) ?_;have:=ws'.drop;simpa [oqh] using this)
 ·rintro fr hh ⟨j,rfl,ws⟩
  have hk:=oqk
  have ws':=ws
  first | (refine s9 ?_;intro Q6 Y6) | have Y6:=oqk
  repeat' (first
   | (replace Y6:=Y6;simp [hk])
   | (refine Y6 _ _ _ ?_;clear Y6 Q6;first | simp only [] | simp [hk] | skip)
   | (refine F6 (by assumption) ?_;(try clear Y6);first | simp only [] | simp [hk] | skip)
   | ((fail_if_success replace Y6:=Y6);(first | refine s9 ?_ | refine A1 ?_ | refine A4 ?_);intro Q6 Y6)
   | ((with_reducible refine S7 ?_);first
    | (refine C8 (a0V 0) (by first | assumption | exact WS.new (by assumption) _ | exact WS.new (WS.new (by assumption) _) _) (by first | (simp only [oqa,oqb,oqc,c8,I1,L7,N8,b0K];omega) | exact hl | omega | (simp only [oqa,oqb,oqc,c8] at hl |-;omega) | (simp at hl |-;omega)) ?_;clear hk;intro h' ws' hk;(try simp only [J4,and_true,A6] at hk);(first | (have hk:=hk;skip) | have hk:=oqk);(try simp [hk]))
    | (refine P8 (by first | assumption | omega) (by first | assumption | exact WS.new (by assumption) _ | exact WS.new (WS.new (by assumption) _) _) (by first | (simp only [oqa,oqb,oqc,c8,I1,L7,N8,b0K];omega) | exact hl | omega | (simp only [oqa,oqb,oqc,c8] at hl |-;omega) | (simp at hl |-;omega)) (by first | rfl | simp) ?_;clear hk;intro h' ws' hk;(try simp only [J4,and_true,A6] at hk);(first | (have hk:=hk;skip) | have hk:=oqk);(try simp [hk]))))
  exact ⟨_,ws'⟩
end Go.Proofs.YtiagcnfmgigllaaGreat
