/- A part of a proof over the abstract machine. No conditions. -/
import Derived.Test.YtiagcnfmgigllaaGreatW5
import Derived.Test.YtiagcnfmgigllaaGreatSeatK
import Derived.Test.YtiagcnfmgigllaaGreatSeatF
import Derived.Test.YtiagcnfmgigllaaGreatAb5
set_option linter.all false
namespace Go.Proofs.YtiagcnfmgigllaaGreat
open Go Go.Ab Wm Go.Proofs.Tryz
set_option maxRecDepth 10000
set_option maxHeartbeats 2000000
@[simp] theorem KP:K.P = prog:=rfl
theorem u9 (f:Nat):K.own f = a0M S.own f:=rfl
theorem G0A (n:Int) (h:H):W K 69 [.one (ii n)] h = some (.ret (.one (.bool (f0q n))) h):=by
 refine zzP func69 rfl ?_
 simp only [f69]
 intro Yb Q1 Y1
 repeat' (first
  | (replace Y1:=Y1;simp [f0q])
  | (refine Y1 _ _ _ ?_;clear Y1 Q1;first | simp only [] | simp [f0q,A7,A0,z9,c7,u9,Yb])
  | (first | apply cF | apply wN | apply wS) <;> intro Ya <;> (try simp only [Ya]) <;> (try simp [-List.isEmpty_iff,-List.isEmpty_eq_false_iff] at Ya))
 all_goals first | done | (simp_all [-List.isEmpty_iff,-List.isEmpty_eq_false_iff];done) | (simp_all;first | done | omega) | (simp;omega) | (intros;first | omega | (simp only [oqj] at *;omega) | (simp at *;omega))
theorem F0d (n m:Int) (h:H):W K 71 [.one (ii n),.one (ii m)] h = some (.ret (.one (.bool (i0J n m))) h):=by
 refine zzP func71 rfl ?_
 simp only [f71]
 intro Yb Q2 Y2
 repeat' (first
  | (replace Y2:=Y2;simp [i0J])
  | (refine Y2 _ _ _ ?_;clear Y2 Q2;first | simp only [] | simp [i0J,A7,A0,z9,c7,u9,Yb])
  | (first | apply cF | apply wN | apply wS) <;> intro Ya <;> (try simp only [Ya]) <;> (try simp [-List.isEmpty_iff,-List.isEmpty_eq_false_iff] at Ya))
 all_goals first | done | (simp_all [-List.isEmpty_iff,-List.isEmpty_eq_false_iff];done) | (simp_all;first | done | omega) | (simp;omega) | (intros;first | omega | (simp only [oqj] at *;omega) | (simp at *;omega))
theorem d0A (s:BL) (h:H):W K 111 [.one (.str s)] h = some (.ret (.one (.bool (J9 s))) h):=by
 refine zzP func111 rfl ?_
 simp only [f111]
 intro Yb Q3 Y3
 repeat' (first
  | (replace Y3:=Y3;simp [J9])
  | (refine Y3 _ _ _ ?_;clear Y3 Q3;first | simp only [] | simp [J9,A7,A0,z9,c7,u9,Yb])
  | (first | apply cF | apply wN | apply wS) <;> intro Ya <;> (try simp only [Ya]) <;> (try simp [-List.isEmpty_iff,-List.isEmpty_eq_false_iff] at Ya))
 all_goals first | done | (simp_all [-List.isEmpty_iff,-List.isEmpty_eq_false_iff,<- List.isEmpty_iff];done) | (simp_all;first | done | omega) | (simp;omega) | (intros;first | omega | (simp only [oqj] at *;omega) | (simp at *;omega))
theorem b0V (H9:Int) (v_b:Option BL) (v_n:Nat) (h:H):W K 160 [.agg [ii H9,bs v_b,.flt v_n]] h = some (.ret (.one (.bool (V7 ⟨H9,v_b,v_n⟩))) h):=by
 refine zzP func160 rfl ?_
 simp only [f160]
 intro Yb Q4 Y4
 repeat' (first
  | (replace Y4:=Y4;simp [V7])
  | (refine Y4 _ _ _ ?_;clear Y4 Q4;first | simp only [] | simp [V7,f0w,A7,A0,z9,c7,u9,Yb])
  | (first | apply cF | apply wN | apply wS) <;> intro Ya <;> (try simp only [Ya]) <;> (try simp [-List.isEmpty_iff,-List.isEmpty_eq_false_iff] at Ya))
 all_goals first | done | (simp_all [-List.isEmpty_iff,-List.isEmpty_eq_false_iff];done) | (simp_all;first | done | omega) | (simp;omega) | (intros;first | omega | (simp only [oqj] at *;omega) | (simp at *;omega))
theorem C0M (k:Int) (h:H):W K 159 [.one (ii k)] h = some (.ret (.tup [(false,[.bool (n0L k).1]),(false,[.bool (n0L k).2.1]),(false,[.bool (n0L k).2.2.1]),(false,[.bool (n0L k).2.2.2])]) h):=by
 refine zzP func159 rfl ?_
 simp only [f159]
 intro Yb Q5 Y5
 repeat' (first
  | (replace Y5:=Y5;simp [n0L])
  | (refine Y5 _ _ _ ?_;clear Y5 Q5;first | simp only [] | simp [n0L,A7,A0,z9,L9,c7,u9,Yb])
  | (first | apply cF | apply wN | apply wS) <;> intro Ya <;> (try simp only [Ya]) <;> (try simp [-List.isEmpty_iff,-List.isEmpty_eq_false_iff] at Ya))
 all_goals first | done | (simp_all [-List.isEmpty_iff,-List.isEmpty_eq_false_iff];done) | (simp_all;first | done | omega) | (simp;omega) | (intros;first | omega | (simp only [oqj] at *;omega) | (simp at *;omega))
theorem a0o (lo hi:BL) (h:H):W K 60 [.agg [.str lo,.str hi]] h = some (.ret (.one (.bool (K4 ⟨lo,hi⟩))) h):=by
 refine zzP func60 rfl ?_
 simp only [f60]
 intro Yb Q6 Y6
 repeat' (first
  | (replace Y6:=Y6;simp [O7])
  | (refine Y6 _ _ _ ?_;clear Y6 Q6;first | simp only [] | simp [K4,blt,A7,A0,z9,c7,u9,Yb])
  | (first | apply cF | apply wN | apply wS) <;> intro Ya <;> (try simp only [Ya]) <;> (try simp [-List.isEmpty_iff,-List.isEmpty_eq_false_iff] at Ya))
 all_goals first | done | (simp_all [-List.isEmpty_iff,-List.isEmpty_eq_false_iff,<- List.isEmpty_iff];done) | (simp_all;first | done | omega) | (simp;omega) | (intros;first | omega | (simp only [oqj] at *;omega) | (simp at *;omega))
theorem g0h (lo hi n:BL) (h:H):W K 103 [.agg [.str lo,.str hi],.one (.str n)] h = some (.ret (.one (.bool (G9 ⟨lo,hi⟩ n))) h):=by
 refine zzP func103 rfl ?_
 simp only [f103]
 intro Yb Q7 Y7
 repeat' (first
  | (replace Y7:=Y7;simp [O7])
  | (refine Y7 _ _ _ ?_;clear Y7 Q7;first | simp only [] | simp [G9,blt,A7,A0,z9,c7,u9,Yb])
  | (first | apply cF | apply wN | apply wS) <;> intro Ya <;> (try simp only [Ya]) <;> (try simp [-List.isEmpty_iff,-List.isEmpty_eq_false_iff] at Ya))
 all_goals first | done | (simp_all [-List.isEmpty_iff,-List.isEmpty_eq_false_iff,<- List.isEmpty_iff];done) | (simp_all;first | done | omega) | (simp;omega) | (intros;first | omega | (simp only [oqj] at *;omega) | (simp at *;omega))
theorem j0j (lo hi n:BL) (h:H):W K 70 [.agg [.str lo,.str hi],.one (.str n)] h =
  some (.ret (.tup [(true,[.str (bif a0S ⟨lo,hi⟩ n then lo else []),.str (bif a0S ⟨lo,hi⟩ n then n else [])]),(true,[.str (bif a0S ⟨lo,hi⟩ n then n else []),.str (bif a0S ⟨lo,hi⟩ n then hi else [])]),(false,[.bool (a0S ⟨lo,hi⟩ n)])]) h):=by
 refine zzP func70 rfl ?_
 simp only [f70]
 intro Yb Q8 Y8
 repeat' (first
  | (replace Y8:=Y8;simp [O7,a0o])
  | (refine Y8 _ _ _ ?_;clear Y8 Q8;first | simp only [] | simp [a0S,blt,A7,A0,z9,L9,c7,u9,Yb])
  | (first | refine dF (id:=1) h0R [(6,10)] ?_ | refine dF (id:=4) zl5 [(1,2)] ?_)
  | (first | apply cF | apply wN | apply wS) <;> intro Ya <;> (try simp only [Ya]) <;> (try simp [-List.isEmpty_iff,-List.isEmpty_eq_false_iff] at Ya))
 all_goals first | done | (simp_all [-List.isEmpty_iff,-List.isEmpty_eq_false_iff,<- List.isEmpty_iff];done) | (simp_all;first | done | omega) | (simp;omega) | (intros;first | omega | (simp only [oqj] at *;omega) | (simp at *;omega))
theorem B0O (n0m:Bool) (i0K:Bool) (a0F:BL) (P9:Int) (b0c:Option BL) (b0w:Nat) (h:H):W K 115 [.agg [.bool n0m,.bool i0K,.str a0F,ii P9,bs b0c,.flt b0w]] h = some (.ret (.one (.bool (o0D ⟨n0m,i0K,a0F,⟨P9,b0c,b0w⟩⟩))) h):=by
 refine zzP func115 rfl ?_
 simp only [f115]
 intro Yb Q9 Y9
 repeat' (first
  | (replace Y9:=Y9;simp [d0A,b0V])
  | (refine Y9 _ _ _ ?_;clear Y9 Q9;first | simp only [] | simp [o0D,A7,A0,z9,c7,u9,Yb])
  | (first | apply cF | apply wN | apply wS) <;> intro Ya <;> (try simp only [Ya]) <;> (try simp [-List.isEmpty_iff,-List.isEmpty_eq_false_iff] at Ya))
 all_goals first | done | (simp_all [-List.isEmpty_iff,-List.isEmpty_eq_false_iff];done) | (simp_all;first | done | omega) | (simp;omega) | (intros;first | omega | (simp only [oqj] at *;omega) | (simp at *;omega))
theorem g0F (B7:Int) (a0F:BL) (c0L:Int) (P9:Int) (b0c:Option BL) (b0w:Nat) (h:H):W K 114 [.agg [ii B7,.str a0F,ii c0L,ii P9,bs b0c,.flt b0w]] h = some (.ret (.one (ii (K5 ⟨B7,a0F,c0L,⟨P9,b0c,b0w⟩⟩))) h):=by
 refine zzP func114 rfl ?_
 simp only [f114]
 intro Yb Q10 Y10
 repeat' (first
  | (replace Y10:=Y10;simp [d0A,b0V,C0M])
  | (refine Y10 _ _ _ ?_;clear Y10 Q10;first | simp only [] | simp [K5,A7,A0,z9,c7,u9,Yb])
  | (first | apply cF | apply wN | apply wS) <;> intro Ya <;> (try simp only [Ya]) <;> (try simp [-List.isEmpty_iff,-List.isEmpty_eq_false_iff] at Ya))
 all_goals first | done | (simp_all [-List.isEmpty_iff,-List.isEmpty_eq_false_iff];done) | (simp_all;first | done | omega) | (simp;omega) | (intros;first | omega | (simp only [oqj] at *;omega) | (simp at *;omega))
theorem L4 {n:Nat} {l:List AS} (hl:l.length = n):sub l 0 n = some l:=by
 unfold sub;rw [if_pos (by omega),List.drop_zero,<- hl,List.take_length]
theorem l0Z (o:Option (List Wm.Change)) (g:Nat) (caps:List AS) (p:Wm.Change->Bool) (hg:∀ x h,W K g (.agg (l8 x)::caps.map AV.one) h = some (.ret (.one (.bool (p x))) h)) (hc:v9 false caps = true) (ho:(ls o).length < 9223372036854775807) (h:H) :
  W K 158 [.one (sl 6 l8 o),.one (.fn g [] caps)] h = some (.ret (.one (ii (idx p (ls o)))) h):=by
 refine zzP (hv:=by simp [M5,hc,c7,v9]) func158 rfl ?_
 simp only [f158]
 intro Yb Q1 Y1
 repeat' (first
  | (replace Y1:=Y1;simp [hc])
  | refine Y1 _ _ _ ?_
  | (first | apply cF | apply wN | apply wS) <;> intro Ya <;> (try simp only [Ya]) <;> (try simp [-List.isEmpty_iff,-List.isEmpty_eq_false_iff] at Ya))
 refine I8 hp (ls o) (fun a r fr hh=>∃ j,fr = ((.one (sl 6 l8 o))::(.one (.fn g [] caps))::j 2::j 3::(.one (ii 0))::j 5::j 6::(.one (ii (ls o).length))::(.one (ii a.length))::j 9::j 10::j 11::j 12::j 13::j 14::j 15::j 16::j 17::j 18::[])/\∀ y ∈ a,p y = false) ?_ ?_ _ _ (a0q rfl (by simp))
 ·rintro a x r fr hh hl ⟨j,rfl,ha⟩
  obtain rfl:=a0R hl
  have hi:=N6 (P:=prog) (enc:=l8) (s:=6) (l:=a++x::r) (i:=a.length) underlying33 (by simp) (by omega) (by simp)
  have hr:=O9 (enc:=l8) (s:=6) b0T a x r (o:=0) (n:=6) (by omega)
  have hw:IntKind.i64.wrap ((a.length:Int) + 1) = ((a++[x]).length:Int):=by rw [S4];exact J1 (by simp at ho;omega)
  have hx:=hg x
  simp only [Nat.add_zero] at hr
  first | (refine s9 ?_;intro Q2 Y2) | have Y2:=oqk
  repeat' (first
   | (replace Y2:=Y2;simp [hi,hr,hx,hw,L4 (b0T x)])
   | (refine Y2 _ _ _ ?_;clear Y2 Q2;first | simp only [] | simp [hi] | skip)
   | (refine F6 (by assumption) ?_;(try clear Y2);first | simp only [] | simp [A7,A0,z9,c7,u9,Yb] | skip)
   | ((fail_if_success replace Y2:=Y2);(first | refine s9 ?_ | refine A1 ?_ | refine A4 ?_);intro Q2 Y2)
   | (first | apply cF | apply wN | apply wS) <;> intro Ya <;> (try simp only [Ya]) <;> (try simp [-List.isEmpty_iff,-List.isEmpty_eq_false_iff] at Ya))
  all_goals first | omega | exact (f0i ha ‹_›).symm | (refine a0q (by simp) ?_;intro y hy;rcases oqe.mp hy with hy | hy;exact ha y hy;rw [List.mem_singleton.mp hy];assumption) | skip
 ·rintro fr hh ⟨j,rfl,ha⟩
  first | (refine s9 ?_;intro Q3 Y3) | have Y3:=oqk
  repeat' (first
   | (replace Y3:=Y3;simp [c0l ha])
   | (refine Y3 _ _ _ ?_;clear Y3 Q3;first | simp only [] | simp [c0l ha,A7,A0,z9,A5,L9,c7,v9,u9,Yb] | skip)
   | (refine F6 (by assumption) ?_;(try clear Y3);first | simp only [] | simp [c0l ha,A7,A0,z9,c7,u9,Yb] | skip)
   | ((fail_if_success replace Y3:=Y3);(first | refine s9 ?_ | refine A1 ?_ | refine A4 ?_);intro Q3 Y3)
   | (first | apply cF | apply wN | apply wS) <;> intro Ya <;> (try simp only [Ya]) <;> (try simp [-List.isEmpty_iff,-List.isEmpty_eq_false_iff] at Ya))
  all_goals first | done | (simp_all [-List.isEmpty_iff,-List.isEmpty_eq_false_iff,<- List.isEmpty_iff];done) | (simp_all;first | done | omega) | (simp;omega) | (intros;first | omega | (simp only [oqj] at *;omega) | (simp at *;omega))
theorem i0T (o:Option (List Wm.Change)) (g:Nat) (caps:List AS) (p:Wm.Change->Bool) (hg:∀ x h,W K g (.agg (l8 x)::caps.map AV.one) h = some (.ret (.one (.bool (p x))) h)) (hc:v9 false caps = true) (ho:(ls o).length < 9223372036854775807) (h:H) :
  W K 112 [.one (sl 6 l8 o),.one (.fn g [] caps)] h = some (.ret (.one (.bool ((ls o).any p))) h):=by
 have hi:=l0Z o g caps p hg hc ho
 rw [<- z0N]
 refine zzP (hv:=by simp [M5,hc,c7,v9]) func112 rfl ?_
 simp only [f112]
 intro Yb Q4 Y4
 repeat' (first
  | (replace Y4:=Y4;simp [hi,A7,A0,z9,c7,u9,Yb])
  | refine Y4 _ _ _ ?_)
theorem r0I (x:Change) (h:H):W K 113 (.agg (l8 x)::([]:List AS).map AV.one) h = some (.ret (.one (.bool (K5 x != 0))) h):=by
 obtain ⟨B7,a0F,c0L,P9,b0c,b0w⟩:=x
 simp only [l8,List.map_nil]
 refine zzP func113 rfl ?_
 simp only [f113]
 intro Yb Q5 Y5
 repeat' (first
  | (replace Y5:=Y5;simp [g0F,A7,A0,z9,c7,u9,Yb])
  | refine Y5 _ _ _ ?_)
theorem A0g {l:List Change}:(!l.any fun c=>K5 c != 0) = l.all fun c=>K5 c == 0:=by
 induction l with
 | nil=>rfl
 | cons a l ih=>rw [List.any_cons,List.all_cons,Bool.not_or,ih];simp [bne]
theorem t0k (C7:Int) (D5:BL) (L3:BL) (r9:Bool) (l9:Bool) (s8:BL) (c9:Int) (p4:Option BL) (s7:Nat) (o_l:Option (List Change)) (C5:Int) (ho:(ls o_l).length < 9223372036854775807) (h:H):W K 68 [.agg [ii C7,.str D5,.str L3,.bool r9,.bool l9,.str s8,ii c9,bs p4,.flt s7,sl 6 l8 o_l,ii C5]] h = some (.ret (.one (.bool (h0X ⟨C7,D5,L3,⟨r9,l9,s8,⟨c9,p4,s7⟩⟩,o_l,C5⟩))) h):=by
 have hcf:=i0T o_l 113 [] _ r0I rfl ho
 refine zzP func68 rfl ?_
 simp only [f68]
 intro Yb Q6 Y6
 repeat' (first
  | (replace Y6:=Y6;simp [hcf,d0A,B0O,a0o])
  | (refine Y6 _ _ _ ?_;clear Y6 Q6;first | simp only [] | simp [h0X,<- A0g,A7,A0,z9,c7,u9,Yb])
  | (first | apply cF | apply wN | apply wS) <;> intro Ya <;> (try simp only [Ya]) <;> (try simp [-List.isEmpty_iff,-List.isEmpty_eq_false_iff] at Ya))
 all_goals first | done | (simp_all [-List.isEmpty_iff,-List.isEmpty_eq_false_iff,<- List.isEmpty_iff];done) | (simp_all;first | done | omega) | (simp;omega) | (intros;first | omega | (simp only [oqj] at *;omega) | (simp at *;omega))
theorem h0S (B7:Int) (B4:Int) (B8:BL) (D9:BL) (p5:Bool) (n9:Bool) (p7:BL) (j9:Int) (p6:Option BL) (p8:Nat) (I9:Option (List Change)) (A9:Int) (r8:BL) (u7:BL) (F5:Int) (M2:BL) (W0:Int) (V8:Int) (F8:Option BL) (ho:(ls I9).length < 9223372036854775807) (h:H):W K 38 [.agg [ii B7,ii B4,.str B8,.str D9,.bool p5,.bool n9,.str p7,ii j9,bs p6,.flt p8,sl 6 l8 I9,ii A9,.str r8,.str u7,ii F5,.str M2,ii W0,ii V8,bs F8]] h = some (.ret (.one (.bool (c0j ⟨B7,⟨B4,B8,D9,⟨p5,n9,p7,⟨j9,p6,p8⟩⟩,I9,A9⟩,⟨r8,u7⟩,F5,M2,W0,V8,F8⟩))) h):=by
 have hop:=t0k B4 B8 D9 p5 n9 p7 j9 p6 p8 I9 A9 ho
 refine zzP func38 rfl ?_
 simp only [f38]
 intro Yb Q7 Y7
 repeat' (first
  | (replace Y7:=Y7;simp [hop,a0o,G0A,j0j,F0d])
  | (refine Y7 _ _ _ ?_;clear Y7 Q7;first | simp only [] | simp [c0j,A7,A0,z9,c7,u9,Yb])
  | (first | apply cF | apply wN | apply wS) <;> intro Ya <;> (try simp only [Ya]) <;> (try simp [-List.isEmpty_iff,-List.isEmpty_eq_false_iff] at Ya))
 all_goals first | done | (simp_all [-List.isEmpty_iff,-List.isEmpty_eq_false_iff];done) | (simp_all;first | done | omega) | (simp;omega) | (intros;first | omega | (simp only [oqj] at *;omega) | (simp at *;omega))
open Go Go.Ab Wm NumPlain Go.Proofs.Tryz
theorem a0V (x:UInt8):b0F K 57 [.one (F7 x)] (.tup []) [x]:=by
 refine a0A fun h p q l w hl=>?_
 obtain ⟨s,s',h2,f1,e1,f2,ws',_⟩:=m0n (P:=prog) (t:=27) underlying27 (by simp) (by simp) (by simp) ((WS.start w).new ⟨0,[1],true,[F7 x]⟩) (a:=.slc h.next 0 0 1 1 none) (x:=[x]) rfl (by simp [C6]) hl
 have f0:h.f p = some ⟨0,[1],true,[s]⟩:=by rw [L8,if_neg (by have:=w.1;omega)] at f1;exact f1
 refine zzE func57 rfl ?_
 simp only [f57]
 intro Q1 Y1
 repeat' (first
  | (replace Y1:=Y1;simp [f0,e1,f2])
  | refine Y1 _ _ _ ?_)
 exact ⟨_,‹WS _ _ _ _ _ _›⟩
theorem B0t {n k:Nat} {kk:Int} (hk:k <= 7) (hkk:kk = k):a0Y .shr .u64 (n:Int) (IntKind.i64.wrap (8 * kk)) = some (.int .u64 ((n / 256 ^ k:Nat):Int)):=by
 subst hkk
 rw [wrap_i64 (by omega) (by omega)]
 have:k = 0 \/ k = 1 \/ k = 2 \/ k = 3 \/ k = 4 \/ k = 5 \/ k = 6 \/ k = 7:=by omega
 rcases this with rfl | rfl | rfl | rfl | rfl | rfl | rfl | rfl <;> simp [a0Y,IntKind.bits] <;> rw [Int.fdiv_eq_ediv_of_nonneg _ (by decide)]
theorem F0o (n:Nat):AS.int .u8 (IntKind.u8.wrap ((n:Nat):Int)) = F7 (UInt8.ofNat n):=by
 simp only [F7,o0J,UInt8.toNat_ofNat'];rfl
theorem r0o (n k:Nat):AS.int .u8 (IntKind.u8.wrap ((n:Int) / 256 ^ k)) = F7 (UInt8.ofNat (n / 256 ^ k)):=by
 rw [<- F0o];simp
theorem t0a:∀ (k n i:Nat),i < k->(be k n).take (i + 1) = (be k n).take i++[UInt8.ofNat (n / 256 ^ (k - 1 - i))]
 | 0,n,i,h=>by omega
 | k + 1,n,0,_=>by simp [be]
 | k + 1,n,i + 1,h=>by
  have:=t0a k n i (by omega)
  simp only [be,List.take_succ_cons,this,oqm]
  rw [show k + 1 - 1 - (i + 1) = k - 1 - i by omega]
theorem A0q (n size:Nat) (hs:size <= 8):b0F K 98 [.one (.int .u64 n),.one (ii size)] (.tup []) (be size n):=by
 refine a0A fun h p q l w hl=>?_
 rw [c8] at hl
 have w0:IntKind.i64.wrap ((size:Int) - 1) = (size:Int) - 1:=wrap_i64 (by omega) (by omega)
 refine zzE func98 rfl ?_
 simp only [f98]
 intro Q2 Y2
 repeat' (first
  | (replace Y2:=Y2;simp [w0])
  | refine Y2 _ _ _ ?_
  | refine dF (id:=3) c0P [] ?_)
 refine S0 hp size (fun i fr hh=>∃ kk:Int,kk = (size:Int) - 1 - i/\∃ j,fr = ((.one (.ptr p 0 0))::(.one (.int .u64 n))::(.one (ii size))::j 3::j 4::j 5::(.one (ii kk))::j 7::j 8::j 9::j 10::j 11::j 12::j 13::j 14::j 15::j 16::j 17::j 18::j 19::j 20::j 21::j 22::j 23::j 24::j 25::j 26::[])/\WS h q hh p (l++(be size n).take i) []) ?_ ?_ _ _ ⟨_,rfl,a0q (by simp) (by simpa using WS.start w)⟩
 ·rintro i fr hh hi ⟨kk,hkk,j,rfl,ws⟩
  have e0:=B0t (n:=n) (k:=size - 1 - i) (kk:=kk) (by omega) (by omega)
  have e2:IntKind.i64.wrap (kk - 1) = kk - 1:=wrap_i64 (by omega) (by omega)
  obtain ⟨s,s',h2,f1,e1,f2,ws',_⟩:=m0n (P:=prog) (t:=27) underlying27 (by simp) (by simp) (by simp) (ws.new ⟨0,[1],true,[F7 (UInt8.ofNat (n / 256 ^ (size - 1 - i)))]⟩) (a:=.slc hh.next 0 0 1 1 none) (x:=[UInt8.ofNat (n / 256 ^ (size - 1 - i))]) rfl (by simp [C6]) (by simp at hl |-;omega)
  have f0:hh.f p = some ⟨0,[1],true,[s]⟩:=by
   obtain ⟨q',w',_⟩:=ws
   rw [L8,if_neg (by have:=w'.1;omega)] at f1;exact f1
  have hge:(decide (0 <= kk)) = true:=by simp;omega
  first | (refine s9 ?_;intro Q3 Y3) | have Y3:=oqk
  repeat' (first
   | (replace Y3:=Y3;simp [e0,e2,f0,e1,f2,hge,r0o,B6])
   | (refine Y3 _ _ _ ?_;clear Y3 Q3;first | simp only [] | simp [e0,e2,f0,e1,f2,hge,r0o,B6] | skip)
   | (refine F6 (by assumption) ?_;(try clear Y3);first | simp only [] | simp [e0,e2,f0,e1,f2,hge,r0o,B6] | skip)
   | ((fail_if_success replace Y3:=Y3);(first | refine s9 ?_ | refine A1 ?_ | refine A4 ?_);intro Q3 Y3)
   | refine dF (id:=3) c0P [] ?_)
  refine ⟨kk - 1,by omega,a0q (by simp) ?_⟩
  rw [t0a size n i hi,<- oqh];exact ws'.drop
 ·rintro fr hh ⟨kk,hkk,j,rfl,ws⟩
  have hge:(decide (0 <= kk)) = false:=by simp;omega
  first | (refine s9 ?_;intro Q4 Y4) | have Y4:=oqk
  repeat' (first
   | (replace Y4:=Y4;simp [hge])
   | (refine Y4 _ _ _ ?_;clear Y4 Q4;first | simp only [] | simp [hge] | skip)
   | (refine F6 (by assumption) ?_;(try clear Y4);first | simp only [] | simp [hge] | skip)
   | ((fail_if_success replace Y4:=Y4);(first | refine s9 ?_ | refine A1 ?_ | refine A4 ?_);intro Q4 Y4)
   | refine dF (id:=3) c0P [] ?_)
  rw [List.take_of_length_le (by rw [c8];omega)] at ws
  exact ⟨_,ws⟩
theorem A0T (n:Nat) (hn:n < 4294967296):b0F K 56 [.one (.int .u32 n)] (.tup []) (be 4 n):=by
 have e:=c0M (x:=(n:Int)) (by omega) (by omega)
 refine a0A fun h p q l w hl=>?_
 have hk:=oqk
 have ws:=WS.start w
 refine zzE func56 rfl ?_
 simp only [f56]
 intro Q10 Y10
 repeat' (first
  | (replace Y10:=Y10;simp [B6,e])
  | refine Y10 _ _ _ ?_
  | ((with_reducible refine S7 ?_);first
   | (refine C8 (A0q n 4 (by omega)) (by first | assumption | exact WS.new (by assumption) _ | exact WS.new (WS.new (by assumption) _) _) (by first | (simp only [c8];omega) | exact hl | omega | (simp only [oqa,oqb,oqc,c8] at hl |-;omega) | (simp at hl |-;omega)) ?_;clear hk;intro h' ws' hk;(try simp only [J4] at hk);(first | (have hk:=hk;skip) | have hk:=oqk);(try simp [B6]))))
 exact ⟨_,‹WS _ _ _ _ _ _›⟩
theorem v0D (n:Nat):b0F K 173 [.one (.int .u64 n)] (.tup []) (be 8 n):=by
 refine a0A fun h p q l w hl=>?_
 have hk:=oqk
 have ws:=WS.start w
 refine zzE func173 rfl ?_
 simp only [f173]
 intro Q11 Y11
 repeat' (first
  | (replace Y11:=Y11;simp [B6])
  | refine Y11 _ _ _ ?_
  | ((with_reducible refine S7 ?_);first
   | (refine C8 (A0q n 8 (by omega)) (by first | assumption | exact WS.new (by assumption) _ | exact WS.new (WS.new (by assumption) _) _) (by first | (simp only [c8];omega) | exact hl | omega | (simp only [oqa,oqb,oqc,c8] at hl |-;omega) | (simp at hl |-;omega)) ?_;clear hk;intro h' ws' hk;(try simp only [J4] at hk);(first | (have hk:=hk;skip) | have hk:=oqk);(try simp [B6]))))
 exact ⟨_,‹WS _ _ _ _ _ _›⟩
@[simp] theorem F0r:FloatKind.f64.format = Ieee.double:=rfl
theorem j0c (b:Nat):h0y .neq (D.order b b) = some (isN b):=by
 unfold isN
 by_cases h:INF < M7 b
 ·rw [m0q (.inl h)];simp [h0y,h]
 ·rw [h0j (by omega) (by omega)]
  simp [h0y,h]
theorem b0W (n:Int) (h:H):W K 109 [.one (.int .u64 n)] h = some (.ret (.one (.flt n.toNat)) h):=by rw [p0p hp rfl rfl];rfl
theorem n0z (n:Nat) (h:H):W K 155 [.one (.flt n)] h = some (.ret (.one (.int .u64 n)) h):=by rw [p0p hp rfl rfl];rfl
theorem n0J (b:Nat) (h:H):W K 253 [.one (.flt b)] h = some (.ret (.one (.bool (isN b))) h):=by
 refine zzP func253 rfl ?_
 simp only [f253]
 intro Yb Q5 Y5
 repeat' (first
  | (replace Y5:=Y5;simp [j0c,A7,A0,z9,c7,u9,Yb])
  | refine Y5 _ _ _ ?_)
theorem g0e (b:Nat) (h:H):W K 235 [.one (.flt b)] h = some (.ret (.one (.flt (a0n b))) h):=by
 refine zzP func235 rfl ?_
 simp only [f235]
 intro Yb Q6 Y6
 repeat' (first
  | (replace Y6:=Y6;simp [n0J,b0W,A7,A0,z9,c7,u9,Yb])
  | refine Y6 _ _ _ ?_
  | (first | apply cF | apply wN | apply wS) <;> intro Ya <;> (try simp only [Ya]) <;> (try simp [-List.isEmpty_iff,-List.isEmpty_eq_false_iff] at Ya))
 all_goals simp_all [a0n]
theorem g0s (b:Nat) (h:H):W K 244 [.one (.flt b)] h = some (.ret (.one (.int .u64 (a0n b))) h):=by
 refine zzP func244 rfl ?_
 simp only [f244]
 intro Yb Q7 Y7
 repeat' (first
  | (replace Y7:=Y7;simp [g0e,n0z,A7,A0,z9,c7,u9,Yb])
  | refine Y7 _ _ _ ?_)
theorem y0H (b:Nat):b0F K 214 [.one (.flt b)] (.tup []) (be 8 (a0n b)):=by
 refine a0A fun h p q l w hl=>?_
 have hk:=oqk
 have ws:=WS.start w
 refine zzE func214 rfl ?_
 simp only [f214]
 intro Q12 Y12
 repeat' (first
  | (replace Y12:=Y12;simp [g0s])
  | refine Y12 _ _ _ ?_
  | ((with_reducible refine S7 ?_);first
   | (refine C8 (v0D (a0n b)) (by first | assumption | exact WS.new (by assumption) _ | exact WS.new (WS.new (by assumption) _) _) (by first | (simp only [c8];omega) | exact hl | omega | (simp only [oqa,oqb,oqc,c8] at hl |-;omega) | (simp at hl |-;omega)) ?_;clear hk;intro h' ws' hk;(try simp only [J4] at hk);(first | (have hk:=hk;skip) | have hk:=oqk);(try simp [g0s]))))
 exact ⟨_,‹WS _ _ _ _ _ _›⟩
theorem sees_keep {h h':H} {size:Nat} {a:AS} {cells:List AS} (hs:Sees h size a cells) (hk:∀ b,z7 a = some b->h'.f b = h.f b):Sees h' size a cells:=by
 cases a <;> simp only [Sees] at hs |-
 ·exact hs
 ·rename_i b v o n s c
  refine ⟨hs.1, ?_⟩
  have hr:=hs.2
  rw [c0Z] at hr |-
  rw [hk b rfl];exact hr
 ·exact hs
theorem u0m (l:BL):cat (fun b:UInt8=>[F7 b]) l = l.map F7:=by
 induction l with
 | nil=>rfl
 | cons a l ih=>simp only [cat,List.flatMap_cons,List.map_cons] at ih |-;rw [ih];rfl
theorem n0Q (a:AS) (x:BL) (hx:x.length <= 1048576) (h:H) (p:Nat) (q:Option Nat) (l:BL) (w:Wr h p q l) (hl:l.length + (4 + x.length) <= 1099511627776) (hs:Sees h 1 a (x.map F7)) (ha:∀ b,z7 a = some b->b < h.next/\b ≠ p/\q ≠ some b) :
  ∃ h' q',W K 124 [.one (.ptr p 0 0),.one a] h = some (.ret (.one (.bool true)) h')/\Wr h' p q' (l++I1 x)/\Only h h' p q q':=by
 have hln:U9 a = some x.length:=f0z hs (by omega) (by simp)
 have hla:∀ (u:TypeId) (h':H),V9 a (some (.slice u)) h' = some (one (ii x.length) h'):=fun u h'=>U4 h' u hs (by omega) (by simp)
 have hle:decide (1048576 < x.length) = false:=by simp;omega
 have hcv:IntKind.u32.wrap (x.length:Int) = x.length:=h0w (by omega) (by omega)
 obtain ⟨h1,q1,e1,w1,g1⟩:=A0T x.length (by omega) h p q l w (by rw [c8];omega)
 have hs1:Sees h1 1 a (x.map F7):=sees_keep hs fun b hb=>g1.keep b (ha b hb).1 (ha b hb).2.1 (ha b hb).2.2
 obtain ⟨s,hq,hqp,hf,ho⟩:=w1.2
 obtain ⟨s',h2,e2,f2,q',w2,g2⟩:=n0d (P:=prog) (t:=27) underlying27 (by simp) (by simp) (by simp) w1 hf (x:=x) hln (k0W hs1 (by omega) (by simp)) (by simp [c8];omega)
 have key:∃ r,W K 124 [.one (.ptr p 0 0),.one a] h = some r/\r = .ret (.one (.bool true)) (h2.set p ⟨0,[1],true,[s']⟩):=by
  refine zzE func124 rfl ?_
  simp only [f124]
  intro Q8 Y8
  repeat' (first
   | (replace Y8:=Y8;simp [hla,hle,hcv,B6,e1,hf,e2,f2])
   | refine Y8 _ _ _ ?_)
 obtain ⟨r,e,rfl⟩:=key
 refine ⟨_,q',e, ?_,g1.trans g2⟩
 simpa [I1] using w2
theorem r0v (o:Option BL) (ho:(ls o).length <= 1048576):b0F K 124 [.one (bs o)] (.one (.bool true)) (I1 (ls o)):=by
 intro h p q l w hl
 have hs:Sees h 1 (bs o) ((ls o).map F7):=by
  have:=i0l (s:=1) (enc:=fun b:UInt8=>[F7 b]) (fun _=>rfl) h o
  rw [u0m] at this
  exact this
 refine n0Q (bs o) (ls o) ho h p q l w (by simp [I1,c8] at hl;omega) hs fun b hb=>?_
 cases o <;> cases hb
theorem m0r (s:BL) (hs:s.length <= 1048576):b0F K 122 [.one (.str s)] (.tup []) (I1 s):=by
 intro h p q l w hl
 obtain ⟨h',q',e,w',g'⟩:=n0Q (.slc h.next 0 0 s.length 1 none) s hs (h.new ⟨0,[s.length],false,s.map F7⟩) p q l (w.new _) (by simp [I1,c8] at hl;omega)
  (by refine ⟨rfl, ?_⟩;simp [sub];rw [List.take_of_length_le (by simp)]) (by rintro b ⟨⟩;exact ⟨by simp,by have:=w.1;omega,fun hq=>by have:=w.own_lt hq;omega⟩)
 have hlim:s.length <= N3:=by simp only [N3];omega
 have key:∃ r,W K 122 [.one (.ptr p 0 0),.one (.str s)] h = some r/\r = .ret (.tup []) h':=by
  refine zzE func122 rfl ?_
  simp only [f122]
  intro Q9 Y9
  repeat' (first
   | (replace Y9:=Y9;simp [B6,W4,hlim,e])
   | refine Y9 _ _ _ ?_)
 obtain ⟨r,e2,rfl⟩:=key
 refine ⟨h',q',e2,w',⟨?_,fun b hb h1 h2=>?_, ?_⟩⟩
 ·have:=g'.next;simp at this;omega
 ·rw [g'.keep b (by simp;omega) h1 h2,L8,if_neg (by omega)]
 ·rcases g'.own with e | ⟨b,e,hb⟩
  ·exact .inl e
  ·exact .inr ⟨b,e,by simp at hb;omega⟩
theorem P8 {s:BL} (hs:s.length <= 1048576) {h0 h:H} {b0:Nat} {q0:Option Nat} {p:Nat} {l:BL} {kept:List (Nat × Blk)} (w:WS h0 q0 h p l kept) (hl:l.length + (I1 s).length <= 1099511627776) (hb0:b0 = h.next)
  {Q:AV->H->Prop} {Kp:AS->H->Prop} (hk:∀ h',WS h0 q0 h' p (l++I1 s) kept->J4 h' kept->Q (.one (.bool true)) h'):onR ((W K 124 [.one (.ptr p 0 0),.one (.slc b0 0 0 s.length 1 none)] (h.new ⟨0,[s.length],false,s.map F7⟩)).bind crO) Q Kp:=by
 subst hb0
 obtain ⟨q,w,g,hkp,hd⟩:=w
 obtain ⟨h',q',e,w',g'⟩:=n0Q (.slc h.next 0 0 s.length 1 none) s hs (h.new ⟨0,[s.length],false,s.map F7⟩) p q l (w.new _) (by simp [I1,c8] at hl;omega)
  (by refine ⟨rfl, ?_⟩;simp [sub];rw [List.take_of_length_le (by simp)]) (by rintro b ⟨⟩;exact ⟨by simp,by have:=w.1;omega,fun hq=>by have:=w.own_lt hq;omega⟩)
 have g2:Only h h' p q q':=by
  refine ⟨?_,fun b hb h1 h2=>?_, ?_⟩
  ·have:=g'.next;simp at this;omega
  ·rw [g'.keep b (by simp;omega) h1 h2,L8,if_neg (by omega)]
  ·rcases g'.own with e | ⟨b,e,hb⟩
   ·exact .inl e
   ·exact .inr ⟨b,e,by simp at hb;omega⟩
 rw [e]
 simp only [oqS,o0q,n0U]
 have hkp':J4 h' kept:=W5 (fun e he=>g2.keep _ (hd e he).1 (hd e he).2.1 (hd e he).2.2) hkp
 refine hk h' ⟨q',w',g.trans g2,hkp',fun e he=>⟨oqp (hd e he).1 g2.next,(hd e he).2.1, ?_⟩⟩ hkp'
 rcases g2.own with e1 | ⟨b,e1,hb⟩
 ·rw [e1];exact (hd e he).2.2
 ·rw [e1];intro hc
  have:=(hd e he).1
  simp only [oqI] at hc;omega
theorem b0h (n:Int):AS.int .u8 (IntKind.u8.wrap n) = F7 (u8 n):=by
 simp only [F7,u8,o0J,UInt8.toNat_ofNat']
 congr 1
 have:=Int.emod_nonneg n (show (256:Int) ≠ 0 by decide)
 have h2:=Int.emod_lt_of_pos n (show (0:Int) < 256 by decide)
 omega
theorem j0a (n:Int):b0F K 56 [.one (.int .u32 (IntKind.u32.wrap n))] (.tup []) (N8 n):=by
 have h1:=Int.emod_nonneg n (show (4294967296:Int) ≠ 0 by decide)
 have h2:=Int.emod_lt_of_pos n (show (0:Int) < 4294967296 by decide)
 have:=A0T (u32 n) (by unfold u32;omega)
 rw [t0m]
 unfold N8
 have e:((u32 n:Nat):Int) = n % 4294967296:=by unfold u32;omega
 rw [<- e];exact this
theorem z0K (n:Int):b0F K 173 [.one (.int .u64 (IntKind.u64.wrap n))] (.tup []) (b0K n):=by
 have h1:=Int.emod_nonneg n (show (18446744073709551616:Int) ≠ 0 by decide)
 have:=v0D (u64 n)
 rw [t0G]
 unfold b0K
 have e:((u64 n:Nat):Int) = n % 18446744073709551616:=by unfold u64;omega
 rw [<- e];exact this
theorem c0a {s:BL} (h:s.length <= 1048576):s.length <= N3:=by simp only [N3];omega
set_option maxHeartbeats 4000000
theorem l0u (n lo hi:Int) (h1:-1099511627776 <= lo) (h2:lo <= hi) (h3:hi <= 1099511627776) (hn:-9223372036854775808 <= n/\n < 9223372036854775808) (h:H):W K 23 [.one (ii n),.one (ii lo),.one (ii hi)] h = some (.ret (.one (ii (b0j n lo hi))) h):=by
 have hd:0 < hi - lo + 1:=by omega
 have m1:=Int.tmod_lt_of_pos n hd
 have m2:-(hi - lo + 1) < n.tmod (hi - lo + 1):=by
  rcases Int.le_total 0 n with h | h
  ·have:=Int.tmod_nonneg (hi - lo + 1) h;omega
  ·have h3:=Int.tmod_lt_of_pos (-n) hd
   rw [Int.neg_tmod] at h3;omega
 have w1:IntKind.i64.wrap (hi - lo) = hi - lo:=wrap_i64 (by omega) (by omega)
 have w2:IntKind.i64.wrap (hi - lo + 1) = hi - lo + 1:=wrap_i64 (by omega) (by omega)
 have e0:¬ hi - lo + 1 = 0:=by omega
 unfold b0j
 generalize hm:n.tmod (hi - lo + 1) = m at *
 have w3:IntKind.i64.wrap (m + hi) = m + hi:=wrap_i64 (by omega) (by omega)
 have w4:IntKind.i64.wrap (m + hi - lo) = m + hi - lo:=wrap_i64 (by omega) (by omega)
 have w5:IntKind.i64.wrap (m + hi - lo + 1) = m + hi - lo + 1:=wrap_i64 (by omega) (by omega)
 have w6:IntKind.i64.wrap (lo + m) = lo + m:=wrap_i64 (by omega) (by omega)
 have w7:IntKind.i64.wrap (lo + (m + hi - lo + 1)) = lo + (m + hi - lo + 1):=wrap_i64 (by omega) (by omega)
 refine zzP func23 rfl ?_
 simp only [f23]
 intro Yb Q1 Y1
 repeat' (first
  | (replace Y1:=Y1;simp [w1,w2,w3,w4,w5,w6,w7,e0,hm])
  | (refine Y1 _ _ _ ?_;clear Y1 Q1;first | simp only [] | simp [A7,A0,z9,c7,u9,Yb])
  | (first | apply cF | apply wN | apply wS) <;> intro Ya <;> (try simp only [Ya]) <;> (try simp [-List.isEmpty_iff,-List.isEmpty_eq_false_iff] at Ya))
 all_goals first | done | (simp_all [-List.isEmpty_iff,-List.isEmpty_eq_false_iff];done) | (simp_all;first | done | omega) | (simp;omega) | (intros;first | omega | (simp only [oqj] at *;omega) | (simp at *;omega))
def I64 (n:Int):Prop:=-9223372036854775808 <= n/\n < 9223372036854775808
theorem F0n (n:Int) (hn:I64 n) (h:H):W K 23 [.one (ii n),.one (.int .i64 0),.one (.int .i64 1048576)] h = some (.ret (.one (ii (m20 n))) h):=l0u n 0 1048576 (by omega) (by omega) (by omega) hn h
theorem w0Y {a b:Int} (h:0 <= a):a.tmod b = a % b:=Int.tmod_eq_emod_of_nonneg h
def c0g (s:BL):List AS:=[.str s]
theorem y0q (o:Option BL):N7 prog 27 (bs o) = some 1:=by cases o <;> simp [N7,C9,Z7]
theorem C0N (l:List BL) (hl:0 < l.length/\l.length < 1000) (n:Int) (hn:I64 n):Fun K 45 [.one (sl 1 c0g (some l)),.one (ii n)] (fun h=>.ret (.one (.str (m0O l n))) h):=by
 have hw:=F0n n hn
 have hb:=r0f n
 have e0:¬ (l.length:Int) = 0:=by omega
 have e1:(m20 n).tmod l.length = m20 n % l.length:=w0Y hb.1
 have b1:=Int.emod_nonneg (m20 n) (show (l.length:Int) ≠ 0 by omega)
 have b2:=Int.emod_lt_of_pos (m20 n) (show (0:Int) < l.length by omega)
 have hk:(m20 n % l.length).toNat < l.length:=by omega
 have hi:=N6 (P:=prog) (enc:=c0g) (s:=1) (l:=l) (i:=(m20 n % l.length).toNat) underlying118 (by simp) (by omega) hk
 have hr:sub (cat c0g l) (m20 n % l.length).toNat 1 = some [.str (m0O l n)]:=by
  have h1:l = l.take (m20 n % l.length).toNat++l[(m20 n % l.length).toNat]::l.drop ((m20 n % l.length).toNat + 1):=by
   rw [List.getElem_cons_drop,List.take_append_drop]
  have h2:=O9 (enc:=c0g) (s:=1) (fun _=>rfl) (l.take (m20 n % l.length).toNat) l[(m20 n % l.length).toNat] (l.drop ((m20 n % l.length).toNat + 1)) (o:=0) (n:=1) (by omega)
  rw [<- h1,oqo,Nat.min_eq_left (by omega),Nat.mul_one,Nat.add_zero] at h2
  rw [h2]
  simp [c0g,m0O,hk]
 have hp':c7 false (sl 1 c0g (some l)) = true:=a0u (fun _=>rfl) _
 have hne:¬ l = []:=by rintro rfl;simp at hl
 have Yb:a0M S.own 45 = false:=by kernel_rfl
 refine ⟨by simp [M5,hp',c7],fun hh=>N2 rfl rfl (by kernel_rfl) func45 rfl (by simp [f45]) ?_⟩
 simp only [f45]
 refine s9 ?_;intro Q2 Y2
 repeat' (first
  | (replace Y2:=Y2;simp [hw,e1,hi,hr,b1,hne,A7,A0,z9,c7,u9,Yb])
  | refine Y2 _ _ _ ?_)
theorem F0F (n:Int) (hn:I64 n) (h:H):W K 18 [.one (ii n)] h = some (.ret (.one (.str (j0Q n))) h):=by
 have hv:∀ h':H,h'.f 0 = some ⟨0,[8],true,cat c0g c0G⟩->W K 45 [.one (.slc 0 0 0 8 1 none),.one (ii n)] h' = some (.ret (.one (.str (j0Q n))) h'):=by
  intro h' hf
  refine (C0N c0G (by decide) n hn).view hp ?_
  simp [b0s,d0b,N5,M5,c7,hf,c0G,c0g,cat,sl]
 have hv2:=hv (H.empty.new ⟨0,[8],true,cat c0g c0G⟩) (by simp)
 simp only [c0G,c0g,cat,List.flatMap_cons,List.flatMap_nil,List.append_nil,oqm,oql] at hv2
 refine zzP func18 rfl ?_
 simp only [f18]
 intro Yb Q3 Y3
 repeat' (first
  | (replace Y3:=Y3;simp [hv2,A7,A0,z9,c7,u9,Yb])
  | refine Y3 _ _ _ ?_)
theorem A0J (h:H):W K 106 [.one (.flt 0),.one (.flt 13830554455654793216)] h = some (.ret (.one (.flt 9223372036854775808)) h):=by
 have e1:j0K .u64 0 9223372036854775808 = 0:=by decide +kernel
 have e2:q0n .u64 13830554455654793216 9223372036854775808 = 9223372036854775808:=by decide +kernel
 have e3:orI .u64 0 9223372036854775808 = 9223372036854775808:=by decide +kernel
 refine zzP func106 rfl ?_
 simp only [f106]
 intro Yb Q7 Y7
 repeat' (first
  | (replace Y7:=Y7;simp [n0z,b0W,e1,e2,e3,A7,A0,z9,c7,u9,Yb])
  | refine Y7 _ _ _ ?_)
end Go.Proofs.YtiagcnfmgigllaaGreat
