/- A part of a proof over the abstract machine. No conditions. -/
import Derived.Test.YtiagcnfmgigllaaGreatT43
set_option linter.unusedSimpArgs false
set_option linter.unnecessarySimpa false
set_option linter.unusedVariables false
namespace Go.Proofs.YtiagcnfmgigllaaGreat
open Go Go.Ab Wm NumPlain
set_option maxRecDepth 10000
set_option maxHeartbeats 4000000
def encI (n:Int):List AS:=[ii n]
def CovAt (h:H) (s:Nat) (R:List Named) (last:Int) (n:Nat):Prop:=∃ sp ps code,StAt h s sp ps last code∧SpI (ps.map (·.t)) R∧ps.length ≤ n
theorem some_live {ts:List TabD} (h:∀ t ∈ ts,t.fr = false):someS false ts = ts.map tabOf:=by
 unfold someS
 rw [List.filter_eq_self.2 fun t ht=>by rw [h t ht];rfl]
theorem rows_live {ts:List TabD} (h:∀ t ∈ ts,t.fr = false):rowsS ts = ts.flatMap (·.rows):=by
 unfold rowsS
 rw [List.filter_eq_self.2 fun t ht=>by rw [h t ht];rfl]
theorem name_ne {n:BL} (h:nameOk n = true):n ≠ []:=by rintro rfl;simp [nameOk] at h
theorem pick_mem {α:Type} {A B b q:List α} {P y:α} (e:A++P::B = b++y::q):(b.length = A.length∧y = P) ∨ (b.length ≠ A.length∧y ∈ A++B):=by
 by_cases h:b.length = A.length
 ·left
  obtain ⟨e1,e2⟩:=List.append_inj e h.symm
  simp only [List.cons.injEq] at e2
  exact ⟨h,e2.1.symm⟩
 ·right
  refine ⟨h, ?_⟩
  have hy:(A++P::B)[b.length]? = some y:=by rw [e];simp
  rcases Nat.lt_or_ge b.length A.length with h1 | h1
  ·rw [List.getElem?_append_left h1] at hy
   exact List.mem_append_left _ (List.mem_of_getElem? hy)
  ·rw [List.getElem?_append_right h1] at hy
   obtain ⟨n,hn⟩:∃ n,b.length - A.length = n + 1:=⟨b.length - A.length - 1,by omega⟩
   rw [hn,List.getElem?_cons_succ] at hy
   exact List.mem_append_right _ (List.mem_of_getElem? hy)
theorem splits_inner {hh:H} {s:Nat} {sp:AS} {ps:List Pt} {last code:Int} {R:List Named} (w:StAt hh s sp ps last code) (I:SpI (ps.map (·.t)) R) (hn:ps.length ≤ 13) {k:BL} (hk:nameOk k = true) {i:Nat} (hi:i < 12) (hlast:last = (i:Int) + 1) :
  ∃ l1 p l2,ps = l1++p::l2∧hasName p.t.span k = true∧(∀ y ∈ l1++l2,hasName y.t.span k = false∧y.t.span.lo ≠ k) ∧
   ((p.t.span.lo ≠ k∧∃ h',W K 12 [.one (.ptr s 0 0),.one (ii 9),.one (ii 1),.agg (cmdC 5 ((i:Int) + 2) p.t.span.lo p.t.span.hi k)] hh = some (.ret (.agg (encAnswer (noA 0))) h')∧CovAt h' s R ((i:Int) + 2) (ps.length + 1)) ∨
    (p.t.span.lo = k∧∃ l0 z,l1 = l0++[z]∧∃ h',W K 12 [.one (.ptr s 0 0),.one (ii 9),.one (ii 1),.agg (cmdC 6 ((i:Int) + 2) z.t.span.lo p.t.span.hi k)] hh = some (.ret (.agg (encAnswer (noA 0))) h')∧CovAt h' s R ((i:Int) + 2) (ps.length + 1))):=by
 obtain ⟨m1,t,m2,e,ht⟩:=has_ix k I.con I.ok (by cases k <;> rfl)
 obtain ⟨l1,q,rfl,e1,e2⟩:=List.map_eq_append_iff.1 e
 obtain ⟨p,l2,rfl,e3,e4⟩:=List.map_eq_cons_iff.1 e2
 subst e1 e3 e4
 have ho:=has_one (l1:=l1.map (·.t)) (l2:=l2.map (·.t)) (by simpa using I.con) (by simpa using I.ok) ht
 refine ⟨l1,p,l2,rfl,ht,fun y hy=>ho y.t (by rw [← List.map_append];exact List.mem_map.2 ⟨y,hy,rfl⟩), ?_⟩
 by_cases hne:p.t.span.lo = k
 ·right
  refine ⟨hne, ?_⟩
  rcases snoc_cases l1 with rfl | ⟨l0,z,rfl⟩
  ·exfalso
   have:=contig_lo (t:=p.t) (ts:=l2.map (·.t)) (by simpa using I.con)
   rw [hne] at this
   exact name_ne hk this
  ·have eq:l0++[z]++p::l2 = l0++z::p::l2:=by simp
   rw [eq] at w I
   obtain ⟨h',sp',pa,e,w',I',ta,g⟩:=merge_step w (by simp at hn ⊢;omega) I 9 1 (g:=(i:Int) + 2) (by omega) (by omega)
   rw [hne] at e
   exact ⟨l0,z,rfl,h',e,sp',_,0,w',I',by simp;omega⟩
 ·left
  obtain ⟨h',sp',pa,pb,e,w',I',ta,tb,g⟩:=split_step w (by simp at hn ⊢;omega) I 9 1 (k:=k) (name_len hk) (name_ne hk) ht hne (g:=(i:Int) + 2) (by omega) (by omega)
  exact ⟨hne,h',e,sp',_,0,w',I',by simp;omega⟩
theorem law_splits (l:Option (List KO)) (at_:Option (List Int)) (hlk:∀ x ∈ ls l,KOok x) (hat:∀ x ∈ ls at_,I64 x) (hll:(ls l).length < 9223372036854775808) (hal:(ls at_).length < 9223372036854775808) (h:H) :
  ∃ r,W K 5 [.one (sl 12 encKO l),.one (sl 1 encI at_)] h = some r∧Rets (fun v _=>v = .one (.bool true)) r:=by
 have hw:=whole_c h
 obtain ⟨h2,s,sp2,p,e2,w2,ep,po,k2,l2⟩:=fresh_c h
 obtain ⟨kn,hkn⟩:=Classical.skolem.1 known10_c
 have hkn':∀ h,W K 15 [] h = some (.ret (.one (.bool true)) (kn h)):=fun h=>(hkn h).1
 have hla:∀ (u:TypeId) (h':H),lenA (sl 12 encKO l) (some (.slice u)) h' = some (one (ii (ls l).length) h'):=fun u h'=>lenA_sl ..
 have hlb:∀ (u:TypeId) (h':H),lenA (sl 1 encI at_) (some (.slice u)) h' = some (one (ii (ls at_).length) h'):=fun u h'=>lenA_sl ..
 obtain ⟨Z1,hZ1⟩:∃ Z,sl 12 encKO l = Z:=⟨_,rfl⟩
 obtain ⟨Z2,hZ2⟩:∃ Z,sl 1 encI at_ = Z:=⟨_,rfl⟩
 rw [hZ1] at hla ⊢
 rw [hZ2] at hlb ⊢
 refine Rets.intro fun P hP=>?_
 refine W_doesQ hp rfl rfl rfl Tryz.func5 rfl (by simp [Tryz.f5]) ?_
 simp only [Tryz.f5]
 refine hide ?_;intro Q1 hQ1
 repeat' (first
  | (replace hQ1:=hQ1;simp [nilS1,hw,e2])
  | refine hQ1 _ _ _ ?_
  | refine dF (id:=21) [0,1,2,3,4,5,6,7,8,9,10,11,12,13,14,15,16,17,18,19,20,21] [] ?_)
 refine does_each hp ((ls l).take 15) (fun a r fr hh=>(∃ p,StAt hh s sp2 [p] 1 0∧One p∧∀ x ∈ p.t.cache,x.client = 1→x.seq < (a.length:Int) + 1)∧∃ j:Nat→AV,fr = ((.one Z1)::(.one Z2)::j 2::j 3::j 4::(.one (.ptr s 0 0))::(.one (ii a.length))::j 7::j 8::j 9::j 10::j 11::j 12::j 13::j 14::j 15::j 16::j 17::j 18::j 19::j 20::j 21::j 22::j 23::j 24::j 25::j 26::j 27::j 28::j 29::j 30::j 31::j 32::j 33::j 34::j 35::j 36::j 37::j 38::j 39::j 40::j 41::j 42::j 43::j 44::j 45::j 46::j 47::j 48::j 49::j 50::j 51::j 52::j 53::j 54::j 55::j 56::j 57::j 58::j 59::j 60::j 61::j 62::j 63::j 64::j 65::j 66::j 67::j 68::j 69::j 70::j 71::j 72::j 73::j 74::j 75::j 76::j 77::j 78::j 79::j 80::j 81::j 82::j 83::j 84::j 85::j 86::j 87::j 88::j 89::j 90::j 91::j 92::j 93::j 94::j 95::j 96::j 97::j 98::j 99::j 100::j 101::j 102::j 103::j 104::j 105::j 106::j 107::j 108::j 109::j 110::j 111::j 112::j 113::j 114::j 115::j 116::j 117::j 118::j 119::j 120::j 121::j 122::j 123::j 124::j 125::j 126::j 127::j 128::j 129::j 130::j 131::j 132::j 133::j 134::j 135::j 136::j 137::[])) ?_ ?_ _ _ ?_
 rotate_left 2
 ·exact ⟨⟨p,w2,po,by rw [ep];simp⟩,ex_get' (by simp)⟩
 ·rintro a x r fr hh hl15 ⟨⟨p,w,po,hc⟩,j,rfl⟩
  have ha15:a.length < 15:=by
   have:=congrArg List.length hl15
   simp at this;omega
  have hfull:ls l = a++x::(r++(ls l).drop 15):=by
   conv=>lhs;rw [← List.take_append_drop 15 (ls l),hl15]
   simp
  have hil:a.length < (ls l).length:=by rw [hfull];simp
  have hso:some (ls l) = l:=by rw [hfull];exact (ls_cons hfull).symm
  have hix:=index_sl (P:=Tryz.prog) (enc:=encKO) (s:=12) (l:=ls l) (i:=a.length) Tryz.underlying22 (by simp) (by omega) hil
  rw [hso,hZ1] at hix
  have hrd:=sub_flat (enc:=encKO) (s:=12) (fun _=>rfl) a x (r++(ls l).drop 15) (o:=0) (n:=12) (by omega)
  rw [← hfull] at hrd
  have hxe:sub (encKO x) 0 12 = some (encKO x):=sub_all rfl
  simp only [Nat.add_zero,hxe] at hrd
  have hko:∀ h,W K 10 [.agg (encKO x)] h = some (.ret (.agg (encOp (kOp x))) h):=fun h=>by
   have hx:=hlk x (by rw [hfull];simp)
   obtain ⟨a1,a2,a3,a4,a5,a6,a7,⟨b1,b2,b3,b4⟩,a8⟩:=x
   exact kop_c a1 a2 a3 a4 a5 a6 a7 b1 b2 b3 b4 a8 hx h
  have hoi:=kOp_is x
  generalize kOp x = O at *
  obtain ⟨ok,orow,ohi,⟨oh,ow,oc,⟨vk,vb,vn⟩⟩,ol,om⟩:=O
  simp only [encOp] at hko
  obtain ⟨h',p',e,ep',po',w',g'⟩:=do_one w po 1 ((a.length:Int) + 1) ok orow ohi oh ow oc vk vb vn ol om hoi (by omega) (by omega) hc
  have d1:decide ((a.length:Int) < (ls l).length) = true:=by simp;omega
  have d2:decide ((a.length:Int) < 15) = true:=by simp;omega
  have d3:(a.length:Int) < 15:=by omega
  have hw1:IntKind.i64.wrap ((a.length:Int) + 1) = (a.length:Int) + 1:=step_wrap (by omega)
  generalize encAnswer (opT ⟨[],[]⟩ p.t.rows ⟨ok,orow,ohi,⟨oh,ow,oc,⟨vk,vb,vn⟩⟩,ol,om⟩).1 = CA at *
  generalize encKO x = XO at *
  generalize cat encKO (ls l) = CK at *
  generalize sl 6 encChange ol = ZL at *
  first | (refine hide ?_;intro Q2 hQ2) | have hQ2:=True.intro
  repeat' (first
   | (replace hQ2:=hQ2;simp [hla,hil,d3,hix,hrd,hko,hw1,e])
   | (refine hQ2 _ _ _ ?_;clear hQ2 Q2;first | simp only [] | simp [hla,hil,d1,d2,d3,hix,hrd,hko,hw1,e] | skip)
   | (refine hadQ (by assumption) ?_;(try clear hQ2);first | simp only [] | simp [hla,hil,d1,d2,d3,hix,hrd,hko,hw1,e] | skip)
   | ((fail_if_success replace hQ2:=hQ2);(first | refine hide ?_ | refine hideS ?_ | refine hideB ?_);intro Q2 hQ2)
   | refine dF (id:=21) [0,1,2,3,4,5,6,7,8,9,10,11,12,13,14,15,16,17,18,19,20,21] [] ?_)
  refine ⟨⟨p',w',po',fun y hy hyc=>?_⟩,ex_get' (by simp)⟩
  rw [ep'] at hy
  rcases keep_mem y hy with hy | hy
  ·have:=hc y hy hyc
   simp;omega
  ·subst hy;simp;omega
 ·rintro fr hh ⟨⟨p,w,po,hc⟩,j,rfl⟩
  obtain ⟨N,hN⟩:∃ N,((ls l).take 15).length = N:=⟨_,rfl⟩
  rw [hN]
  have hN2:N = min 15 (ls l).length:=by rw [← hN,List.length_take]
  have hR:rowsS ([p].map (·.t)) = p.t.rows:=by simp [rowsS,po.fr]
  have e3:=rows_c w (by simp) (fun q hq=>by simp at hq;subst hq;exact po.rows)
  rw [hR] at e3
  obtain ⟨R,hRR⟩:∃ R,p.t.rows = R:=⟨_,rfl⟩
  have hcov:CovAt hh s R 1 1:=⟨sp2,[p],0,w,by rw [← hRR];exact one_spi po,by simp⟩
  have hRok:TblOk R:=by rw [← hRR];exact po.rows
  rw [hRR] at e3
  have hsame:=rsameNm_c (o:=nz R) (o':=nz R) (L:=R) id id (by simp) (by simp) (fun x hx=>eqN_refl x (row_B hRok hx)) (by have:=hRok.len;omega)
  clear hc hRR hR po w p hZ1
  obtain ⟨ZR,hZR⟩:∃ Z,sl 2 encNamed (nz R) = Z:=⟨_,rfl⟩
  rw [hZR] at e3 hsame
  have e1:(¬ N < (ls l).length∧True) ∨ (N < (ls l).length∧¬ (N:Int) < 15):=by
   by_cases hc:(ls l).length ≤ 15
   ·left;exact ⟨by omega,trivial⟩
   ·right;omega
  have hbt:=hat
  rcases e1 with ⟨d1,d2⟩ | ⟨d1,d2⟩
  all_goals
   first | (refine hide ?_;intro Q3 hQ3) | have hQ3:=True.intro
   repeat' (first
    | (replace hQ3:=hQ3;simp [hla,d1,d2,e3])
    | (refine hQ3 _ _ _ ?_;clear hQ3 Q3;first | simp only [] | simp [hla,d1,d2,e3] | skip)
    | (refine hadQ (by assumption) ?_;(try clear hQ3);first | simp only [] | simp [hla,d1,d2,e3] | skip)
    | ((fail_if_success replace hQ3:=hQ3);(first | refine hide ?_ | refine hideS ?_ | refine hideB ?_);intro Q3 hQ3)
    | refine dF (id:=21) [0,1,2,3,4,5,6,7,8,9,10,11,12,13,14,15,16,17,18,19,20,21] [] ?_)
   refine does_each hp ((ls at_).take 12) (fun a r fr hh=>CovAt hh s R ((a.length:Int) + 1) (1 + a.length)∧∃ j:Nat→AV,fr = (j 0::(.one Z2)::j 2::j 3::j 4::(.one (.ptr s 0 0))::j 6::(.one ZR)::(.one (ii a.length))::j 9::j 10::j 11::j 12::j 13::j 14::j 15::j 16::j 17::j 18::j 19::j 20::j 21::j 22::j 23::j 24::j 25::j 26::j 27::j 28::j 29::j 30::j 31::j 32::j 33::j 34::j 35::j 36::j 37::j 38::j 39::j 40::j 41::j 42::j 43::j 44::j 45::j 46::j 47::j 48::j 49::j 50::j 51::j 52::j 53::j 54::j 55::j 56::j 57::j 58::j 59::j 60::j 61::j 62::j 63::j 64::j 65::j 66::j 67::j 68::j 69::j 70::j 71::j 72::j 73::j 74::j 75::j 76::j 77::j 78::j 79::j 80::j 81::j 82::j 83::j 84::j 85::j 86::j 87::j 88::j 89::j 90::j 91::j 92::j 93::j 94::j 95::j 96::j 97::j 98::j 99::j 100::j 101::j 102::j 103::j 104::j 105::j 106::j 107::j 108::j 109::j 110::j 111::j 112::j 113::j 114::j 115::j 116::j 117::j 118::j 119::j 120::j 121::j 122::j 123::j 124::j 125::j 126::j 127::j 128::j 129::j 130::j 131::j 132::j 133::j 134::j 135::j 136::j 137::[])) ?_ ?_ _ _ ?_
   rotate_left 2
   ·exact ⟨hcov,ex_get' (by simp)⟩
   ·rintro a x r fr h3 hl12 ⟨⟨sp,ps,code,w,I,hn⟩,j,rfl⟩
    have ha12:a.length < 12:=by
     have:=congrArg List.length hl12
     simp at this;omega
    have hfull:ls at_ = a++x::(r++(ls at_).drop 12):=by
     conv=>lhs;rw [← List.take_append_drop 12 (ls at_),hl12]
     simp
    have hil:a.length < (ls at_).length:=by rw [hfull];simp
    have hso:some (ls at_) = at_:=by rw [hfull];exact (ls_cons hfull).symm
    have hix:=index_sl (P:=Tryz.prog) (enc:=encI) (s:=1) (l:=ls at_) (i:=a.length) Tryz.underlying57 (by simp) (by omega) hil
    rw [hso,hZ2] at hix
    have hrd:=sub_flat (enc:=encI) (s:=1) (fun _=>rfl) a x (r++(ls at_).drop 12) (o:=0) (n:=1) (by omega)
    rw [← hfull] at hrd
    simp only [Nat.add_zero,Nat.mul_one] at hrd
    replace hrd:sub (cat encI (ls at_)) a.length 1 = some [ii x]:=hrd
    simp only [Nat.mul_one] at hix
    have hrow:=row_c x (hbt x (by rw [hfull];simp))
    have hk:=row_ok x
    generalize keepRow x = k at *
    obtain ⟨m1,p,m2,rfl,hhas,hoth,hdo⟩:=splits_inner w I (by omega) hk ha12 rfl
    have hfr:∀ t ∈ (m1++p::m2).map (·.t),t.fr = false:=fun t ht=>(I.ok t ht).fr
    have e4:=live_c w (by omega)
    rw [some_live hfr,List.map_map] at e4
    obtain ⟨LT,hLT⟩:∃ L,(m1++p::m2).map (tabOf ∘ fun q=>q.t) = L:=⟨_,rfl⟩
    rw [hLT] at e4
    have hLne:LT ≠ []:=by rw [← hLT];simp
    rw [nz_ne hLne] at e4
    have hLl:LT.length = (m1++p::m2).length:=by rw [← hLT,List.length_map]
    have hlL:∀ (u:TypeId) (h':H),lenA (sl 4 encTablet (some LT)) (some (.slice u)) h' = some (one (ii LT.length) h'):=fun u h'=>lenA_sl ..
    have d1:decide ((a.length:Int) < (ls at_).length) = true:=by simp;omega
    have d2:decide ((a.length:Int) < 12) = true:=by simp;omega
    have d3:(a.length:Int) < 12:=by omega
    have hw1:IntKind.i64.wrap ((a.length:Int) + 1) = (a.length:Int) + 1:=step_wrap (by omega)
    have hw2:IntKind.i64.wrap ((a.length:Int) + 2) = (a.length:Int) + 2:=wrap_i64 (by omega) (by omega)
    have hA0:encAnswer (noA 0) = [ii 0,.nilslc,.str [],.str [],ii 0,ii 0,ii 0,ii 0,ii 0,.str [],.nilslc]:=rfl
    have hix2:=fun (i:Nat) (hi:i < LT.length)=>index_sl (P:=Tryz.prog) (enc:=encTablet) (s:=4) (l:=LT) (i:=i) Tryz.underlying25 (by simp) (by omega) hi
    have hpl:(m1++p::m2).length ≤ 1 + a.length:=hn
    obtain ⟨ZT,hZT⟩:∃ Z,sl 4 encTablet (some LT) = Z:=⟨_,rfl⟩
    simp only [hZT] at e4 hlL hix2
    generalize cat encI (ls at_) = CI at *
    first | (refine hide ?_;intro Q4 hQ4) | have hQ4:=True.intro
    repeat' (first
     | (replace hQ4:=hQ4;simp [hlb,hil,d3,hix,hrd,hrow,e4])
     | (refine hQ4 _ _ _ ?_;clear hQ4 Q4;first | simp only [] | simp [hlb,hil,d1,d2,d3,hix,hrd,hrow,e4] | skip)
     | (refine hadQ (by assumption) ?_;(try clear hQ4);first | simp only [] | simp [hlb,hil,d1,d2,d3,hix,hrd,hrow,e4] | skip)
     | ((fail_if_success replace hQ4:=hQ4);(first | refine hide ?_ | refine hideS ?_ | refine hideB ?_);intro Q4 hQ4)
     | refine dF (id:=21) [0,1,2,3,4,5,6,7,8,9,10,11,12,13,14,15,16,17,18,19,20,21] [] ?_)
    refine does_each hp LT (fun b q fr h4=>((b.length ≤ m1.length→h4 = h3)∧(m1.length < b.length→CovAt h4 s R ((a.length:Int) + 2) (1 + a.length + 1)))∧∃ j:Nat→AV,fr = (j 0::(.one Z2)::j 2::j 3::j 4::(.one (.ptr s 0 0))::j 6::(.one ZR)::(.one (ii a.length))::(.one (.str k))::(.one ZT)::(.one (ii b.length))::j 12::j 13::j 14::j 15::j 16::j 17::j 18::j 19::j 20::j 21::j 22::j 23::j 24::j 25::j 26::j 27::j 28::j 29::j 30::j 31::j 32::j 33::j 34::j 35::j 36::j 37::j 38::j 39::j 40::j 41::j 42::j 43::j 44::j 45::j 46::j 47::j 48::j 49::j 50::j 51::j 52::j 53::j 54::j 55::j 56::j 57::j 58::j 59::j 60::j 61::j 62::j 63::j 64::j 65::j 66::j 67::j 68::j 69::j 70::j 71::j 72::j 73::j 74::j 75::j 76::j 77::j 78::j 79::j 80::j 81::j 82::j 83::j 84::j 85::j 86::j 87::j 88::j 89::j 90::j 91::j 92::j 93::j 94::j 95::j 96::j 97::j 98::j 99::j 100::j 101::j 102::j 103::j 104::j 105::j 106::j 107::j 108::j 109::j 110::j 111::j 112::j 113::j 114::j 115::j 116::j 117::j 118::j 119::j 120::j 121::j 122::j 123::j 124::j 125::j 126::j 127::j 128::j 129::j 130::j 131::j 132::j 133::j 134::j 135::j 136::j 137::[])) ?_ ?_ _ _ ?_
    rotate_left 2
    ·exact ⟨⟨fun _=>rfl,fun hc=>by simp at hc⟩,ex_get' (by simp)⟩
    ·rintro b y q fr h4 hlT ⟨⟨i1,i2⟩,j',rfl⟩
     have hib:b.length < LT.length:=by rw [hlT];simp
     have hix3:=hix2 b.length hib
     have r1:=sub_flat (enc:=encTablet) (s:=4) len_tablet b y q (o:=0) (n:=2) (by omega)
     have r2:=sub_flat (enc:=encTablet) (s:=4) len_tablet b y q (o:=0) (n:=1) (by omega)
     have r3:=sub_flat (enc:=encTablet) (s:=4) len_tablet b y q (o:=1) (n:=1) (by omega)
     rw [← hlT] at r1 r2 r3
     simp only [Nat.add_zero] at r1 r2
     replace r1:sub (cat encTablet LT) (b.length * 4) 2 = some [.str y.span.lo,.str y.span.hi]:=r1
     replace r2:sub (cat encTablet LT) (b.length * 4) 1 = some [.str y.span.lo]:=r2
     replace r3:sub (cat encTablet LT) (b.length * 4 + 1) 1 = some [.str y.span.hi]:=r3
     have hH:=refHas_c y.span.lo y.span.hi k
     have hwb:IntKind.i64.wrap ((b.length:Int) + 1) = (b.length:Int) + 1:=step_wrap (by omega)
     have hl2:(b++[y]).length = b.length + 1:=by simp
     rcases pick_mem (A:=m1.map (tabOf ∘ fun q=>q.t)) (P:=tabOf p.t) (B:=m2.map (tabOf ∘ fun q=>q.t)) (by rw [← hlT,← hLT];simp) with ⟨hb,rfl⟩ | ⟨hb,hy⟩
     ·simp only [List.length_map] at hb
      obtain rfl:=i1 (by omega)
      rw [show hasName ⟨(tabOf p.t).span.lo,(tabOf p.t).span.hi⟩ k = true from hhas] at hH
      simp only [tabOf] at r1 r2 r3 hH
      rcases hdo with ⟨hne,h5,e5,hc5⟩ | ⟨hne,l0,z,rfl,h5,e5,hc5⟩
      ·have hneb:(p.t.span.lo == k) = false:=by simp [hne]
       have hnec:(p.t.span.lo != k) = true:=by simp [hne]
       rw [hA0] at e5
       simp only [cmdC] at e5
       generalize hLn:LT.length = LN at *
       generalize cat encTablet LT = CT at *
       generalize hbl:b.length = bl at *
       first | (refine hide ?_;intro Q5 hQ5) | have hQ5:=True.intro
       repeat' (first
        | (replace hQ5:=hQ5;simp [strOp,hlL,hib,hix3,r1,r2,hH,hneb,hw2,e5,hwb])
        | (refine hQ5 _ _ _ ?_;clear hQ5 Q5;first | simp only [] | simp [binI,strOp,hlL,hib,hix3,r1,r2,r3,hH,hne,hneb,hnec,hw2,e5,hwb] | skip)
        | (refine hadQ (by assumption) ?_;(try clear hQ5);first | simp only [] | simp [binI,strOp,hlL,hib,hix3,r1,r2,r3,hH,hne,hneb,hnec,hw2,e5,hwb] | skip)
        | ((fail_if_success replace hQ5:=hQ5);(first | refine hide ?_ | refine hideS ?_ | refine hideB ?_);intro Q5 hQ5)
        | refine dF (id:=21) [0,1,2,3,4,5,6,7,8,9,10,11,12,13,14,15,16,17,18,19,20,21] [] ?_)
       refine ⟨⟨fun hc=>by omega,fun _=>?_⟩,ex_get' (by simp [hbl])⟩
       obtain ⟨q1,q2,q3,q4,q5,q6⟩:=hc5
       exact ⟨q1,q2,q3,q4,q5,by omega⟩
      ·rw [hne] at r1 r2 hH
       rw [hA0] at e5
       simp only [cmdC] at e5
       have hb1:b.length = l0.length + 1:=by simpa using hb
       have hz:=sub_flat (enc:=encTablet) (s:=4) len_tablet (l0.map (tabOf ∘ fun q=>q.t)) (tabOf z.t) ((p::m2).map (tabOf ∘ fun q=>q.t)) (o:=0) (n:=1) (by omega)
       have hzL:l0.map (tabOf ∘ fun q=>q.t)++tabOf z.t::(p::m2).map (tabOf ∘ fun q=>q.t) = LT:=by rw [← hLT];simp
       rw [hzL,List.length_map] at hz
       simp only [Nat.add_zero] at hz
       replace hz:sub (cat encTablet LT) (l0.length * 4) 1 = some [.str z.t.span.lo]:=hz
       have hix4:=hix2 l0.length (by omega)
       have hwm:IntKind.i64.wrap ((b.length:Int) - 1) = l0.length:=by rw [hb1,show (((l0.length + 1:Nat):Int) - 1) = l0.length from by omega];exact wrap_i64 (by omega) (by omega)
       have hgt:decide ((0:Int) < (b.length:Int)) = true:=by simp;omega
       have hgt2:0 < b.length:=by omega
       have hgt3:(0:Int) < (b.length:Int):=by omega
       generalize hLn:LT.length = LN at *
       generalize cat encTablet LT = CT at *
       generalize hbl:b.length = bl at *
       generalize hN0:l0.length = N0 at *
       first | (refine hide ?_;intro Q6 hQ6) | have hQ6:=True.intro
       repeat' (first
        | (replace hQ6:=hQ6;simp [strOp,hlL,hib,hix3,hix4,hz,r1,r2,r3,hH,hw2,e5,hwb,hwm,hgt2])
        | (refine hQ6 _ _ _ ?_;clear hQ6 Q6;first | simp only [] | simp [binI,strOp,hlL,hib,hix3,hix4,hz,r1,r2,r3,hH,hw2,e5,hwb,hwm,hgt,hgt2,hgt3] | skip)
        | (refine hadQ (by assumption) ?_;(try clear hQ6);first | simp only [] | simp [binI,strOp,hlL,hib,hix3,hix4,hz,r1,r2,r3,hH,hw2,e5,hwb,hwm,hgt,hgt2,hgt3] | skip)
        | ((fail_if_success replace hQ6:=hQ6);(first | refine hide ?_ | refine hideS ?_ | refine hideB ?_);intro Q6 hQ6)
        | refine dF (id:=21) [0,1,2,3,4,5,6,7,8,9,10,11,12,13,14,15,16,17,18,19,20,21] [] ?_)
       refine ⟨⟨fun hc=>by simp at hc;omega,fun _=>?_⟩,ex_get' (by simp [hbl])⟩
       obtain ⟨q1,q2,q3,q4,q5,q6⟩:=hc5
       exact ⟨q1,q2,q3,q4,q5,by omega⟩
     ·simp only [List.length_map] at hb
      rw [← List.map_append] at hy
      obtain ⟨z,hz,rfl⟩:=List.mem_map.1 hy
      obtain ⟨hz1,hz2⟩:=hoth z hz
      have hzz:hasName ⟨((tabOf ∘ fun q:Pt=>q.t) z).span.lo,((tabOf ∘ fun q:Pt=>q.t) z).span.hi⟩ k = false:=hz1
      rw [hzz] at hH
      simp only [tabOf,Function.comp] at r1 r2 r3 hH
      have hneb:(z.t.span.lo == k) = false:=by simp [hz2]
      generalize hLn:LT.length = LN at *
      generalize cat encTablet LT = CT at *
      generalize hbl:b.length = bl at *
      first | (refine hide ?_;intro Q7 hQ7) | have hQ7:=True.intro
      repeat' (first
       | (replace hQ7:=hQ7;simp [strOp,hlL,hib,hix3,r1,r2,hH,hneb,hwb])
       | (refine hQ7 _ _ _ ?_;clear hQ7 Q7;first | simp only [] | simp [binI,strOp,hlL,hib,hix3,r1,r2,r3,hH,hz2,hneb,hwb] | skip)
       | (refine hadQ (by assumption) ?_;(try clear hQ7);first | simp only [] | simp [binI,strOp,hlL,hib,hix3,r1,r2,r3,hH,hz2,hneb,hwb] | skip)
       | ((fail_if_success replace hQ7:=hQ7);(first | refine hide ?_ | refine hideS ?_ | refine hideB ?_);intro Q7 hQ7)
       | refine dF (id:=21) [0,1,2,3,4,5,6,7,8,9,10,11,12,13,14,15,16,17,18,19,20,21] [] ?_)
      exact ⟨⟨fun hc=>i1 (by omega),fun hc=>i2 (by omega)⟩,ex_get' (by simp [hbl])⟩
    ·rintro fr h4 ⟨⟨i1,i2⟩,j',rfl⟩
     obtain ⟨sp5,ps5,code5,w5,I5,hn5⟩:=i2 (by rw [hLl];simp)
     have hfr5:∀ t ∈ ps5.map (·.t),t.fr = false:=fun t ht=>(I5.ok t ht).fr
     have e6:=rows_c w5 (by omega) (fun q hq=>(I5.ok q.t (List.mem_map.2 ⟨q,hq,rfl⟩)).rows)
     rw [rows_live hfr5,I5.rows,hZR] at e6
     have e7:=last_c w5
     generalize LT.length = LN at *
     first | (refine hide ?_;intro Q8 hQ8) | have hQ8:=True.intro
     repeat' (first
      | (replace hQ8:=hQ8;simp [hlL,e6,e7,hsame,hw2])
      | (refine hQ8 _ _ _ ?_;clear hQ8 Q8;first | simp only [] | simp [hw1] | skip)
      | (refine hadQ (by assumption) ?_;(try clear hQ8);first | simp only [] | simp [binI,hlL,e6,e7,hsame,hw1,hw2] | skip)
      | ((fail_if_success replace hQ8:=hQ8);(first | refine hide ?_ | refine hideS ?_ | refine hideB ?_);intro Q8 hQ8)
      | refine dF (id:=21) [0,1,2,3,4,5,6,7,8,9,10,11,12,13,14,15,16,17,18,19,20,21] [] ?_)
     refine ⟨⟨sp5,ps5,code5, ?_,I5,by simp;omega⟩,ex_get' (by simp)⟩
     have:((a++[x]).length:Int) + 1 = (a.length:Int) + 2:=by simp;omega
     rw [this];exact w5
   ·rintro fr h3 ⟨_,j,rfl⟩
    obtain ⟨N2,hN2'⟩:∃ N,((ls at_).take 12).length = N:=⟨_,rfl⟩
    rw [hN2']
    have hN3:N2 = min 12 (ls at_).length:=by rw [← hN2',List.length_take]
    have e1:decide ((N2:Int) < (ls at_).length) = false ∨ (decide ((N2:Int) < (ls at_).length) = true∧decide ((N2:Int) < 12) = false):=by
     by_cases hc:(ls at_).length ≤ 12
     ·left;simp;omega
     ·right;exact ⟨by simp;omega,by simp;omega⟩
    rcases e1 with d1 | ⟨d1,d2⟩
    ·have d1':¬ N2 < (ls at_).length:=by simpa using d1
     first | (refine hide ?_;intro Q9 hQ9) | have hQ9:=True.intro
     repeat' (first
      | (replace hQ9:=hQ9;simp [hlb,d1',hkn'])
      | (refine hQ9 _ _ _ ?_;clear hQ9 Q9;first | simp only [] | simp [hlb,d1,d1',hkn'] | skip)
      | (refine hadQ (by assumption) ?_;(try clear hQ9);first | simp only [] | simp [hlb] | skip)
      | ((fail_if_success replace hQ9:=hQ9);(first | refine hide ?_ | refine hideS ?_ | refine hideB ?_);intro Q9 hQ9)
      | refine dF (id:=21) [0,1,2,3,4,5,6,7,8,9,10,11,12,13,14,15,16,17,18,19,20,21] [] ?_)
     all_goals exact hP _ _ rfl
    ·have d1':N2 < (ls at_).length:=by simpa using d1
     have d2':¬ (N2:Int) < 12:=by simpa using d2
     first | (refine hide ?_;intro Q10 hQ10) | have hQ10:=True.intro
     repeat' (first
      | (replace hQ10:=hQ10;simp [hlb,d1',d2',hkn'])
      | (refine hQ10 _ _ _ ?_;clear hQ10 Q10;first | simp only [] | simp [hlb,d1,d2,d1',d2',hkn'] | skip)
      | (refine hadQ (by assumption) ?_;(try clear hQ10);first | simp only [] | simp [hlb] | skip)
      | ((fail_if_success replace hQ10:=hQ10);(first | refine hide ?_ | refine hideS ?_ | refine hideB ?_);intro Q10 hQ10)
      | refine dF (id:=21) [0,1,2,3,4,5,6,7,8,9,10,11,12,13,14,15,16,17,18,19,20,21] [] ?_)
     all_goals exact hP _ _ rfl
end Go.Proofs.YtiagcnfmgigllaaGreat
