/- A part of a proof over the abstract machine. No conditions. -/
import Derived.Test.YtiagcnfmgigllaaGreatWmNrm
set_option linter.all false
namespace Go.Proofs.YtiagcnfmgigllaaGreat
open Go Go.Ab Wm NumPlain Go.Proofs.Tryz
set_option maxRecDepth 10000
set_option maxHeartbeats 4000000
theorem t0u (l m:Option (List KO)) (hlk:∀ x ∈ ls l,u0G x∧KOn x) (hmk:∀ x ∈ ls m,u0G x∧KOn x) (h:H) :
  ∃ r,W K 3 [.one (sl 12 a0N l),.one (sl 12 a0N m)] h = some r∧Rets (fun v _=>v = .one (.bool true)) r:=by
 have hw:=n0I h
 obtain ⟨h2,s,sp,p,e2,wa2,ep,po,k2,l2⟩:=n0w h
 have hw3:=n0I h2
 obtain ⟨h3,s3,sp3,q,e3,wb3,eq,qo,k3,l3⟩:=n0w h2
 obtain ⟨h4,e4,wc4,k4⟩:=n0T h3
 obtain ⟨s4,hs4⟩:∃ x,h3.next = x:=⟨_,rfl⟩
 have a3:=wa2.kept k3
 have a4:=a3.kept k4
 have b4:=wb3.kept k4
 have dAB:Dj (fpS s sp [p]) (fpS s3 sp3 [q]):=fun x hx hc=>by have:=wa2.fp_lt x hx;have:=l3 x hc;omega
 have dAC:Dj (fpS s sp [p]) (fpS s4 .nilslc []):=fun x hx hc=>by have:=a3.fp_lt x hx;simp [fpS,z0] at hc;omega
 have dBC:Dj (fpS s3 sp3 [q]) (fpS s4 .nilslc []):=fun x hx hc=>by have:=wb3.fp_lt x hx;simp [fpS,z0] at hc;omega
 rw [hs4] at e4 wc4
 obtain ⟨kn,hkn⟩:=Classical.skolem.1 t0w
 have hkn':∀ h,W K 15 [] h = some (.ret (.one (.bool true)) (kn h)):=fun h=>(hkn h).1
 have hla:∀ (u:TypeId) (h':H),O7 (sl 12 a0N l) (some (.slice u)) h' = some (one (ii (ls l).length) h'):=fun u h'=>O8 ..
 have hlb:∀ (u:TypeId) (h':H),O7 (sl 12 a0N m) (some (.slice u)) h' = some (one (ii (ls m).length) h'):=fun u h'=>O8 ..
 have hkoF:∀ x:KO,u0G x→∀ h,W K 10 [.agg (a0N x)] h = some (.ret (.agg (k0x (kOp x))) h):=fun x hx h=>by
  obtain ⟨a1,a2,a3,a4,a5,a6,a7,⟨b1,b2,b3,b4⟩,a8⟩:=x
  exact F0M a1 a2 a3 a4 a5 a6 a7 b1 b2 b3 b4 a8 hx h
 obtain ⟨Z1,hZ1⟩:∃ Z,sl 12 a0N l = Z:=⟨_,rfl⟩
 obtain ⟨Z2,hZ2⟩:∃ Z,sl 12 a0N m = Z:=⟨_,rfl⟩
 rw [hZ1] at hla ⊢
 rw [hZ2] at hlb ⊢
 refine Rets.intro fun P hP=>?_
 refine H6 hp rfl rfl rfl func3 rfl (by simp [Tryz.f3]) ?_
 simp only [Tryz.f3]
 refine c7 ?_;intro Q1 hQ1
 repeat' (first
  | (replace hQ1:=hQ1;simp [A0c,hw,e2,hw3,e3,e4])
  | refine hQ1 _ _ _ ?_
  | (first | refine dF (id:=8) [0,1,2,3,4,5,6,7,8,9,10,11,12,13,14,15] [(6,12)] ?_ | refine dF (id:=17) [0,1,2,3,4,5,6,7,8,9,10,11,12,13,14,15] [(6,12)] ?_)
  | (first | apply cF | apply wN | apply wS) <;> intro hcnd <;> (try simp only [hcnd]) <;> (try simp [-List.isEmpty_iff,-List.isEmpty_eq_false_iff] at hcnd))
 refine D5 hp ((ls l).take 15) (fun a r fr hh=>(∃ p q,StAt hh s sp [p] 1 0∧StAt hh s3 sp3 [q] 1 0∧StAt hh s4 .nilslc [] 0 0∧Dj (fpS s sp [p]) (fpS s3 sp3 [q])∧Dj (fpS s sp [p]) (fpS s4 .nilslc [])∧Dj (fpS s3 sp3 [q]) (fpS s4 .nilslc [])∧Two p q (a.length + 1)∧Bk q a.length)∧∃ j:Nat→AV,fr = ((.one Z1)::(.one Z2)::j 2::j 3::j 4::(.one (.ptr s 0 0))::(.one (.ptr s3 0 0))::(.one (.ptr s4 0 0))::(.one (ii a.length))::j 9::j 10::j 11::j 12::j 13::j 14::j 15::j 16::j 17::j 18::j 19::j 20::j 21::j 22::j 23::j 24::j 25::j 26::j 27::j 28::j 29::j 30::j 31::j 32::j 33::j 34::j 35::j 36::j 37::j 38::j 39::j 40::j 41::j 42::j 43::j 44::j 45::j 46::j 47::j 48::j 49::j 50::j 51::j 52::j 53::j 54::j 55::j 56::j 57::j 58::j 59::j 60::j 61::j 62::j 63::j 64::j 65::j 66::j 67::j 68::j 69::j 70::j 71::j 72::j 73::j 74::j 75::j 76::j 77::j 78::j 79::j 80::j 81::j 82::j 83::j 84::j 85::j 86::j 87::j 88::j 89::j 90::j 91::j 92::j 93::j 94::j 95::j 96::j 97::j 98::j 99::j 100::j 101::j 102::j 103::j 104::j 105::j 106::j 107::j 108::j 109::j 110::j 111::j 112::j 113::j 114::j 115::j 116::j 117::j 118::j 119::j 120::j 121::j 122::[])) ?_ ?_ _ _ ?_
 rotate_left 2
 ·exact ⟨⟨p,q,a4,b4,wc4,dAB,dAC,dBC,⟨po,qo,by rw [ep,eq],by rw [ep];simp,by rw [eq];simp⟩,⟨by rw [eq],by rw [eq];intro x hx;simp at hx,by rw [eq];simp,by rw [eq];simp⟩⟩,s9 (by simp)⟩
 ·rintro a x r fr hh hl15 ⟨⟨p,q,wa,wb,wc,dAB,dAC,dBC,T,B⟩,j,rfl⟩
  have ha15:a.length < 15:=by
   have:=congrArg List.length hl15
   simp at this;omega
  have hfull:ls l = a++x::(r++(ls l).drop 15):=by
   conv=>lhs;rw [← List.take_append_drop 15 (ls l),hl15]
   simp
  have hil:a.length < (ls l).length:=by rw [hfull];simp
  have hsoL:some (ls l) = l:=by rw [hfull];exact (O9 hfull).symm
  have hix:=I4 (P:=prog) (enc:=a0N) (s:=12) (l:=ls l) (i:=a.length) underlying22 (by simp) (by omega) hil
  rw [hsoL,hZ1] at hix
  have hrd:=F3 (enc:=a0N) (s:=12) (fun _=>rfl) a x (r++(ls l).drop 15) (o:=0) (n:=12) (by omega)
  rw [← hfull] at hrd
  have hxe:sub (a0N x) 0 12 = some (a0N x):=I8 rfl
  simp only [Nat.add_zero,hxe] at hrd
  have hxk:=hlk x (by rw [hfull];simp)
  have hko:=hkoF x hxk.1
  have hoi:=v0W x
  have hon:=F0r (o:=x) hxk.2.2
  generalize kOp x = O at *
  obtain ⟨ok,orow,ohi,⟨oh,ow,oc,⟨vk,vb,vn⟩⟩,ol,om⟩:=O
  simp only [k0x] at hko
  obtain ⟨cl,hcl⟩:∃ c,Int.tmod (a.length:Int) 3 = c:=⟨_,rfl⟩
  have hclb:0 ≤ cl∧cl ≤ 255:=by rw [← hcl];have:=Int.tmod_nonneg (a:=(a.length:Int)) 3 (by omega);have:=Int.tmod_lt_of_pos (a.length:Int) (b:=3) (by omega);omega
  obtain ⟨X,hX⟩:∃ X:Blk,X = ⟨0,[19],true,[ii 1,ii ok,.str orow,.str ohi,.bool oh,.bool ow,.str oc,ii vk,bs vb,.flt vn,sl 6 l7 ol,ii om,.str [],.str [],ii 0,.str [],ii 0,ii 0,.nilslc]⟩:=⟨_,rfl⟩
  obtain ⟨h1,h2',p',q',A,B',e5,e6,e7,wa',wb',dAB',T',g1,g2,eq'⟩:=v0j (wa.new X) (wb.new X) dAB cl (a.length + 1) T ok orow ohi oh ow oc vk vb vn ol om hoi hclb (by omega)
  have Bk':=y0R T.two B hoi hon eq'
  have wc1:=(wc.new X).fp g1 dAC.symm
  have wc':=wc1.fp g2 dBC.symm
  have dAC':Dj (fpS s sp [p']) (fpS s4 .nilslc []):=dAC.step g1 (wc.new X).fp_lt
  have dBC':Dj (fpS s3 sp3 [q']) (fpS s4 .nilslc []):=dBC.step g2 wc1.fp_lt
  obtain ⟨h0,hh0⟩:∃ h0,hh.new X = h0:=⟨_,rfl⟩
  have f0:h0.f hh.next = some X:=by rw [← hh0];simp
  have f1:h1.f hh.next = some X:=by
   rw [g1.keep hh.next (by simp) (fun hc=>by have:=wa.fp_lt _ hc;omega),hh0];exact f0
  rw [hh0] at e5
  rw [hX] at hh0 f0 f1
  have d1:decide ((a.length:Int) < (ls l).length) = true:=by simp;omega
  have d2:decide ((a.length:Int) < 15) = true:=by simp;omega
  have d3:(a.length:Int) < 15:=by omega
  have hw1:IntKind.i64.wrap ((a.length:Int) + 1) = (a.length:Int) + 1:=D3 (by omega)
  have hCl:(l8 A).length = 11:=rfl
  have hDl:(l8 B').length = 11:=rfl
  generalize l8 A = CA at e5 e7 hCl
  generalize l8 B' = CB at e6 e7 hDl
  generalize a0N x = XO at *
  generalize cat a0N (ls l) = CK at *
  generalize sl 6 l7 ol = ZL at *
  first | (refine c7 ?_;intro Q2 hQ2) | have hQ2:=oqk
  repeat' (first
   | (replace hQ2:=hQ2;simp [hla,hil,d1,d2,d3,hix,hrd,hko,hw1,hh0,f0,f1,hcl,e5,e6,e7,hCl,hDl])
   | (refine hQ2 _ _ _ ?_;clear hQ2 Q2;first | simp only [] | simp [hla,hil,d1,d2,d3,hix,hrd,hko,hw1,hh0,f0,f1,hcl,e5,e6,e7,hCl,hDl] | skip)
   | (refine C5 (by assumption) ?_;(try clear hQ2);first | simp only [] | simp [hla,hil,d1,d2,d3,hix,hrd,hko,hw1,hh0,f0,f1,hcl,e5,e6,e7,hCl,hDl] | skip)
   | ((fail_if_success replace hQ2:=hQ2);(first | refine c7 ?_ | refine y5 ?_ | refine y3 ?_);intro Q2 hQ2)
   | (first | refine dF (id:=8) [0,1,2,3,4,5,6,7,8,9,10,11,12,13,14,15] [(6,12)] ?_ | refine dF (id:=17) [0,1,2,3,4,5,6,7,8,9,10,11,12,13,14,15] [(6,12)] ?_)
   | (first | apply cF | apply wN | apply wS) <;> intro hcnd <;> (try simp only [hcnd]) <;> (try simp [-List.isEmpty_iff,-List.isEmpty_eq_false_iff] at hcnd))
  exact ⟨⟨p',q',wa',wb',wc',dAB',dAC',dBC',by simpa using T',by simpa using Bk'⟩,s9 (by simp)⟩
 ·rintro fr hh ⟨⟨p,q,wa,wb,wc,dAB,dAC,dBC,T,B⟩,j,rfl⟩
  obtain ⟨N,hN⟩:∃ N,((ls l).take 15).length = N:=⟨_,rfl⟩
  rw [hN] at T B ⊢
  have hN2:N = min 15 (ls l).length:=by rw [← hN,oqo]
  obtain ⟨h5,e5,wb5,g5⟩:=p0W wb T.two.sp B.gen T.two.rows T.two.cache 9 1
  have hTl:(Z7 ⟨[],[]⟩ 1 q.t.rows q.t.cache).length ≤ 1048576:=by
   have h1:=l0G (sp:=⟨[],[]⟩) (gen:=1) rfl T.two.rows T.two.cache B.small
   have h2:=B.len
   have h3:(9 + 20000) * q.t.cache.length ≤ (9 + 20000) * 15:=Nat.mul_le_mul_left _ (by omega)
   omega
  have wa5:=wa.fp g5 dAB
  have wc5:=wc.fp g5 dBC.symm
  obtain ⟨CF,hCF⟩:∃ C,l8 (stA (Z7 ⟨[],[]⟩ 1 q.t.rows q.t.cache)) = C:=⟨_,rfl⟩
  have hFl:CF.length = 11:=by rw [← hCF];rfl
  have hFs:sub CF 0 11 = some CF:=I8 hFl
  have hF0:sub CF 0 1 = some [ii 0]:=by rw [← hCF];rfl
  have hF9:sub CF 10 1 = some [bs (some (Z7 ⟨[],[]⟩ 1 q.t.rows q.t.cache))]:=by rw [← hCF];rfl
  rw [hCF] at e5
  obtain ⟨h6,hh6⟩:∃ h6,h5.new ⟨0,[11],true,CF⟩ = h6:=⟨_,rfl⟩
  have wa6:=wa5.new ⟨0,[11],true,CF⟩
  have wc6:=wc5.new ⟨0,[11],true,CF⟩
  have f6:h6.f h5.next = some ⟨0,[11],true,CF⟩:=by rw [← hh6];simp
  rw [hh6] at wa6 wc6
  obtain ⟨h7,sp7,c,e7,ec,wc7,g7⟩:=q0Q wc6 (gen:=1) (by omega) T.two.rows (A0g T.two.rows B.num) T.two.cache 9 1 (g:=2) (by omega) (by omega) hTl
  have wa7:=wa6.fp g7 dAC
  have dAC7:Dj (fpS s4 sp7 [c]) (fpS s sp [p]):=dAC.symm.step g7 wa6.fp_lt
  have oC:One c:=⟨by rw [ec],by rw [ec],by rw [ec];exact r0O T.two.rows (A0g T.two.rows B.num),by rw [ec];exact s0p T.two.cache⟩
  have T7:Two p c 20:=⟨T.one,oC,by rw [T.rel,ec];exact (D0R _).symm,fun x hx=>by have:=T.lt x hx;omega,fun x hx=>by
   rw [ec] at hx
   obtain ⟨y,hy,rfl⟩:=List.mem_map.1 hx
   have:=T.lt2 y hy;simp only [V5];omega⟩
  have hrows:∀ r:Pt,One r→b0E ([r].map (·.t)) = r.t.rows:=fun r o=>by simp [b0E,o.fr]
  have eA:=k0Q wa7 (by simp) (fun x hx=>by simp at hx;subst hx;exact T.one.rows)
  have eC:=k0Q wc7 (by simp) (fun x hx=>by simp at hx;subst hx;exact oC.rows)
  rw [hrows p T.one] at eA
  rw [hrows c oC] at eC
  have eS:=h0t T7.rel T.one.rows oC.rows
  have hA0:l8 (noA 0) = [ii 0,.nilslc,.str [],.str [],ii 0,ii 0,ii 0,ii 0,ii 0,.str [],.nilslc]:=rfl
  rw [hA0] at e7
  obtain ⟨TB,hTB⟩:∃ TB,Z7 ⟨[],[]⟩ 1 q.t.rows q.t.cache = TB:=⟨_,rfl⟩
  rw [hTB] at hF9 e7
  generalize sl 2 c8 (nz p.t.rows) = RA at *
  generalize sl 2 c8 (nz c.t.rows) = RC at *
  have e1:(¬ N < (ls l).length∧True) ∨ (N < (ls l).length∧¬ (N:Int) < 15):=by
   by_cases hc:(ls l).length ≤ 15
   ·left;exact ⟨by omega,trivial⟩
   ·right;omega
  rcases e1 with ⟨d1,d2⟩ | ⟨d1,d2⟩
  all_goals
   first | (refine c7 ?_;intro Q3 hQ3) | have hQ3:=oqk
   repeat' (first
    | (replace hQ3:=hQ3;simp [-lay,N3,N5,U8,M8,hla,d1,d2,e5,hh6,f6,hFl,hFs,hF0,hF9,e7,eA,eC,eS])
    | (refine hQ3 _ _ _ ?_;clear hQ3 Q3;first | simp only [] | simp [-lay,N3,N5,U8,M8,hla,d1,d2,e5,hh6,f6,hFl,hFs,hF0,hF9,e7,eA,eC,eS] | skip)
    | (refine C5 (by assumption) ?_;(try clear hQ3);first | simp only [] | simp [-lay,N3,N5,U8,M8,hla,d1,d2,e5,hh6,f6,hFl,hFs,hF0,hF9,e7,eA,eC,eS] | skip)
    | ((fail_if_success replace hQ3:=hQ3);(first | refine c7 ?_ | refine y5 ?_ | refine y3 ?_);intro Q3 hQ3)
    | (first | refine dF (id:=8) [0,1,2,3,4,5,6,7,8,9,10,11,12,13,14,15] [(6,12)] ?_ | refine dF (id:=17) [0,1,2,3,4,5,6,7,8,9,10,11,12,13,14,15] [(6,12)] ?_)
    | (first | apply cF | apply wN | apply wS) <;> intro hcnd <;> (try simp only [hcnd]) <;> (try simp [-List.isEmpty_iff,-List.isEmpty_eq_false_iff] at hcnd))
   refine D5 hp ((ls m).take 15) (fun a r fr hh=>(∃ p c,StAt hh s sp [p] 1 0∧StAt hh s4 sp7 [c] 2 0∧Dj (fpS s sp [p]) (fpS s4 sp7 [c])∧Two p c (20 + a.length))∧∃ j:Nat→AV,fr = ((.one Z1)::(.one Z2)::j 2::j 3::j 4::(.one (.ptr s 0 0))::(.one (.ptr s3 0 0))::(.one (.ptr s4 0 0))::j 8::j 9::j 10::(.one (ii a.length))::j 12::j 13::j 14::j 15::j 16::j 17::j 18::j 19::j 20::j 21::j 22::j 23::j 24::j 25::j 26::j 27::j 28::j 29::j 30::j 31::j 32::j 33::j 34::j 35::j 36::j 37::j 38::j 39::j 40::j 41::j 42::j 43::j 44::j 45::j 46::j 47::j 48::j 49::j 50::j 51::j 52::j 53::j 54::j 55::j 56::j 57::j 58::j 59::j 60::j 61::j 62::j 63::j 64::j 65::j 66::j 67::j 68::j 69::j 70::j 71::j 72::j 73::j 74::j 75::j 76::j 77::j 78::j 79::j 80::j 81::j 82::j 83::j 84::j 85::j 86::j 87::j 88::j 89::j 90::j 91::j 92::j 93::j 94::j 95::j 96::j 97::j 98::j 99::j 100::j 101::j 102::j 103::j 104::j 105::j 106::j 107::j 108::j 109::j 110::j 111::j 112::j 113::j 114::j 115::j 116::j 117::j 118::j 119::j 120::j 121::j 122::[])) ?_ ?_ _ _ ?_
   rotate_left 2
   ·exact ⟨⟨p,c,wa7,wc7,dAC7.symm,by simpa using T7⟩,s9 (by simp)⟩
   ·rintro a x r fr hh hl15 ⟨⟨p,c,wa,wc,dAC,T⟩,j,rfl⟩
    have ha15:a.length < 15:=by
     have:=congrArg List.length hl15
     simp at this;omega
    have hfull:ls m = a++x::(r++(ls m).drop 15):=by
     conv=>lhs;rw [← List.take_append_drop 15 (ls m),hl15]
     simp
    have hil:a.length < (ls m).length:=by rw [hfull];simp
    have hsoL:some (ls m) = m:=by rw [hfull];exact (O9 hfull).symm
    have hix:=I4 (P:=prog) (enc:=a0N) (s:=12) (l:=ls m) (i:=a.length) underlying22 (by simp) (by omega) hil
    rw [hsoL,hZ2] at hix
    have hrd:=F3 (enc:=a0N) (s:=12) (fun _=>rfl) a x (r++(ls m).drop 15) (o:=0) (n:=12) (by omega)
    rw [← hfull] at hrd
    have hxe:sub (a0N x) 0 12 = some (a0N x):=I8 rfl
    simp only [Nat.add_zero,hxe] at hrd
    have hko:=hkoF x (hmk x (by rw [hfull];simp)).1
    have hoi:=v0W x
    generalize kOp x = O at *
    obtain ⟨ok,orow,ohi,⟨oh,ow,oc,⟨vk,vb,vn⟩⟩,ol,om⟩:=O
    simp only [k0x] at hko
    obtain ⟨cl,hcl⟩:∃ c,Int.tmod (a.length:Int) 3 = c:=⟨_,rfl⟩
    have hclb:0 ≤ cl∧cl ≤ 255:=by rw [← hcl];have:=Int.tmod_nonneg (a:=(a.length:Int)) 3 (by omega);have:=Int.tmod_lt_of_pos (a.length:Int) (b:=3) (by omega);omega
    obtain ⟨X,hX⟩:∃ X:Blk,X = ⟨0,[19],true,[ii 1,ii ok,.str orow,.str ohi,.bool oh,.bool ow,.str oc,ii vk,bs vb,.flt vn,sl 6 l7 ol,ii om,.str [],.str [],ii 0,.str [],ii 0,ii 0,.nilslc]⟩:=⟨_,rfl⟩
    obtain ⟨h1,h2',p',c',A,B',e8,e9,e10,wa',wc',dAC',T',g1,g2,_⟩:=v0j (wa.new X) (wc.new X) dAC cl (20 + a.length) T ok orow ohi oh ow oc vk vb vn ol om hoi hclb (by omega)
    obtain ⟨h0,hh0⟩:∃ h0,hh.new X = h0:=⟨_,rfl⟩
    have f0:h0.f hh.next = some X:=by rw [← hh0];simp
    have f1:h1.f hh.next = some X:=by
     rw [g1.keep hh.next (by simp) (fun hc=>by have:=wa.fp_lt _ hc;omega),hh0];exact f0
    rw [hh0] at e8
    rw [hX] at hh0 f0 f1
    have d1:decide ((a.length:Int) < (ls m).length) = true:=by simp;omega
    have d2:decide ((a.length:Int) < 15) = true:=by simp;omega
    have d3:(a.length:Int) < 15:=by omega
    have hw1:IntKind.i64.wrap ((a.length:Int) + 1) = (a.length:Int) + 1:=D3 (by omega)
    have hw2:IntKind.i64.wrap (20 + (a.length:Int)) = 20 + (a.length:Int):=wrap_i64 (by omega) (by omega)
    have hCl:(l8 A).length = 11:=rfl
    have hDl:(l8 B').length = 11:=rfl
    generalize l8 A = CA at e8 e10 hCl
    generalize l8 B' = CB at e9 e10 hDl
    generalize a0N x = XO at *
    generalize cat a0N (ls m) = CK at *
    generalize sl 6 l7 ol = ZL at *
    first | (refine c7 ?_;intro Q4 hQ4) | have hQ4:=oqk
    repeat' (first
     | (replace hQ4:=hQ4;simp [b0J,hlb,hil,d1,d2,d3,hix,hrd,hko,hw1,hw2,hh0,f0,f1,hcl,e8,e9,e10,hCl,hDl])
     | (refine hQ4 _ _ _ ?_;clear hQ4 Q4;first | simp only [] | simp [b0J,hlb,hil,d1,d2,d3,hix,hrd,hko,hw1,hw2,hh0,f0,f1,hcl,e8,e9,e10,hCl,hDl] | skip)
     | (refine C5 (by assumption) ?_;(try clear hQ4);first | simp only [] | simp [b0J,hlb,hil,d1,d2,d3,hix,hrd,hko,hw1,hw2,hh0,f0,f1,hcl,e8,e9,e10,hCl,hDl] | skip)
     | ((fail_if_success replace hQ4:=hQ4);(first | refine c7 ?_ | refine y5 ?_ | refine y3 ?_);intro Q4 hQ4)
     | (first | refine dF (id:=8) [0,1,2,3,4,5,6,7,8,9,10,11,12,13,14,15] [(6,12)] ?_ | refine dF (id:=17) [0,1,2,3,4,5,6,7,8,9,10,11,12,13,14,15] [(6,12)] ?_)
     | (first | apply cF | apply wN | apply wS) <;> intro hcnd <;> (try simp only [hcnd]) <;> (try simp [-List.isEmpty_iff,-List.isEmpty_eq_false_iff] at hcnd))
    exact ⟨⟨p',c',wa',wc',dAC',by simpa [Int.add_assoc] using T'⟩,s9 (by simp)⟩
   ·rintro fr hh ⟨⟨p,c,wa,wc,dAC,T⟩,j,rfl⟩
    obtain ⟨N2,hN2'⟩:∃ N,((ls m).take 15).length = N:=⟨_,rfl⟩
    rw [hN2']
    have hN3:N2 = min 15 (ls m).length:=by rw [← hN2',oqo]
    have eA:=k0Q wa (by simp) (fun x hx=>by simp at hx;subst hx;exact T.one.rows)
    have eC:=k0Q wc (by simp) (fun x hx=>by simp at hx;subst hx;exact T.two.rows)
    rw [hrows p T.one] at eA
    rw [hrows c T.two] at eC
    have eS:=h0t T.rel T.one.rows T.two.rows
    generalize sl 2 c8 (nz p.t.rows) = RA2 at *
    generalize sl 2 c8 (nz c.t.rows) = RC2 at *
    have e1:(¬ N2 < (ls m).length∧True) ∨ (N2 < (ls m).length∧¬ (N2:Int) < 15):=by
     by_cases hc:(ls m).length ≤ 15
     ·left;exact ⟨by omega,trivial⟩
     ·right;omega
    rcases e1 with ⟨d1,d2⟩ | ⟨d1,d2⟩
    all_goals
     first | (refine c7 ?_;intro Q5 hQ5) | have hQ5:=oqk
     repeat' (first
      | (replace hQ5:=hQ5;simp [hlb,d1,d2,eA,eC,eS,hkn'])
      | (refine hQ5 _ _ _ ?_;clear hQ5 Q5;first | simp only [] | simp [hlb,d1,d2,eA,eC,eS,hkn'] | skip)
      | (refine C5 (by assumption) ?_;(try clear hQ5);first | simp only [] | simp [hlb,d1,d2,eA,eC,eS,hkn'] | skip)
      | ((fail_if_success replace hQ5:=hQ5);(first | refine c7 ?_ | refine y5 ?_ | refine y3 ?_);intro Q5 hQ5)
      | (first | refine dF (id:=8) [0,1,2,3,4,5,6,7,8,9,10,11,12,13,14,15] [(6,12)] ?_ | refine dF (id:=17) [0,1,2,3,4,5,6,7,8,9,10,11,12,13,14,15] [(6,12)] ?_)
      | (first | apply cF | apply wN | apply wS) <;> intro hcnd <;> (try simp only [hcnd]) <;> (try simp [-List.isEmpty_iff,-List.isEmpty_eq_false_iff] at hcnd))
     all_goals exact hP _ _ rfl
end Go.Proofs.YtiagcnfmgigllaaGreat
