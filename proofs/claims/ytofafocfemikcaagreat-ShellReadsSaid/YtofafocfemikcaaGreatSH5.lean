/- A part of a proof over the abstract machine. No conditions. -/
import Derived.Test.YtofafocfemikcaaGreatSHA
import Derived.Test.YtofafocfemikcaaGreatAb5
set_option linter.unusedSimpArgs false
set_option linter.unnecessarySimpa false
set_option linter.unusedVariables false
namespace Go.Proofs.YtofafocfemikcaaGreat
open Go Go.Ab Wm NumPlain
set_option maxRecDepth 10000
set_option maxHeartbeats 4000000
@[simp] theorem ghost_new (e h:H) (k:Blk) (b:Nat):(e.ghost h (h.new k)).f b = if b = h.next then some k else e.f b:=by
 unfold H.ghost
 rw [if_pos (by simp [H.new])]
 by_cases hb:b = h.next
 ·simp [hb,H.new]
 ·simp [hb]
theorem new_set1 (h:H) (a k k':Blk):((h.new a).new k).set (h.next + 1) k' = (h.new a).new k':=new_set (h.new a) k k'
theorem new_set2 (h:H) (a b k k':Blk):(((h.new a).new b).new k).set (h.next + 1 + 1) k' = ((h.new a).new b).new k':=new_set ((h.new a).new b) k k'
def nOf (n:Int):Int:=if m20 n % 3 = 0 then withinI n 0 2 else if m20 n % 3 = 1 then 100 else 101
def planB (p:Wm.KP):BL:=[u8 8]++[u8 (1 + m20 p.do_ % 3)]++textB (keepRow p.at_)++[u8 (1 + m20 p.to % 3)]
def mkD (d:Draw):Wm.Item:=⟨1 + m20 d.kind % 8,withinI d.group 0 3,nOf d.n,withinI d.client 0 3,if 1 + m20 d.kind % 8 = 6 then some (u8 1::encOpB (kOp d.o)) else if 1 + m20 d.kind % 8 = 7 then some (planB d.p) else none⟩
def mkI (y:Wm.Item):Wm.Item:=⟨y.kind,y.group,y.n,y.client,cutB y.bytes 40⟩
def mkC (x:Raw):Config:=if x.tame then ⟨withinI x.c.groups 1 3,1 + m20 x.c.n % 2 * 2,withinI x.c.clients 1 4⟩ else x.c
def mkL (x:Raw):List Wm.Item:=((ls x.l).take 30).map mkD++((ls x.items).take 12).map mkI
theorem mkL_len (x:Raw):(mkL x).length ≤ 42:=by simp only [mkL,List.length_append,List.length_map,List.length_take];omega
theorem call_grow {α:Type} {C:Conf} {P:Program} {t el size bytes:Nat} (ht:P.underlying t = some (.slice el)) (h1:elemT P t = some el) (h2:sizeT P el = some size) (h3:bytesT P el = some bytes) (h0:0 < size) {enc:α→List AS} (he:∀ x,(enc x).length = size)
  {h:H} {s:AS} {l:List α} (g:Grown h size enc s l) (x:α) (hlim:(l.length + 1 + 600) * bytes + (l.length + 1) ≤ limit) {cells:List AS} (hc:cells = enc x) {n:Nat} (hn:n = h.next) {K:AV→H→Prop} {Kp:AS→H→Prop}
  (hk:∀ s' h',Grown h' size enc s' (l++[x])→h.next ≤ h'.next→(∀ b,b < h.next→ownB s ≠ some b→h'.f b = h.f b)→(∀ b,ownB s' = some b→ownB s = some b ∨ h.next ≤ b)→K (.one s') h') :
  onR (((appendA P t t (h.new ⟨0,[size],true,cells⟩) s (.slc n 0 0 1 size none)).bind fun p=>some (OR.val (AV.one p.1) p.2)).bind (afterO (W C))) K Kp:=by
 subst hn
 obtain ⟨s',h',e,g',a,b,c⟩:=grow_one ht h1 h2 h3 h0 he g x hlim hc
 rw [e]
 simp only [oqS,afterO,onR_ok]
 exact hk s' h' g' a b c
theorem m20_3 (n:Int):m20 n % 3 = 0 ∨ m20 n % 3 = 1 ∨ m20 n % 3 = 2:=by have:=m20_bounds n;omega
theorem take_full {α:Type} {n:Nat} {l a r:List α} {x:α} (h:l.take n = a++x::r):l = a++x::(r++l.drop n):=by
 conv=>lhs;rw [← List.take_append_drop n l,h]
 simp
theorem refOpE_c (o:Wm.Op) (ho:OpIs o) (hn:OpNum o) (h:H):W K 19 [.agg (ii 1::(encOp o++[.str [],.str [],ii 0,.str [],ii 0,ii 0,.nilslc]))] h = some (.ret (.one (bs (some (u8 1::encOpB o)))) h):=by
 obtain ⟨o_kind,o_row,o_hi,⟨o_has,o_want,o_col,⟨o_vk,o_vb,o_vn⟩⟩,o_l,o_most⟩:=o
 have:=refOp_c o_kind o_row o_hi o_has o_want o_col o_vk o_vb o_vn o_l o_most ho hn h
 simpa [encOp] using this
def mkIt (d:Draw) (b:Option BL):Wm.Item:=⟨1 + m20 d.kind % 8,withinI d.group 0 3,nOf d.n,withinI d.client 0 3,b⟩
theorem mkD_6 {d:Draw} (h:1 + m20 d.kind % 8 = 6):mkD d = mkIt d (some (u8 1::encOpB (kOp d.o))):=by unfold mkD mkIt;rw [if_pos h]
theorem mkD_7 {d:Draw} (h:1 + m20 d.kind % 8 = 7):mkD d = mkIt d (some (planB d.p)):=by unfold mkD mkIt;rw [if_neg (by omega),if_pos h]
theorem mkD_0 {d:Draw} (h:¬ 1 + m20 d.kind % 8 = 6) (h':¬ 1 + m20 d.kind % 8 = 7):mkD d = mkIt d none:=by unfold mkD mkIt;rw [if_neg h,if_neg h']
theorem kop_cX (o:Wm.KO) (ho:KOok o) (h:H):W K 20 [.agg [ii o.kind,ii o.row,ii o.hi,ii o.most,ii o.col,.bool o.has,.bool o.want,.bool o.v.text,ii o.v.n,.flt o.v.x,bs o.v.b,sl 7 encKC o.l]] h = some (.ret (.agg (encOp (kOp o))) h):=by
 obtain ⟨a1,a2,a3,a4,a5,a6,a7,⟨a8,a9,a10,a11⟩,a12⟩:=o
 exact kop_c _ _ _ _ _ _ _ _ _ _ _ _ ho h
theorem row_len (n:Int):(keepRow n).length ≤ 1048576:=by have:=name_len (row_ok n);omega
theorem kind3 (k:Int):k = 6 ∨ k = 7 ∨ (¬ k = 6∧¬ k = 7):=by omega
theorem made_c (x:Raw) (hx:RawOk x) (h:H):W K 6 [.agg [ii x.c.groups,ii x.c.n,ii x.c.clients,sl 19 encDraw x.l,sl 5 encItem x.items,.bool x.tame]] h = some (.ret (.agg [ii (mkC x).groups,ii (mkC x).n,ii (mkC x).clients,sl 5 encItem (opt (mkL x))]) h):=by
 obtain ⟨⟨cg,cn,cc⟩,xl,xi,tame⟩:=x
 obtain ⟨h1,h2,h3,⟨h4,h5⟩,h6⟩:=hx
 simp only at h1 h2 h3 h4 h5 h6 ⊢
 have w1:=within_c cg 1 3 (by omega) (by omega) (by omega) h1
 have w2:=within_c cc 1 4 (by omega) (by omega) (by omega) h3
 have w3:=m20_c cn h2
 have b3:=m20_bounds cn
 have e1:(m20 cn).tmod 2 = m20 cn % 2:=tmod_pos b3.1
 have e2:IntKind.i64.wrap (m20 cn % 2 * 2) = m20 cn % 2 * 2:=wrap_i64 (by omega) (by omega)
 have e3:IntKind.i64.wrap (1 + m20 cn % 2 * 2) = 1 + m20 cn % 2 * 2:=wrap_i64 (by omega) (by omega)
 have hL:∀ h,lenA (sl 19 encDraw xl) (some (.slice 59)) h = some (one (ii (ls xl).length) h):=fun h=>lenA_sl _ _ _ _ _
 have hL2:∀ h,lenA (sl 5 encItem xi) (some (.slice 62)) h = some (one (ii (ls xi).length) h):=fun h=>lenA_sl _ _ _ _ _
 obtain ⟨ML,hML⟩:∃ ML,mkL ⟨⟨cg,cn,cc⟩,xl,xi,tame⟩ = ML:=⟨_,rfl⟩
 have hML':((ls xl).take 30).map mkD++((ls xi).take 12).map mkI = ML:=hML
 obtain ⟨MC,hMC⟩:∃ MC,mkC ⟨⟨cg,cn,cc⟩,xl,xi,tame⟩ = MC:=⟨_,rfl⟩
 rw [hML,hMC]
 obtain ⟨D,hD⟩:∃ D,D = (ls xl).take 30:=⟨_,rfl⟩
 have hDl:D.length = min 30 (ls xl).length:=by rw [hD,List.length_take]
 obtain ⟨N,hN⟩:∃ N,N = (ls xi).take 12:=⟨_,rfl⟩
 have hNl:N.length = min 12 (ls xi).length:=by rw [hN,List.length_take]
 cases tame
 all_goals
  have hown:memL S.own 6 = false:=by kernel_rfl
  refine W_pure hp (by simp [pureV,w1,w2,w3,e1,e2,e3,hL,hL2,outV,frzV,frzS,frzS_pure,frzP,pureS,pureL,K_own,hown]) (apart_does rfl rfl (by kernel_rfl) Tryz.func6 rfl (by simp [Tryz.f6]) ?_)
  simp only [Tryz.f6]
  refine hide ?_;intro Q1 hQ1
  repeat' (first
   | (replace hQ1:=hQ1;simp [w1,w2,w3,e1,e2,e3,hL,hL2,outV,frzV,frzS,frzS_pure,frzP,pureS,pureL,K_own,hown])
   | refine hQ1 _ _ _ ?_
   | (first | refine dF (id:=3) [0,1,2,3,4,5,6,7,8,9,10,11,12,13,14,15,16,17] [(3,6),(3,13),(7,13)] ?_ | refine dF (id:=8) [0,1,2,3,4,5,6,7,8,9,10,12,13,14,15,18,19,20,11,16,17,21,22,23] [(2,6),(2,9),(2,13),(2,19),(7,9),(7,13),(7,19),(10,13),(10,19),(14,19),(20,17)] ?_)
   | (first | apply cF | apply wN | apply wS) <;> intro hcnd <;> (try simp only [hcnd]) <;> (try simp [-List.isEmpty_iff,-List.isEmpty_eq_false_iff] at hcnd))
 all_goals
  obtain ⟨I,hI⟩:∃ I:List Draw→List Draw→Fr→H→Prop,I = fun a r fr hh=>∃ s1 z,hh.f 0 = some ⟨0,[6],true,[ii cg,ii cn,ii cc,sl 19 encDraw xl,sl 5 encItem xi,z]⟩∧hh.f 1 = some ⟨0,[4],true,[ii 0,ii 0,ii 0,.nilslc]⟩∧hh.f 2 = some ⟨0,[4],true,[ii MC.groups,ii MC.n,ii MC.clients,s1]⟩∧Grown hh 5 encItem s1 (a.map mkD)∧3 ≤ hh.next∧(∀ b,ownB s1 = some b→3 ≤ b)∧∃ j:Nat→AV,fr = (j 0::(.one (.ptr 0 0 0))::(.one (.ptr 1 0 0))::(.one (.ptr 2 0 0))::(.one (ii a.length))::j 5::j 6::j 7::j 8::j 9::j 10::j 11::j 12::j 13::j 14::j 15::j 16::j 17::j 18::j 19::j 20::j 21::j 22::j 23::j 24::j 25::j 26::j 27::j 28::j 29::j 30::j 31::j 32::j 33::j 34::j 35::j 36::j 37::j 38::j 39::j 40::j 41::j 42::j 43::j 44::j 45::j 46::j 47::j 48::j 49::j 50::j 51::j 52::j 53::j 54::j 55::j 56::j 57::j 58::j 59::j 60::j 61::j 62::j 63::j 64::j 65::j 66::j 67::j 68::j 69::j 70::j 71::j 72::j 73::j 74::j 75::j 76::j 77::j 78::j 79::j 80::j 81::j 82::j 83::j 84::j 85::j 86::j 87::j 88::j 89::j 90::j 91::j 92::j 93::j 94::j 95::j 96::j 97::j 98::j 99::j 100::j 101::j 102::j 103::j 104::j 105::j 106::j 107::j 108::j 109::j 110::j 111::j 112::j 113::j 114::j 115::j 116::j 117::j 118::[]):=⟨_,rfl⟩
  refine does_each hp D I ?_ ?_ _ _ (by rw [hI];subst hMC;exact ⟨.nilslc,_,by simp;rfl,by simp,by simp [mkC],grown_nil _ _ _,by simp,by simp [ownB],ex_get' (by simp)⟩)
  ·intro a x r fr hh hll hx
   rw [hI] at hx
   obtain ⟨s1,z,f0,f1,f2,g,hn,hos,j,rfl⟩:=hx
   have hfull:=take_full (hD.symm.trans hll)
   have hal:a.length < 30:=by have:=hDl;rw [hll] at this;simp at this;omega
   generalize (ls xl).drop 30 = dr at hfull
   have hlx:a.length < (ls xl).length:=by rw [hfull];simp
   have hdx:=h5 x (by rw [hfull];simp)
   have hlt:decide ((a.length:Int) < (ls xl).length) = true:=by simp;omega
   have hlt2:(a.length:Int) < (ls xl).length:=by omega
   have hlt3:decide ((a.length:Int) < 30) = true:=by simp;omega
   have hlt4:(a.length:Int) < 30:=by omega
   have hi:=index_sl (P:=Tryz.prog) (enc:=encDraw) (s:=19) (l:=a++x::(r++dr)) (i:=a.length) Tryz.underlying24 (by simp) (by omega) (by simp)
   have hr:=sub_flat (enc:=encDraw) (s:=19) len_draw a x (r++dr) (o:=0) (n:=19) (by omega)
   simp only [Nat.add_zero,sub_all (len_draw _)] at hr
   simp only [encDraw] at hr
   have hLx:=hL
   generalize ((ls xl).length:Int) = LX at *
   obtain rfl:=ls_cons hfull
   have hwi:IntKind.i64.wrap ((a.length:Int) + 1) = ((a.length:Int) + 1):=step_wrap (by omega)
   have n0:¬ 0 = hh.next:=by omega
   have n1:¬ 1 = hh.next:=by omega
   have n2:¬ 2 = hh.next:=by omega
   have d1:=m20_c x.kind hdx.kind
   have d2:=within_c x.group 0 3 (by omega) (by omega) (by omega) hdx.group
   have d3:=within_c x.n 0 2 (by omega) (by omega) (by omega) hdx.n
   have d4:=m20_c x.n hdx.n
   have d5:=within_c x.client 0 3 (by omega) (by omega) (by omega) hdx.client
   have bk:=m20_bounds x.kind
   have bn:=m20_bounds x.n
   have t1:(m20 x.kind).tmod 8 = m20 x.kind % 8:=tmod_pos bk.1
   have t2:(m20 x.n).tmod 3 = m20 x.n % 3:=tmod_pos bn.1
   have t3:IntKind.i64.wrap (1 + m20 x.kind % 8) = 1 + m20 x.kind % 8:=wrap_i64 (by omega) (by omega)
   have hop:=kop_cX x.o hdx.o
   have hop2:=refOpE_c (kOp x.o) (kOp_is x.o) (kOp_num hdx.x hdx.l)
   have hpl:=kplan_c x.p.do_ x.p.at_ x.p.to hdx.pd hdx.pa hdx.pt
   have hpl2:=refPlan_c (1 + m20 x.p.do_ % 3) (keepRow x.p.at_) (1 + m20 x.p.to % 3) (by have:=m20_bounds x.p.do_;omega) (row_len _)
   have m6:=@mkD_6 x
   have m7:=@mkD_7 x
   have m0:=@mkD_0 x
   simp only [mkIt] at m6 m7 m0
   obtain ⟨ko,hko⟩:∃ ko,kOp x.o = ko:=⟨_,rfl⟩
   rw [hko] at hop hop2 m6
   obtain ⟨o_kind,o_row,o_hi,⟨o_has,o_want,o_col,⟨o_vk,o_vb,o_vn⟩⟩,o_l,o_most⟩:=ko
   simp only [encOp,List.cons_append,List.nil_append] at hop hop2
   clear hko
   have nn:nOf x.n = if m20 x.n % 3 = 0 then withinI x.n 0 2 else if m20 x.n % 3 = 1 then 100 else 101:=rfl
   have ix:∀ b i,i < 3→indexA Tryz.prog 60 (.slc b 0 0 3 1 none) i = some (.ptr b 0 i):=fun b i hi=>by
    have:=arr_index (P:=Tryz.prog) (size:=1) (b:=b) (v:=0) (n:=3) (i:=i) Tryz.underlying60 (by simp) (by omega) hi
    simpa using this
   have ix0:=fun b=>ix b 0 (by omega)
   have ix1:=fun b=>ix b 1 (by omega)
   have ix2:=fun b=>ix b 2 (by omega)
   obtain ⟨KK,hKK⟩:∃ KK,1 + m20 x.kind % 8 = KK:=⟨_,rfl⟩
   rw [hKK] at m6 m7 m0
   replace t3:=t3.trans hKK
   clear hKK
   have z0:¬ hh.next = 0:=by omega
   have z1:¬ hh.next = 1:=by omega
   have z2:¬ hh.next = 2:=by omega
   have z3:∀ n:Nat,¬ n = n + 1 + 1:=by omega
   rcases m20_3 x.n with t4 | t4 | t4
   all_goals
    rw [t4] at t2 nn
    simp only [if_true,if_false,Int.reduceEq] at nn
    rcases kind3 KK with rfl | rfl | ⟨k6,k7⟩
   all_goals
    first | (have q6:¬ KK = 6:=k6;have q7:¬ KK = 7:=k7;have p6:(KK == 6) = false:=(by simpa using k6);have p7:(KK == 7) = false:=(by simpa using k7)) | (have q6:=True.intro;have q7:=True.intro;have p6:=True.intro;have p7:=True.intro)
    first | (refine hide ?_;intro Q2 hQ2) | have hQ2:=True.intro
    repeat' (first
     | (replace hQ2:=hQ2;simp [f0,f1,f2,hi,hr,hL,hlt,hlt2,hlt3,hlt4,n0,n1,n2,d1,d2,d3,d4,d5,t1,t2,t3,hop,hop2,hpl,hpl2,new_set1,new_set2,ix0,ix1,ix2,z0,z1,z2,z3,q6,q7,p6,p7,outV,frzV,frzS,frzS_pure,frzP,pureS,pureL,K_own,hown])
     | (refine hQ2 _ _ _ ?_;clear hQ2 Q2;first | simp only [] | simp [f0,f1,f2,hi,hr,hL,hlt,hlt2,hlt3,hlt4,n0,n1,n2,d1,d2,d3,d4,d5,t1,t2,t3,hop,hop2,hpl,hpl2,new_set1,new_set2,ix0,ix1,ix2,z0,z1,z2,z3,q6,q7,p6,p7,outV,frzV,frzS,frzS_pure,frzP,pureS,pureL,K_own,hown] | skip)
     | (refine hadQ (by assumption) ?_;(try clear hQ2);first | simp only [] | simp [f0,f1,f2,hi,hr,hL,hlt,hlt2,hlt3,hlt4,n0,n1,n2,d1,d2,d3,d4,d5,t1,t2,t3,hop,hop2,hpl,hpl2,new_set1,new_set2,ix0,ix1,ix2,z0,z1,z2,z3,q6,q7,p6,p7,outV,frzV,frzS,frzS_pure,frzP,pureS,pureL,K_own,hown] | skip)
     | ((fail_if_success replace hQ2:=hQ2);(first | refine hide ?_ | refine hideS ?_ | refine hideB ?_);intro Q2 hQ2)
     | (first | refine dF (id:=3) [0,1,2,3,4,5,6,7,8,9,10,11,12,13,14,15,16,17] [(3,6),(3,13),(7,13)] ?_ | refine dF (id:=8) [0,1,2,3,4,5,6,7,8,9,10,12,13,14,15,18,19,20,11,16,17,21,22,23] [(2,6),(2,9),(2,13),(2,19),(7,9),(7,13),(7,19),(10,13),(10,19),(14,19),(20,17)] ?_)
     | (first | apply cF | apply wN | apply wS) <;> intro hcnd <;> (try simp only [hcnd]) <;> (try simp [-List.isEmpty_iff,-List.isEmpty_eq_false_iff] at hcnd))
    refine call_grow Tryz.underlying25 (by simp) (by simp) Tryz.bytes62 (by omega) len_item (((g.new _).new _).new _) (mkD x) (by simp [limit];omega) ?hc ?hn (fun s' h' g' hn' hf' hos'=>?_)
    case hc=>first | (rw [m6 rfl];simp [encItem,nn];done) | (rw [m7 rfl];simp [encItem,nn,planB];done) | (rw [m0 q6 q7];simp [encItem,nn,bs_none];done)
    case hn=>simp
    simp only [new_next] at hn' hf' hos'
    have e0:=hf' 0 (by omega) (fun hc=>by have:=hos _ hc;omega)
    have e1:=hf' 1 (by omega) (fun hc=>by have:=hos _ hc;omega)
    have e2:=hf' 2 (by omega) (fun hc=>by have:=hos _ hc;omega)
    simp [z0,z1,z2,n0,n1,n2,f0,f1,f2] at e0 e1 e2
    have v1:3 ≤ h'.next:=by omega
    have v2:∀ b,ownB s' = some b→3 ≤ b:=fun b hb=>by rcases hos' b hb with h | h;exact hos _ h;omega
    have y0:¬ h'.next = 0:=by omega
    have y1:¬ h'.next = 1:=by omega
    have y2:¬ h'.next = 2:=by omega
    have g2:∀ k,Grown (h'.set 2 k) 5 encItem s' ((a++[x]).map mkD):=fun k=>by
     rw [List.map_append]
     exact g'.keep (by simp) fun b hb=>by rw [set_at,if_neg (by have:=v2 b hb;omega)]
    clear g g' hop hop2 hpl hpl2 hos hos' hf'
    first | (refine hide ?_;intro Q3 hQ3) | have hQ3:=True.intro
    repeat' (first
     | (replace hQ3:=hQ3;simp [e0,e1,e2,hwi,outV,frzV,frzS,frzS_pure,frzP,pureS,pureL,K_own,hown])
     | (refine hQ3 _ _ _ ?_;clear hQ3 Q3;first | simp only [] | simp [e0,e1,e2,hwi,outV,frzV,frzS,frzS_pure,frzP,pureS,pureL,K_own,hown] | skip)
     | (refine hadQ (by assumption) ?_;(try clear hQ3);first | simp only [] | simp [e0,e1,e2,hwi,outV,frzV,frzS,frzS_pure,frzP,pureS,pureL,K_own,hown] | skip)
     | ((fail_if_success replace hQ3:=hQ3);(first | refine hide ?_ | refine hideS ?_ | refine hideB ?_);intro Q3 hQ3)
     | (first | refine dF (id:=3) [0,1,2,3,4,5,6,7,8,9,10,11,12,13,14,15,16,17] [(3,6),(3,13),(7,13)] ?_ | refine dF (id:=8) [0,1,2,3,4,5,6,7,8,9,10,12,13,14,15,18,19,20,11,16,17,21,22,23] [(2,6),(2,9),(2,13),(2,19),(7,9),(7,13),(7,19),(10,13),(10,19),(14,19),(20,17)] ?_)
     | (first | apply cF | apply wN | apply wS) <;> intro hcnd <;> (try simp only [hcnd]) <;> (try simp [-List.isEmpty_iff,-List.isEmpty_eq_false_iff] at hcnd))
    all_goals first | omega | (rw [hI];refine ⟨s',z,by simp [e0],by simp [e1],by simp [e2],g2 _,by simpa using v1,v2,by rw [List.length_append];exact ex_get' (by simp)⟩) | trace_state
  ·intro fr hh hx
   rw [hI] at hx
   obtain ⟨s1,z,f0,f1,f2,g,hn,hos,j,rfl⟩:=hx
   have hend:¬ ((D.length:Int) < (ls xl).length) ∨ (((D.length:Int) < (ls xl).length)∧¬ ((D.length:Int) < 30)):=by
    rw [hDl];omega
   have hLx:=hL
   generalize ((ls xl).length:Int) = LX at *
   generalize (D.length:Int) = LD at *
   rcases hend with c1 | ⟨c1,c2⟩
   all_goals
    first | (have c3:¬ LD < 30:=c2) | have c3:=True.intro
    have hk3:=hI
    clear hk3 hI I
    first | (refine hide ?_;intro Q4 hQ4) | have hQ4:=True.intro
    repeat' (first
     | (replace hQ4:=hQ4;simp [f0,c1,c3,hLx,outV,frzV,frzS,frzS_pure,frzP,pureS,pureL,K_own,hown])
     | (refine hQ4 _ _ _ ?_;clear hQ4 Q4;first | simp only [] | simp [f0,c1,c3,hLx,outV,frzV,frzS,frzS_pure,frzP,pureS,pureL,K_own,hown] | skip)
     | (refine hadQ (by assumption) ?_;(try clear hQ4);first | simp only [] | simp [f0,c1,c3,hLx,outV,frzV,frzS,frzS_pure,frzP,pureS,pureL,K_own,hown] | skip)
     | ((fail_if_success replace hQ4:=hQ4);(first | refine hide ?_ | refine hideS ?_ | refine hideB ?_);intro Q4 hQ4)
     | (first | refine dF (id:=3) [0,1,2,3,4,5,6,7,8,9,10,11,12,13,14,15,16,17] [(3,6),(3,13),(7,13)] ?_ | refine dF (id:=8) [0,1,2,3,4,5,6,7,8,9,10,12,13,14,15,18,19,20,11,16,17,21,22,23] [(2,6),(2,9),(2,13),(2,19),(7,9),(7,13),(7,19),(10,13),(10,19),(14,19),(20,17)] ?_)
     | (first | apply cF | apply wN | apply wS) <;> intro hcnd <;> (try simp only [hcnd]) <;> (try simp [-List.isEmpty_iff,-List.isEmpty_eq_false_iff] at hcnd))
    obtain ⟨J,hJ⟩:∃ J:List Wm.Item→List Wm.Item→Fr→H→Prop,J = fun a r fr hh=>∃ s1 z,hh.f 0 = some ⟨0,[6],true,[ii cg,ii cn,ii cc,sl 19 encDraw xl,sl 5 encItem xi,z]⟩∧hh.f 1 = some ⟨0,[4],true,[ii 0,ii 0,ii 0,.nilslc]⟩∧hh.f 2 = some ⟨0,[4],true,[ii MC.groups,ii MC.n,ii MC.clients,s1]⟩∧Grown hh 5 encItem s1 (D.map mkD++a.map mkI)∧3 ≤ hh.next∧(∀ b,ownB s1 = some b→3 ≤ b)∧∃ j:Nat→AV,fr = (j 0::(.one (.ptr 0 0 0))::(.one (.ptr 1 0 0))::(.one (.ptr 2 0 0))::j 4::j 5::j 6::(.one (ii a.length))::j 8::j 9::j 10::j 11::j 12::j 13::j 14::j 15::j 16::j 17::j 18::j 19::j 20::j 21::j 22::j 23::j 24::j 25::j 26::j 27::j 28::j 29::j 30::j 31::j 32::j 33::j 34::j 35::j 36::j 37::j 38::j 39::j 40::j 41::j 42::j 43::j 44::j 45::j 46::j 47::j 48::j 49::j 50::j 51::j 52::j 53::j 54::j 55::j 56::j 57::j 58::j 59::j 60::j 61::j 62::j 63::j 64::j 65::j 66::j 67::j 68::j 69::j 70::j 71::j 72::j 73::j 74::j 75::j 76::j 77::j 78::j 79::j 80::j 81::j 82::j 83::j 84::j 85::j 86::j 87::j 88::j 89::j 90::j 91::j 92::j 93::j 94::j 95::j 96::j 97::j 98::j 99::j 100::j 101::j 102::j 103::j 104::j 105::j 106::j 107::j 108::j 109::j 110::j 111::j 112::j 113::j 114::j 115::j 116::j 117::j 118::[]):=⟨_,rfl⟩
    refine does_each hp N J ?_ ?_ _ _ (by rw [hJ];exact ⟨s1,z,f0,f1,f2,by simpa using g,hn,hos,ex_get' (by simp)⟩)
    ·intro a x r fr hh hll hx
     rw [hJ] at hx
     clear f0 f1 f2 g hn hos
     obtain ⟨s1,z,f0,f1,f2,g,hn,hos,j,rfl⟩:=hx
     have hfull:=take_full (hN.symm.trans hll)
     have hal:a.length < 12:=by have:=hNl;rw [hll] at this;simp at this;omega
     generalize (ls xi).drop 12 = dr at hfull
     have hlx:a.length < (ls xi).length:=by rw [hfull];simp
     have hlt2:(a.length:Int) < (ls xi).length:=by omega
     have hlt4:(a.length:Int) < 12:=by omega
     have hlt:decide ((a.length:Int) < (ls xi).length) = true:=decide_eq_true hlt2
     have hlt3:decide ((a.length:Int) < 12) = true:=decide_eq_true hlt4
     have hi:=index_sl (P:=Tryz.prog) (enc:=encItem) (s:=5) (l:=a++x::(r++dr)) (i:=a.length) Tryz.underlying25 (by simp) (by omega) (by simp)
     have hr:=sub_flat (enc:=encItem) (s:=5) len_item a x (r++dr) (o:=0) (n:=5) (by omega)
     simp only [Nat.add_zero,sub_all (len_item _)] at hr
     simp only [encItem] at hr
     have hLi:=hL2
     generalize ((ls xi).length:Int) = LI at *
     obtain rfl:=ls_cons hfull
     have hwi:IntKind.i64.wrap ((a.length:Int) + 1) = ((a.length:Int) + 1):=step_wrap (by omega)
     have hcut:∀ h,W K 12 [.one (bs x.bytes),.one (.int .i64 40)] h = some (.ret (.one (bs (cutB x.bytes 40))) h):=fun h=>cut_c x.bytes 40 (by omega) h
     have n0:¬ 0 = hh.next:=by omega
     have n1:¬ 1 = hh.next:=by omega
     have n2:¬ 2 = hh.next:=by omega
     have z0:¬ hh.next = 0:=by omega
     have z1:¬ hh.next = 1:=by omega
     have z2:¬ hh.next = 2:=by omega
     first | (refine hide ?_;intro Q5 hQ5) | have hQ5:=True.intro
     repeat' (first
      | (replace hQ5:=hQ5;simp [f0,f1,f2,hi,hr,hLi,hlt,hlt2,hlt3,hlt4,n0,n1,n2,z0,z1,z2,hcut,outV,frzV,frzS,frzS_pure,frzP,pureS,pureL,K_own,hown])
      | (refine hQ5 _ _ _ ?_;clear hQ5 Q5;first | simp only [] | simp [f0,f1,f2,hi,hr,hLi,hlt,hlt2,hlt3,hlt4,n0,n1,n2,z0,z1,z2,hcut,outV,frzV,frzS,frzS_pure,frzP,pureS,pureL,K_own,hown] | skip)
      | (refine hadQ (by assumption) ?_;(try clear hQ5);first | simp only [] | simp [f0,f1,f2,hi,hr,hLi,hlt,hlt2,hlt3,hlt4,n0,n1,n2,z0,z1,z2,hcut,outV,frzV,frzS,frzS_pure,frzP,pureS,pureL,K_own,hown] | skip)
      | ((fail_if_success replace hQ5:=hQ5);(first | refine hide ?_ | refine hideS ?_ | refine hideB ?_);intro Q5 hQ5)
      | (first | refine dF (id:=3) [0,1,2,3,4,5,6,7,8,9,10,11,12,13,14,15,16,17] [(3,6),(3,13),(7,13)] ?_ | refine dF (id:=8) [0,1,2,3,4,5,6,7,8,9,10,12,13,14,15,18,19,20,11,16,17,21,22,23] [(2,6),(2,9),(2,13),(2,19),(7,9),(7,13),(7,19),(10,13),(10,19),(14,19),(20,17)] ?_)
      | (first | apply cF | apply wN | apply wS) <;> intro hcnd <;> (try simp only [hcnd]) <;> (try simp [-List.isEmpty_iff,-List.isEmpty_eq_false_iff] at hcnd))
     refine call_grow Tryz.underlying25 (by simp) (by simp) Tryz.bytes62 (by omega) len_item (g.new _) (mkI x) (by simp [limit,hDl];omega) ?hc ?hn (fun s' h' g' hn' hf' hos'=>?_)
     case hc=>simp [encItem,mkI]
     case hn=>simp
     simp only [new_next] at hn' hf' hos'
     have e0:=hf' 0 (by omega) (fun hc=>by have:=hos _ hc;omega)
     have e1:=hf' 1 (by omega) (fun hc=>by have:=hos _ hc;omega)
     have e2:=hf' 2 (by omega) (fun hc=>by have:=hos _ hc;omega)
     simp [z0,z1,z2,n0,n1,n2,f0,f1,f2] at e0 e1 e2
     have v1:3 ≤ h'.next:=by omega
     have v2:∀ b,ownB s' = some b→3 ≤ b:=fun b hb=>by rcases hos' b hb with h | h;exact hos _ h;omega
     have g2:∀ k,Grown (h'.set 2 k) 5 encItem s' (D.map mkD++(a++[x]).map mkI):=fun k=>by
      rw [List.map_append,← List.append_assoc]
      exact g'.keep (by simp) fun b hb=>by rw [set_at,if_neg (by have:=v2 b hb;omega)]
     clear g g' hos hos' hf'
     first | (refine hide ?_;intro Q6 hQ6) | have hQ6:=True.intro
     repeat' (first
      | (replace hQ6:=hQ6;simp [e0,e1,e2,hwi,outV,frzV,frzS,frzS_pure,frzP,pureS,pureL,K_own,hown])
      | (refine hQ6 _ _ _ ?_;clear hQ6 Q6;first | simp only [] | simp [e0,e1,e2,hwi,outV,frzV,frzS,frzS_pure,frzP,pureS,pureL,K_own,hown] | skip)
      | (refine hadQ (by assumption) ?_;(try clear hQ6);first | simp only [] | simp [e0,e1,e2,hwi,outV,frzV,frzS,frzS_pure,frzP,pureS,pureL,K_own,hown] | skip)
      | ((fail_if_success replace hQ6:=hQ6);(first | refine hide ?_ | refine hideS ?_ | refine hideB ?_);intro Q6 hQ6)
      | (first | refine dF (id:=3) [0,1,2,3,4,5,6,7,8,9,10,11,12,13,14,15,16,17] [(3,6),(3,13),(7,13)] ?_ | refine dF (id:=8) [0,1,2,3,4,5,6,7,8,9,10,12,13,14,15,18,19,20,11,16,17,21,22,23] [(2,6),(2,9),(2,13),(2,19),(7,9),(7,13),(7,19),(10,13),(10,19),(14,19),(20,17)] ?_)
      | (first | apply cF | apply wN | apply wS) <;> intro hcnd <;> (try simp only [hcnd]) <;> (try simp [-List.isEmpty_iff,-List.isEmpty_eq_false_iff] at hcnd))
     all_goals first | omega | (rw [hJ];refine ⟨s',z,by simp [e0],by simp [e1],by simp [e2],g2 _,by simpa using v1,v2,by rw [List.length_append];exact ex_get' (by simp)⟩) | trace_state
    ·intro fr hh hx
     rw [hJ] at hx
     clear f0 f1 f2 g hn hos
     obtain ⟨s1,z,f0,f1,f2,g,hn,hos,j,rfl⟩:=hx
     have hend:¬ ((N.length:Int) < (ls xi).length) ∨ (((N.length:Int) < (ls xi).length)∧¬ ((N.length:Int) < 12)):=by
      rw [hNl];omega
     have hz:∀ k,frzS false (hh.set 1 k) 64 s1 = some (sl 5 encItem (opt ML)):=fun k=>by
      have:=grown_frz (st:=false) len_item (by omega) (g.keep (h':=hh.set 1 k) (by simp) fun b hb=>by rw [set_at,if_neg (by have:=hos b hb;omega)]) (cat_pure _ pure_item)
      rw [hD,hN,hML'] at this
      exact this
     have hLi:=hL2
     generalize ((ls xi).length:Int) = LI at *
     generalize (N.length:Int) = LN at *
     rcases hend with d1 | ⟨d1,d2⟩
     all_goals
      first | (have d3:¬ LN < 12:=d2) | have d3:=True.intro
      first | (refine hide ?_;intro Q7 hQ7) | have hQ7:=True.intro
      repeat' (first
       | (replace hQ7:=hQ7;simp [f0,f1,f2,d1,d3,hLi,hz,outV,frzV,frzS,frzS_pure,frzP,pureS,pureL,K_own,hown])
       | (refine hQ7 _ _ _ ?_;clear hQ7 Q7;first | simp only [] | simp [f0,f1,f2,d1,d3,hLi,hz,outV,frzV,frzS,frzS_pure,frzP,pureS,pureL,K_own,hown] | skip)
       | (refine hadQ (by assumption) ?_;(try clear hQ7);first | simp only [] | simp [f0,f1,f2,d1,d3,hLi,hz,outV,frzV,frzS,frzS_pure,frzP,pureS,pureL,K_own,hown] | skip)
       | ((fail_if_success replace hQ7:=hQ7);(first | refine hide ?_ | refine hideS ?_ | refine hideB ?_);intro Q7 hQ7)
       | (first | refine dF (id:=3) [0,1,2,3,4,5,6,7,8,9,10,11,12,13,14,15,16,17] [(3,6),(3,13),(7,13)] ?_ | refine dF (id:=8) [0,1,2,3,4,5,6,7,8,9,10,12,13,14,15,18,19,20,11,16,17,21,22,23] [(2,6),(2,9),(2,13),(2,19),(7,9),(7,13),(7,19),(10,13),(10,19),(14,19),(20,17)] ?_)
       | (first | apply cF | apply wN | apply wS) <;> intro hcnd <;> (try simp only [hcnd]) <;> (try simp [-List.isEmpty_iff,-List.isEmpty_eq_false_iff] at hcnd))
      all_goals trace_state
end Go.Proofs.YtofafocfemikcaaGreat
