/- A part of a proof over the abstract machine. No conditions. -/
import Derived.Test.YtofafocfemikcaaGreatSH2
import Derived.Test.YtofafocfemikcaaGreatSH5
set_option linter.unusedSimpArgs false
set_option linter.unnecessarySimpa false
set_option linter.unusedVariables false
namespace Go.Proofs.YtofafocfemikcaaGreat
open Go Go.Ab Wm NumPlain
set_option maxRecDepth 10000
set_option maxHeartbeats 4000000
theorem bconv (o:Option BL) (h:H):convA Tryz.prog 31 9 (bs o) h = some (.val (.one (.str (ls o))) h):=by
 have he:=elems_bs h o
 have hl:=lenS_bs o
 have:∀ s,bs o ≠ .str s:=by cases o <;> simp [bs_none,bs_some]
 simp only [convA]
 cases hbs:bs o <;> simp_all [isByteT,bytesOf_map]
theorem cmp_conf:K.cmp 23 = some [.int .i64 0,.int .i64 0,.int .i64 0]:=by kernel_rfl
theorem conf_neq (g n c:Int):bin Tryz.prog K.cmp .neq 23 (.agg [ii g,ii n,ii c]) (.agg [ii g,ii n,ii c]) = some (.bool false):=by
 simp [bin,cmp_conf,kindsA,eqL,eqS]
structure EqI (x y:Wm.Item):Prop where
 kind:x.kind = y.kind
 group:x.group = y.group
 n:x.n = y.n
 client:x.client = y.client
 bytes:ls x.bytes = ls y.bytes
theorem same_c {α:Type} (M:List α) (f f':α→Wm.Item) (hf:∀ x ∈ M,EqI (f x) (f' x)) (g n c:Int) (o o':Option (List Wm.Item)) (ho:ls o = M.map f) (ho':ls o' = M.map f') (hm:M.length ≤ 256) (h:H) :
  W K 18 [.agg [ii g,ii n,ii c,sl 5 encItem o],.agg [ii g,ii n,ii c,sl 5 encItem o']] h = some (.ret (.one (.bool true)) h):=by
 have hL:∀ h,lenA (sl 5 encItem o) (some (.slice 62)) h = some (one (ii M.length) h):=fun h=>by
  have:=lenA_sl 5 encItem o 62 h
  rwa [ho,List.length_map] at this
 have hL':∀ h,lenA (sl 5 encItem o') (some (.slice 62)) h = some (one (ii M.length) h):=fun h=>by
  have:=lenA_sl 5 encItem o' 62 h
  rwa [ho',List.length_map] at this
 have hcf:=conf_neq g n c
 have hown:memL S.own 18 = false:=by kernel_rfl
 refine W_pure hp (by simp [pureV,hL,hL',hcf,outV,frzV,frzS,frzS_pure,frzP,pureS,pureL,K_own,hown]) (apart_does rfl rfl (by kernel_rfl) Tryz.func18 rfl (by simp [Tryz.f18]) ?_)
 simp only [Tryz.f18]
 refine hide ?_;intro Q5 hQ5
 repeat' (first
  | (replace hQ5:=hQ5;simp [hL,hL',hcf,outV,frzV,frzS,frzS_pure,frzP,pureS,pureL,K_own,hown])
  | refine hQ5 _ _ _ ?_
  | refine dF (id:=6) [0,1,2,3,4,5,6,7,8,9,10,11,12,13] [(6,12),(9,12)] ?_
  | (first | apply cF | apply wN | apply wS) <;> intro hcnd <;> (try simp only [hcnd]) <;> (try simp [-List.isEmpty_iff,-List.isEmpty_eq_false_iff] at hcnd))
 obtain ⟨I,hI⟩:∃ I:List α→List α→Fr→H→Prop,I = fun a r fr hh=>hh.f 0 = some ⟨0,[4],true,[ii g,ii n,ii c,sl 5 encItem o]⟩∧hh.f 1 = some ⟨0,[4],true,[ii g,ii n,ii c,sl 5 encItem o']⟩∧2 ≤ hh.next∧∃ j:Nat→AV,fr = (j 0::j 1::(.one (.ptr 0 0 0))::(.one (.ptr 1 0 0))::j 4::(.one (ii a.length))::j 6::j 7::j 8::j 9::j 10::j 11::j 12::j 13::j 14::j 15::j 16::j 17::j 18::j 19::j 20::j 21::j 22::j 23::j 24::j 25::j 26::j 27::j 28::j 29::j 30::j 31::j 32::j 33::j 34::j 35::j 36::j 37::j 38::j 39::j 40::j 41::j 42::j 43::j 44::j 45::j 46::j 47::j 48::j 49::j 50::j 51::j 52::j 53::j 54::j 55::j 56::j 57::j 58::j 59::j 60::j 61::j 62::j 63::j 64::j 65::j 66::j 67::j 68::j 69::j 70::j 71::j 72::j 73::[]):=⟨_,rfl⟩
 refine does_each hp M I ?_ ?_ _ _ (by rw [hI];exact ⟨by simp,by simp,by simp,ex_get' (by simp)⟩)
 ·intro a x r fr hh hll hx
  rw [hI] at hx
  obtain ⟨f0,f1,hn,j,rfl⟩:=hx
  have hq:=hf x (by rw [hll];simp)
  have hal:a.length ≤ 256:=by rw [hll] at hm;simp at hm;omega
  have hlt:decide ((a.length:Int) < M.length) = true:=by rw [hll];simp;omega
  have hlt2:(a.length:Int) < M.length:=by rw [hll];simp;omega
  have e1:ls o = a.map f++f x::r.map f:=by rw [ho,hll];simp
  have e2:ls o' = a.map f'++f' x::r.map f':=by rw [ho',hll];simp
  clear ho ho' hf
  have hLx:=hL
  have hLx':=hL'
  generalize (M.length:Int) = LO at *
  obtain rfl:=ls_cons e1
  obtain rfl:=ls_cons e2
  have hi:=index_sl (P:=Tryz.prog) (enc:=encItem) (s:=5) (l:=a.map f++f x::r.map f) (i:=a.length) Tryz.underlying25 (by simp) (by omega) (by simp)
  have hr:=sub_flat (enc:=encItem) (s:=5) len_item (a.map f) (f x) (r.map f) (o:=0) (n:=5) (by omega)
  have hi':=index_sl (P:=Tryz.prog) (enc:=encItem) (s:=5) (l:=a.map f'++f' x::r.map f') (i:=a.length) Tryz.underlying25 (by simp) (by omega) (by simp)
  have hr':=sub_flat (enc:=encItem) (s:=5) len_item (a.map f') (f' x) (r.map f') (o:=0) (n:=5) (by omega)
  simp only [Nat.add_zero,sub_all (len_item _),List.length_map] at hr hr'
  generalize cat encItem (a.map f++f x::r.map f) = XC at *
  generalize cat encItem (a.map f'++f' x::r.map f') = YC at *
  generalize sl 5 encItem (some (a.map f++f x::r.map f)) = XS at *
  generalize sl 5 encItem (some (a.map f'++f' x::r.map f')) = YS at *
  clear e1 e2 hL hL'
  generalize f x = X at *
  generalize f' x = Y at *
  obtain ⟨xk,xg,xn,xc,xb⟩:=X
  obtain ⟨yk,yg,yn,yc,yb⟩:=Y
  obtain ⟨q1,q2,q3,q4,q5⟩:=hq
  simp only at q1 q2 q3 q4 q5
  subst q1 q2 q3 q4
  simp only [encItem] at hr hr'
  have hwi:IntKind.i64.wrap ((a.length:Int) + 1) = ((a.length:Int) + 1):=step_wrap (by omega)
  have n0:¬ 0 = hh.next:=by omega
  have n1:¬ 1 = hh.next:=by omega
  have z0:¬ hh.next = 0:=by omega
  have z1:¬ hh.next = 1:=by omega
  have c1:=bconv xb
  have c2:=bconv yb
  rw [q5] at c1
  first | (refine hide ?_;intro Q6 hQ6) | have hQ6:=True.intro
  repeat' (first
   | (replace hQ6:=hQ6;simp [f0,f1,hi,hr,hi',hr',hLx,hLx',hlt,hlt2,n0,n1,z0,z1,c1,c2,strOp,hwi,outV,frzV,frzS,frzS_pure,frzP,pureS,pureL,K_own,hown])
   | (refine hQ6 _ _ _ ?_;clear hQ6 Q6;first | simp only [] | simp [f0,f1,hi,hr,hi',hr',hLx,hLx',hlt,hlt2,n0,n1,z0,z1,c1,c2,strOp,hwi,outV,frzV,frzS,frzS_pure,frzP,pureS,pureL,K_own,hown] | skip)
   | (refine hadQ (by assumption) ?_;(try clear hQ6);first | simp only [] | simp [f0,f1,hi,hr,hi',hr',hLx,hLx',hlt,hlt2,n0,n1,z0,z1,c1,c2,strOp,hwi,outV,frzV,frzS,frzS_pure,frzP,pureS,pureL,K_own,hown] | skip)
   | ((fail_if_success replace hQ6:=hQ6);(first | refine hide ?_ | refine hideS ?_ | refine hideB ?_);intro Q6 hQ6)
   | refine dF (id:=6) [0,1,2,3,4,5,6,7,8,9,10,11,12,13] [(6,12),(9,12)] ?_
   | (first | apply cF | apply wN | apply wS) <;> intro hcnd <;> (try simp only [hcnd]) <;> (try simp [-List.isEmpty_iff,-List.isEmpty_eq_false_iff] at hcnd))
  all_goals first | omega | (rw [hI];refine ⟨by simp [f0,n0,z0],by simp [f1,n1,z0,z1],by simp <;> omega,by rw [List.length_append];exact ex_get' (by simp)⟩) | trace_state
 ·intro fr hh hx
  rw [hI] at hx
  obtain ⟨f0,f1,hn,j,rfl⟩:=hx
  first | (refine hide ?_;intro Q7 hQ7) | have hQ7:=True.intro
  repeat' (first
   | (replace hQ7:=hQ7;simp [f0,f1,hL,outV,frzV,frzS,frzS_pure,frzP,pureS,pureL,K_own,hown])
   | (refine hQ7 _ _ _ ?_;clear hQ7 Q7;first | simp only [] | simp [f0,f1,hL,outV,frzV,frzS,frzS_pure,frzP,pureS,pureL,K_own,hown] | skip)
   | (refine hadQ (by assumption) ?_;(try clear hQ7);first | simp only [] | simp [f0,f1,hL,outV,frzV,frzS,frzS_pure,frzP,pureS,pureL,K_own,hown] | skip)
   | ((fail_if_success replace hQ7:=hQ7);(first | refine hide ?_ | refine hideS ?_ | refine hideB ?_);intro Q7 hQ7)
   | refine dF (id:=6) [0,1,2,3,4,5,6,7,8,9,10,11,12,13] [(6,12),(9,12)] ?_
   | (first | apply cF | apply wN | apply wS) <;> intro hcnd <;> (try simp only [hcnd]) <;> (try simp [-List.isEmpty_iff,-List.isEmpty_eq_false_iff] at hcnd))
  all_goals trace_state
end Go.Proofs.YtofafocfemikcaaGreat
