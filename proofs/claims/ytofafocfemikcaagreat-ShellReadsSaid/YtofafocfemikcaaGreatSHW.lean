/- A part of a proof over the abstract machine. No conditions. -/
import Derived.Test.YtofafocfemikcaaGreatSH3
import Derived.Test.YtofafocfemikcaaGreatSH5
import Derived.Test.YtofafocfemikcaaGreatAb5
set_option linter.unusedSimpArgs false
set_option linter.unnecessarySimpa false
set_option linter.unusedVariables false
namespace Go.Proofs.YtofafocfemikcaaGreat
open Go Go.Ab Wm NumPlain
set_option maxRecDepth 10000
set_option maxHeartbeats 4000000
theorem call_two (n:Int) {h:H} {s:AS} {l:BL} {kept:List (Nat × Blk)} (w:OS h s l kept) (hl:l.length + 2 ≤ 1099511627776)
  {Q:AV→H→Prop} {Kp:AS→H→Prop} (hq:∀ s' h',h.next ≤ h'.next→OS h' s' (l++[u8 (n / 256),u8 n]) kept→keptP h' kept→Q (.one s') h'):onR ((W K 28 [.one s,.one (ii n)] h).bind crO) Q Kp:=by
 have hs:=shr8 n
 obtain ⟨s1,h1,e1,os1,n1⟩:=app8 (a:=.slc h.next 0 0 2 1 none) (x:=[u8 (n / 256),u8 n]) (w.new ⟨0,[2],true,[byteS (u8 (n / 256)),byteS (u8 n)]⟩) rfl (elems_slc (n:=2) (fx:=true) (by simp) rfl) (by simp;omega)
 have e:W K 28 [.one s,.one (ii n)] h = some (.ret (.one s1) h1):=by
  refine W_does hp rfl rfl rfl Tryz.func28 rfl (by simp [Tryz.f28]) ?_
  simp only [Tryz.f28]
  refine hide ?_;intro Q1 hQ1
  repeat' (first
   | (replace hQ1:=hQ1;simp [hs,convA,wrapB,e1])
   | refine hQ1 _ _ _ ?_)
 rw [e]
 simp only [oqS,crO_ret,onR_ok]
 exact hq s1 h1 (by simp at n1;omega) (os_tail os1) (os_tail os1).kp
theorem os_keep {h:H} {s:AS} {l l':BL} {kept kept':List (Nat × Blk)} (w:OS h s l kept) (e:l = l') (hs:∀ x ∈ kept',x ∈ kept):OS h s l' kept':=by
 have key:∀ {l m:List (Nat × Blk)},keptP h l→(∀ x ∈ m,x ∈ l)→keptP h m:=by
  intro l m hl
  have hm:∀ x ∈ l,h.f x.1 = some x.2:=by
   intro x hx
   induction l with
   | nil=>cases hx
   | cons a l ih =>
    rcases List.mem_cons.1 hx with rfl | hx
    ·exact hl.1
    ·exact ih hl.2 hx
  induction m with
  | nil=>exact fun _=>trivial
  | cons a m ih=>exact fun hs=>⟨hm _ (hs _ (by simp)),ih fun x hx=>hs x (by simp [hx])⟩
 exact ⟨e ▸ w.byt,key w.kp hs,fun x hx=>w.ok x (hs x hx)⟩
theorem os_ap {h:H} {s:AS} {l:BL} {kept:List (Nat × Blk)} (w:OS h s l kept):apart1 h.next kept:=apart1_of fun e he=>by have:=(w.ok e he).1;omega
theorem own_of {f:Nat} {args:List AV} {y:BL} (hown:K.own f = true) (hp0:args.all pureV = true) (ha:Apart K f args fun v h1=>∃ s,v = .one s∧Byt h1 s y) (h:H):∃ x,W K f args h = some (.ret (.one (.slc h.next 0 0 y.length 1 none)) (h.new (blkOf (y.map byteS) x))):=by
 have hv:viewA h args = some args:=by unfold viewA;rw [if_pos hp0]
 have:=W_apartQ hp (Q:=fun r=>∃ x,r = .ret (.one (.slc h.next 0 0 y.length 1 none)) (h.new (blkOf (y.map byteS) x))) hv (ha.mono fun v h1 hx=>?_)
 ·obtain ⟨r,e,x,rfl⟩:=this;exact ⟨x,e⟩
 ·obtain ⟨s,rfl,b⟩:=hx
  rw [hown]
  obtain ⟨x,e⟩:=bytes_out (st:=!args.all pureV) b h
  exact ⟨_,e,x,rfl⟩
theorem written_c (g n c:Int) (o:Option (List Wm.Item)) (hl:(ls o).length ≤ 256) (hall:∀ x ∈ ls o,ShellPlain.okI (itP x) = true) (h:H) :
  ∃ x,W K 9 [.agg [ii g,ii n,ii c,sl 5 encItem o]] h = some (.ret (.one (.slc h.next 0 0 (ShellPlain.scB (scP g n c o)).length 1 none)) (h.new (blkOf ((ShellPlain.scB (scP g n c o)).map byteS) x))):=by
 rw [scB_eq]
 have hL:∀ h,lenA (sl 5 encItem o) (some (.slice 62)) h = some (one (ii (ls o).length) h):=fun h=>lenA_sl _ _ _ _ _
 have hown:memL S.own 9 = true:=by kernel_rfl
 refine own_of (by rw [K_own];exact hown) (by simp [pureV,pureS,pureL]) (apart_does rfl rfl (by kernel_rfl) Tryz.func9 rfl (by simp [Tryz.f9]) ?_) h
 have hk:=True.intro
 simp only [Tryz.f9]
 first | (refine hide ?_;intro Q2 hQ2) | have hQ2:=True.intro
 repeat' (first
  | (replace hQ2:=hQ2;simp [hL,convA,wrapB,hk])
  | (refine hQ2 _ _ _ ?_;clear hQ2 Q2;first | simp only [] | simp [hL,convA,wrapB,hk] | skip)
  | (refine hadQ (by assumption) ?_;(try clear hQ2);first | simp only [] | simp [hL,convA,wrapB,hk] | skip)
  | ((fail_if_success replace hQ2:=hQ2);(first | refine hide ?_ | refine hideS ?_ | refine hideB ?_);intro Q2 hQ2)
  | (first | refine dF (id:=9) [0,1,2,3,4,5,6,7,8,9,10,11,12] [(8,10)] ?_ | refine dF (id:=15) [0,1,2,3,4,5,6,7,8,9] [(5,7)] ?_ | refine dF (id:=17) [0,1,2,3,4,5,6,7,8,9,10,11,12,13] [(5,7),(5,11),(9,11)] ?_ | refine dF (id:=19) [0,1,2,3,4,5,6,7,8] [(4,6)] ?_)
  | (first | apply cF | apply wN | apply wS) <;> intro hcnd <;> (try simp only [hcnd]) <;> (try simp [-List.isEmpty_iff,-List.isEmpty_eq_false_iff] at hcnd))
 obtain ⟨pre,hpre⟩:∃ pre:BL,[u8 g,u8 n,u8 c] = pre:=⟨_,rfl⟩
 have hprel:pre.length = 3:=by rw [← hpre];rfl
 obtain ⟨SB,hSB⟩:∃ SB:Blk,SB = ⟨0,[4],true,[ii g,ii n,ii c,sl 5 encItem o]⟩:=⟨_,rfl⟩
 obtain ⟨I,hI⟩:∃ I:List Wm.Item→List Wm.Item→Fr→H→Prop,I = fun a r fr hh=>∃ s,OS hh s (pre++a.flatMap itBs) [(0,SB)]∧∃ j:Nat→AV,fr = (j 0::(.one (.ptr 0 0 0))::j 2::(.one s)::(.one (ii a.length))::j 5::j 6::j 7::j 8::j 9::j 10::j 11::j 12::j 13::j 14::j 15::j 16::j 17::j 18::j 19::j 20::j 21::j 22::j 23::j 24::j 25::j 26::j 27::j 28::j 29::j 30::j 31::j 32::j 33::j 34::j 35::j 36::j 37::j 38::j 39::j 40::j 41::j 42::j 43::j 44::j 45::j 46::j 47::j 48::j 49::j 50::j 51::j 52::j 53::j 54::j 55::j 56::j 57::j 58::j 59::j 60::j 61::j 62::j 63::j 64::j 65::j 66::j 67::j 68::j 69::j 70::j 71::j 72::j 73::j 74::j 75::j 76::j 77::j 78::j 79::j 80::j 81::j 82::j 83::j 84::j 85::j 86::j 87::j 88::j 89::j 90::j 91::j 92::j 93::j 94::j 95::j 96::j 97::[]):=⟨_,rfl⟩
 refine does_each hp (ls o) I ?_ ?_ _ _ ?_
 rotate_left 2
 ·rw [hI,← hpre]
  refine ⟨_,OS.made _ [u8 g,u8 n,u8 c] true [(0,SB)] ⟨by simp [hSB],trivial⟩ (by simp),ex_get' (by simp)⟩
 ·intro a x r fr hh hll hx
  rw [hI] at hx
  obtain ⟨s,os,j,rfl⟩:=hx
  have hxo:=hall x (by rw [hll];simp)
  have hlen:(a.flatMap itBs).length ≤ a.length * 65550:=flat_len fun y hy=>itB_len (hall y (by rw [hll];simp [hy]))
  have hal:a.length ≤ 256:=by rw [hll] at hl;simp at hl;omega
  have hlt:decide ((a.length:Int) < (ls o).length) = true:=by rw [hll];simp;omega
  have hlt2:(a.length:Int) < (ls o).length:=by rw [hll];simp;omega
  have hn0:=(os.ok (0,SB) (by simp)).1
  simp only at hn0
  have n0:¬ 0 = hh.next:=by omega
  generalize ((ls o).length:Int) = LO at *
  obtain rfl:=ls_cons hll
  have k18:1 ≤ x.kind∧x.kind ≤ 8:=ShellPlain.ok_kind hxo
  obtain ⟨k1,k8⟩:=k18
  have hbl:asB x.kind = true→(ls x.bytes).length ≤ 65535:=by
   intro hB
   rw [okI_as,hB] at hxo
   simp [inB] at hxo
   omega
  obtain ⟨P,hP⟩:∃ P:BL,pre++a.flatMap itBs = P:=⟨_,rfl⟩
  have hPl:P.length ≤ 20000000:=by rw [← hP];simp only [List.length_append];omega
  rw [hP] at os
  have hk:=os.kp
  simp only [keptP,and_true,hSB] at hk
  obtain ⟨x_kind,x_group,x_n,x_client,x_bytes⟩:=x
  simp only at hbl k1 k8
  have hLb:∀ h,lenA (bs x_bytes) (some (.slice 5)) h = some (one (ii (ls x_bytes).length) h):=fun h=>lenA_bs _ _ _
  have hi:=index_sl (P:=Tryz.prog) (enc:=encItem) (s:=5) (l:=a++⟨x_kind,x_group,x_n,x_client,x_bytes⟩::r) (i:=a.length) Tryz.underlying25 (by simp) (by omega) (by simp)
  have hr:=sub_flat (enc:=encItem) (s:=5) len_item a ⟨x_kind,x_group,x_n,x_client,x_bytes⟩ r (o:=0) (n:=5) (by omega)
  simp only [Nat.add_zero,sub_all (len_item _)] at hr
  simp only [encItem] at hr
  have hwi:IntKind.i64.wrap ((a.length:Int) + 1) = ((a.length:Int) + 1):=step_wrap (by omega)
  rcases kinds x_kind with rfl | rfl | rfl | rfl | rfl | rfl | rfl | rfl | hk9
  rotate_right
  ·omega
  all_goals
   simp [asB] at hbl
   first | (refine hide ?_;intro Q3 hQ3) | have hQ3:=True.intro
   repeat' (first
    | (replace hQ3:=hQ3;simp [hL,n0,hi,hr,hwi,hlt,hlt2,hLb,convA,wrapB,hk])
    | (refine hQ3 _ _ _ ?_;clear hQ3 Q3;first | simp only [] | simp [hL,n0,hi,hr,hwi,hlt,hlt2,hLb,convA,wrapB,hk] | skip)
    | (refine hadQ (by assumption) ?_;(try clear hQ3);first | simp only [] | simp [hL,n0,hi,hr,hwi,hlt,hlt2,hLb,convA,wrapB,hk] | skip)
    | ((fail_if_success replace hQ3:=hQ3);(first | refine hide ?_ | refine hideS ?_ | refine hideB ?_);intro Q3 hQ3)
    | ((with_reducible refine call_id ?_);first
     | (refine call_two _ (by assumption) (by first | assumption | omega | (simp only [List.length_append,List.length_cons,List.length_nil,be_length,textB,encSpn,num4,num8];omega) | (simp only [List.length_append,List.length_cons,List.length_nil,be_length,textB] at *;omega) | (simp at *;omega)) (fun s' h' hn' os hk'=>?_);replace hk':=And.intro hk' (os_ap os);(try simp only [keptP,apart1,and_true] at hk');have hk:=And.intro hk' hk;clear hk';(try simp [hL,n0,hi,hr,hwi,hlt,hlt2,hLb,convA,wrapB,hk])))
    | ((with_reducible refine ap1g ?_);refine call_ap1 Tryz.underlying31 (by simp) (by simp) Tryz.bytes5 (by first | assumption | exact OS.new (by assumption) _) (by first | rfl | simp) (by first | assumption | omega | (simp only [List.length_append,List.length_cons,List.length_nil,be_length,textB,encSpn,num4,num8];omega) | (simp only [List.length_append,List.length_cons,List.length_nil,be_length,textB] at *;omega) | (simp at *;omega)) (fun s' h' hn' os hk'=>?_);replace hk':=And.intro hk' (os_ap os);(try simp only [keptP,apart1,and_true] at hk');have hk:=And.intro hk' hk;clear hk';(try simp [hL,n0,hi,hr,hwi,hlt,hlt2,hLb,convA,wrapB,hk]))
    | ((with_reducible refine ap2g ?_);refine call_ap2 Tryz.underlying31 (by simp) (by simp) Tryz.bytes5 (by first | assumption | exact OS.new (by assumption) _) (by first | rfl | simp) (by first | assumption | omega | (simp only [List.length_append,List.length_cons,List.length_nil,be_length,textB,encSpn,num4,num8];omega) | (simp only [List.length_append,List.length_cons,List.length_nil,be_length,textB] at *;omega) | (simp at *;omega)) (fun s' h' hn' os hk'=>?_);replace hk':=And.intro hk' (os_ap os);(try simp only [keptP,apart1,and_true] at hk');have hk:=And.intro hk' hk;clear hk';(try simp [hL,n0,hi,hr,hwi,hlt,hlt2,hLb,convA,wrapB,hk]))
    | ((with_reducible refine app_bs ?_);refine call_app Tryz.underlying31 (by simp) (by simp) Tryz.bytes5 (a:=bs x_bytes) (x:=ls x_bytes) (by assumption) (lenS_bs _) (elems_bs _ _) (by first | assumption | omega | (simp only [List.length_append,List.length_cons,List.length_nil,be_length,textB,encSpn,num4,num8];omega) | (simp only [List.length_append,List.length_cons,List.length_nil,be_length,textB] at *;omega) | (simp at *;omega)) (fun s' h' hn' os hk'=>?_);replace hk':=And.intro hk' (os_ap os);(try simp only [keptP,apart1,and_true] at hk');have hk:=And.intro hk' hk;clear hk';(try simp [hL,n0,hi,hr,hwi,hlt,hlt2,hLb,convA,wrapB,hk]))
    | (first | refine dF (id:=9) [0,1,2,3,4,5,6,7,8,9,10,11,12] [(8,10)] ?_ | refine dF (id:=15) [0,1,2,3,4,5,6,7,8,9] [(5,7)] ?_ | refine dF (id:=17) [0,1,2,3,4,5,6,7,8,9,10,11,12,13] [(5,7),(5,11),(9,11)] ?_ | refine dF (id:=19) [0,1,2,3,4,5,6,7,8] [(4,6)] ?_)
    | (first | apply cF | apply wN | apply wS) <;> intro hcnd <;> (try simp only [hcnd]) <;> (try simp [-List.isEmpty_iff,-List.isEmpty_eq_false_iff] at hcnd))
   all_goals first | omega | (rw [hI];refine ⟨_,os_keep os (by rw [List.flatMap_append,← List.append_assoc,hP];simp [itBs,itP,ShellPlain.itB,ShellPlain.two,by1_u8]) (by simp), ?_⟩;rw [List.length_append];exact ex_get' (by simp)) | trace_state
 ·intro fr hh hx
  rw [hI] at hx
  obtain ⟨s,os,j,rfl⟩:=hx
  have hk:=os.kp
  simp only [keptP,and_true,hSB] at hk
  first | (refine hide ?_;intro Q4 hQ4) | have hQ4:=True.intro
  repeat' (first
   | (replace hQ4:=hQ4;simp [hL,hk])
   | (refine hQ4 _ _ _ ?_;clear hQ4 Q4;first | simp only [] | simp [hL,hk] | skip)
   | (refine hadQ (by assumption) ?_;(try clear hQ4);first | simp only [] | simp [hL,hk] | skip)
   | ((fail_if_success replace hQ4:=hQ4);(first | refine hide ?_ | refine hideS ?_ | refine hideB ?_);intro Q4 hQ4)
   | (first | refine dF (id:=9) [0,1,2,3,4,5,6,7,8,9,10,11,12] [(8,10)] ?_ | refine dF (id:=15) [0,1,2,3,4,5,6,7,8,9] [(5,7)] ?_ | refine dF (id:=17) [0,1,2,3,4,5,6,7,8,9,10,11,12,13] [(5,7),(5,11),(9,11)] ?_ | refine dF (id:=19) [0,1,2,3,4,5,6,7,8] [(4,6)] ?_)
   | (first | apply cF | apply wN | apply wS) <;> intro hcnd <;> (try simp only [hcnd]) <;> (try simp [-List.isEmpty_iff,-List.isEmpty_eq_false_iff] at hcnd))
  all_goals first | omega | (subst hpre;exact os.byt) | trace_state
end Go.Proofs.YtofafocfemikcaaGreat
