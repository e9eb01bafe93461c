/- A part of a proof over the abstract machine. No conditions. -/
import Derived.Test.YtofafocfemikcaaGreatSH2
set_option linter.unusedSimpArgs false
set_option linter.unnecessarySimpa false
set_option linter.unusedVariables false
namespace Go.Proofs.YtofafocfemikcaaGreat
open Go Go.Ab Wm NumPlain
set_option maxRecDepth 10000
set_option maxHeartbeats 4000000
theorem ssmall_c (n:Int) (h:H):W K 27 [.one (ii n)] h = some (.ret (.one (.bool (ShellPlain.small n))) h):=by
 unfold ShellPlain.small
 have hown:memL S.own 27 = false:=by kernel_rfl
 refine W_pure hp (by simp [pureV,outV,frzV,frzS,frzS_pure,frzP,pureS,pureL,K_own,hown]) (apart_does rfl rfl (by kernel_rfl) Tryz.func27 rfl (by simp [Tryz.f27]) ?_)
 simp only [Tryz.f27]
 refine hide ?_;intro Q1 hQ1
 repeat' (first
  | (replace hQ1:=hQ1;simp [outV,frzV,frzS,frzS_pure,frzP,pureS,pureL,K_own,hown])
  | (refine hQ1 _ _ _ ?_;clear hQ1 Q1;first | simp only [] | simp [outV,frzV,frzS,frzS_pure,frzP,pureS,pureL,K_own,hown])
  | (first | apply cF | apply wN | apply wS) <;> intro hcnd <;> (try simp only [hcnd]) <;> (try simp [-List.isEmpty_iff,-List.isEmpty_eq_false_iff] at hcnd))
 all_goals first | done | (simp_all [-List.isEmpty_iff,-List.isEmpty_eq_false_iff,← List.isEmpty_iff];done) | (simp_all;done) | (simp_all;omega) | (simp;omega) | (intros;omega) | (intros;simp only [decide_eq_true_eq] at *;omega) | (intros;simp at *;omega) | skip
theorem right_small (g n c:Int) (o:Option (List Wm.Item)) (hl:(ls o).length ≤ 256) (hs:(ShellPlain.small g && ShellPlain.small n && ShellPlain.small c) = false) (h:H):W K 8 [.agg [ii g,ii n,ii c,sl 5 encItem o]] h = some (.ret (.one (ii 1)) h):=by
 have hL:∀ h,lenA (sl 5 encItem o) (some (.slice 62)) h = some (one (ii (ls o).length) h):=fun h=>lenA_sl _ _ _ _ _
 have hd:decide ((256:Int) < (ls o).length) = false:=by simp;omega
 have hd2:¬ (256:Int) < (ls o).length:=by omega
 have hd3:¬ 256 < (ls o).length:=by omega
 have h1:=ssmall_c g
 have h2:=ssmall_c n
 have h3:=ssmall_c c
 generalize ShellPlain.small g = s1 at *
 generalize ShellPlain.small n = s2 at *
 generalize ShellPlain.small c = s3 at *
 cases s1
 ·have hown:memL S.own 8 = false:=by kernel_rfl
  refine W_pure hp (by simp [pureV,hL,hd,hd2,hd3,h1,h2,h3,outV,frzV,frzS,frzS_pure,frzP,pureS,pureL,K_own,hown]) (apart_does rfl rfl (by kernel_rfl) Tryz.func8 rfl (by simp [Tryz.f8]) ?_)
  simp only [Tryz.f8]
  refine hide ?_;intro Q3 hQ3
  repeat' (first
   | (replace hQ3:=hQ3;simp [hL,hd,hd2,hd3,h1,h2,h3,outV,frzV,frzS,frzS_pure,frzP,pureS,pureL,K_own,hown])
   | refine hQ3 _ _ _ ?_
   | (first | apply cF | apply wN | apply wS) <;> intro hcnd <;> (try simp only [hcnd]) <;> (try simp [-List.isEmpty_iff,-List.isEmpty_eq_false_iff] at hcnd))
 cases s2
 ·have hown:memL S.own 8 = false:=by kernel_rfl
  refine W_pure hp (by simp [pureV,hL,hd,hd2,hd3,h1,h2,h3,outV,frzV,frzS,frzS_pure,frzP,pureS,pureL,K_own,hown]) (apart_does rfl rfl (by kernel_rfl) Tryz.func8 rfl (by simp [Tryz.f8]) ?_)
  simp only [Tryz.f8]
  refine hide ?_;intro Q4 hQ4
  repeat' (first
   | (replace hQ4:=hQ4;simp [hL,hd,hd2,hd3,h1,h2,h3,outV,frzV,frzS,frzS_pure,frzP,pureS,pureL,K_own,hown])
   | refine hQ4 _ _ _ ?_
   | (first | apply cF | apply wN | apply wS) <;> intro hcnd <;> (try simp only [hcnd]) <;> (try simp [-List.isEmpty_iff,-List.isEmpty_eq_false_iff] at hcnd))
 cases s3
 ·have hown:memL S.own 8 = false:=by kernel_rfl
  refine W_pure hp (by simp [pureV,hL,hd,hd2,hd3,h1,h2,h3,outV,frzV,frzS,frzS_pure,frzP,pureS,pureL,K_own,hown]) (apart_does rfl rfl (by kernel_rfl) Tryz.func8 rfl (by simp [Tryz.f8]) ?_)
  simp only [Tryz.f8]
  refine hide ?_;intro Q5 hQ5
  repeat' (first
   | (replace hQ5:=hQ5;simp [hL,hd,hd2,hd3,h1,h2,h3,outV,frzV,frzS,frzS_pure,frzP,pureS,pureL,K_own,hown])
   | refine hQ5 _ _ _ ?_
   | (first | apply cF | apply wN | apply wS) <;> intro hcnd <;> (try simp only [hcnd]) <;> (try simp [-List.isEmpty_iff,-List.isEmpty_eq_false_iff] at hcnd))
 ·simp at hs
theorem num_and (n:Int):ShellPlain.num n = (decide (0 ≤ n) && decide (n ≤ 65535)):=rfl
theorem right_items (g n c:Int) (o:Option (List Wm.Item)) (hl:(ls o).length ≤ 256) (hs:(ShellPlain.small g && ShellPlain.small n && ShellPlain.small c) = true) (h:H):W K 8 [.agg [ii g,ii n,ii c,sl 5 encItem o]] h = some (.ret (.one (ii (if (ls o).all (fun x=>ShellPlain.okI (itP x)) then 0 else 1))) h):=by
 have hL:∀ h,lenA (sl 5 encItem o) (some (.slice 62)) h = some (one (ii (ls o).length) h):=fun h=>lenA_sl _ _ _ _ _
 have hd:decide ((256:Int) < (ls o).length) = false:=by simp;omega
 have hd2:¬ (256:Int) < (ls o).length:=by omega
 have hd3:¬ 256 < (ls o).length:=by omega
 have h1:=ssmall_c g
 have h2:=ssmall_c n
 have h3:=ssmall_c c
 simp only [Bool.and_eq_true] at hs
 rw [hs.1.1] at h1
 rw [hs.1.2] at h2
 rw [hs.2] at h3
 obtain ⟨R,hR⟩:∃ R:Int,(if (ls o).all (fun x=>ShellPlain.okI (itP x)) then (0:Int) else 1) = R:=⟨_,rfl⟩
 rw [hR]
 have hown:memL S.own 8 = false:=by kernel_rfl
 refine W_pure hp (by simp [pureV,hL,hd,hd2,hd3,h1,h2,h3,outV,frzV,frzS,frzS_pure,frzP,pureS,pureL,K_own,hown]) (apart_does rfl rfl (by kernel_rfl) Tryz.func8 rfl (by simp [Tryz.f8]) ?_)
 simp only [Tryz.f8]
 refine hide ?_;intro Q6 hQ6
 repeat' (first
  | (replace hQ6:=hQ6;simp [hL,hd,hd2,hd3,h1,h2,h3,outV,frzV,frzS,frzS_pure,frzP,pureS,pureL,K_own,hown])
  | refine hQ6 _ _ _ ?_
  | (first | apply cF | apply wN | apply wS) <;> intro hcnd <;> (try simp only [hcnd]) <;> (try simp [-List.isEmpty_iff,-List.isEmpty_eq_false_iff] at hcnd))
 obtain ⟨I,hI⟩:∃ I:List Wm.Item→List Wm.Item→Fr→H→Prop,I = fun a r fr hh=>hh.f 0 = some ⟨0,[4],true,[ii g,ii n,ii c,sl 5 encItem o]⟩∧1 ≤ hh.next∧(∀ y ∈ a,ShellPlain.okI (itP y) = true)∧∃ j:Nat→AV,fr = (j 0::(.one (.ptr 0 0 0))::j 2::(.one (ii a.length))::j 4::j 5::j 6::j 7::j 8::j 9::j 10::j 11::j 12::j 13::j 14::j 15::j 16::j 17::j 18::j 19::j 20::j 21::j 22::j 23::j 24::j 25::j 26::j 27::j 28::j 29::j 30::j 31::j 32::j 33::j 34::j 35::j 36::j 37::j 38::j 39::j 40::j 41::j 42::j 43::j 44::j 45::j 46::j 47::j 48::j 49::j 50::j 51::j 52::j 53::j 54::j 55::j 56::j 57::j 58::j 59::j 60::j 61::j 62::j 63::j 64::j 65::j 66::j 67::j 68::j 69::j 70::j 71::j 72::j 73::j 74::j 75::j 76::j 77::j 78::j 79::j 80::j 81::j 82::j 83::j 84::j 85::j 86::j 87::j 88::j 89::j 90::j 91::j 92::j 93::j 94::j 95::j 96::j 97::j 98::[]):=⟨_,rfl⟩
 refine does_each hp (ls o) I ?_ ?_ _ _ (by rw [hI];exact ⟨by simp,by simp,by simp,ex_get' (by simp)⟩)
 ·intro a x r fr hh hll hx
  rw [hI] at hx
  obtain ⟨h0,hn,hall,j,rfl⟩:=hx
  have hal:a.length ≤ 256:=by rw [hll] at hl;simp at hl;omega
  have hlt:decide ((a.length:Int) < (ls o).length) = true:=by rw [hll];simp;omega
  have hlt2:(a.length:Int) < (ls o).length:=by rw [hll];simp;omega
  have hz:¬ 0 = hh.next:=by omega
  have hmem:x ∈ ls o:=by rw [hll];simp
  obtain rfl:=ls_cons hll
  have hwi:IntKind.i64.wrap ((a.length:Int) + 1) = ((a.length:Int) + 1):=step_wrap (by omega)
  have hi:=index_sl (P:=Tryz.prog) (enc:=encItem) (s:=5) (l:=a++x::r) (i:=a.length) Tryz.underlying25 (by simp) (by omega) (by simp)
  have hr:=sub_flat (enc:=encItem) (s:=5) len_item a x r (o:=0) (n:=5) (by omega)
  simp only [Nat.add_zero,sub_all (len_item _)] at hr
  have hbad:ShellPlain.okI (itP x) = false→R = 1:=by
   intro hx;rw [← hR];simp [hx]
  clear hR
  have hok2:ShellPlain.okI (itP x) = true→∀ y ∈ a++[x],ShellPlain.okI (itP y) = true:=by
   intro hx y hy
   rcases List.mem_append.1 hy with hy | hy
   ·exact hall y hy
   ·rw [List.mem_singleton.1 hy];exact hx
  obtain ⟨x_kind,x_group,x_n,x_client,x_bytes⟩:=x
  simp only [encItem] at hr
  have s1:=ssmall_c x_group
  have s2:=ssmall_c x_client
  have hLb:∀ h,lenA (bs x_bytes) (some (.slice 5)) h = some (one (ii (ls x_bytes).length) h):=fun h=>lenA_bs _ _ _
  obtain ⟨OK,hOK⟩:∃ OK:Bool,ShellPlain.okI (itP ⟨x_kind,x_group,x_n,x_client,x_bytes⟩) = OK:=⟨_,rfl⟩
  rw [hOK] at hbad hok2
  unfold ShellPlain.okI itP at hOK
  simp only [num_and] at hOK
  generalize ShellPlain.small x_group = S1 at *
  generalize ShellPlain.small x_client = S2 at *
  have hi':=hi
  have hr':=hr
  generalize hXS:sl 5 encItem (some (a++⟨x_kind,x_group,x_n,x_client,x_bytes⟩::r)) = XS at *
  generalize hXC:cat encItem (a++⟨x_kind,x_group,x_n,x_client,x_bytes⟩::r) = XC at *
  rcases kinds x_kind with rfl | rfl | rfl | rfl | rfl | rfl | rfl | rfl | hk
  rotate_right
  ·have n1:¬ x_kind = 1:=by omega
   have n2:¬ x_kind = 2:=by omega
   have n3:¬ x_kind = 3:=by omega
   have n4:¬ x_kind = 4:=by omega
   have n5:¬ x_kind = 5:=by omega
   have n6:¬ x_kind = 6:=by omega
   have n7:¬ x_kind = 7:=by omega
   have n8:¬ x_kind = 8:=by omega
   simp [n1,n2,n3,n4,n5,n6,n7,n8] at hOK
   subst hOK
   first | (refine hide ?_;intro Q7 hQ7) | have hQ7:=True.intro
   repeat' (first
    | (replace hQ7:=hQ7;simp [h0,hL,hlt,hlt2,hz,hi,hr,s1,s2,hLb,n1,n2,n3,n4,n5,n6,n7,n8,hbad,outV,frzV,frzS,frzS_pure,frzP,pureS,pureL,K_own,hown])
    | (refine hQ7 _ _ _ ?_;clear hQ7 Q7;first | simp only [] | simp [h0,hL,hlt,hlt2,hz,hi,hr,s1,s2,hLb,n1,n2,n3,n4,n5,n6,n7,n8,hbad,outV,frzV,frzS,frzS_pure,frzP,pureS,pureL,K_own,hown] | skip)
    | (refine hadQ (by assumption) ?_;(try clear hQ7);first | simp only [] | simp [h0,hL,hlt,hlt2,hz,hi,hr,s1,s2,hLb,n1,n2,n3,n4,n5,n6,n7,n8,hbad,outV,frzV,frzS,frzS_pure,frzP,pureS,pureL,K_own,hown] | skip)
    | ((fail_if_success replace hQ7:=hQ7);(first | refine hide ?_ | refine hideS ?_ | refine hideB ?_);intro Q7 hQ7)
    | (first | apply cF | apply wN | apply wS) <;> intro hcnd <;> (try simp only [hcnd]) <;> (try simp [-List.isEmpty_iff,-List.isEmpty_eq_false_iff] at hcnd))
   all_goals omega
  all_goals
   simp at hOK
   first | (refine hide ?_;intro Q8 hQ8) | have hQ8:=True.intro
   repeat' (first
    | (replace hQ8:=hQ8;simp [h0,hL,hlt,hlt2,hz,hi,hr,hwi,s1,s2,hLb,outV,frzV,frzS,frzS_pure,frzP,pureS,pureL,K_own,hown])
    | (refine hQ8 _ _ _ ?_;clear hQ8 Q8;first | simp only [] | simp [h0,hL,hlt,hlt2,hz,hi,hr,hwi,s1,s2,hLb,outV,frzV,frzS,frzS_pure,frzP,pureS,pureL,K_own,hown] | skip)
    | (refine hadQ (by assumption) ?_;(try clear hQ8);first | simp only [] | simp [h0,hL,hlt,hlt2,hz,hi,hr,hwi,s1,s2,hLb,outV,frzV,frzS,frzS_pure,frzP,pureS,pureL,K_own,hown] | skip)
    | ((fail_if_success replace hQ8:=hQ8);(first | refine hide ?_ | refine hideS ?_ | refine hideB ?_);intro Q8 hQ8)
    | (first | apply cF | apply wN | apply wS) <;> intro hcnd <;> (try simp only [hcnd]) <;> (try simp [-List.isEmpty_iff,-List.isEmpty_eq_false_iff] at hcnd))
   all_goals first
    | omega
    | (subst_vars;exact (hbad (by first | (simp;done) | (simp;omega))).symm)
    | (subst_vars;refine ⟨by simp [h0,hz],by simp only [new_next];omega,hok2 (by first | (simp;done) | (simp;omega)), ?_⟩;rw [List.length_append];exact ex_get' (by simp [hwi]))
    | trace_state
 ·intro fr hh hx
  rw [hI] at hx
  obtain ⟨h0,hn,hall,j,rfl⟩:=hx
  have e:R = 0:=by
   rw [← hR,if_pos];rw [List.all_eq_true];exact hall
  have hlo:((ls o).length:Int) < 9223372036854775808:=by omega
  first | (refine hide ?_;intro Q9 hQ9) | have hQ9:=True.intro
  repeat' (first
   | (replace hQ9:=hQ9;simp [h0,hL,e,outV,frzV,frzS,frzS_pure,frzP,pureS,pureL,K_own,hown])
   | (refine hQ9 _ _ _ ?_;clear hQ9 Q9;first | simp only [] | simp [h0,hL,e,outV,frzV,frzS,frzS_pure,frzP,pureS,pureL,K_own,hown] | skip)
   | (refine hadQ (by assumption) ?_;(try clear hQ9);first | simp only [] | simp [h0,hL,e,outV,frzV,frzS,frzS_pure,frzP,pureS,pureL,K_own,hown] | skip)
   | ((fail_if_success replace hQ9:=hQ9);(first | refine hide ?_ | refine hideS ?_ | refine hideB ?_);intro Q9 hQ9)
   | (first | apply cF | apply wN | apply wS) <;> intro hcnd <;> (try simp only [hcnd]) <;> (try simp [-List.isEmpty_iff,-List.isEmpty_eq_false_iff] at hcnd))
  all_goals trace_state
end Go.Proofs.YtofafocfemikcaaGreat
