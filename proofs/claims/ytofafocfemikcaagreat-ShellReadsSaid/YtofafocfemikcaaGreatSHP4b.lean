/- A part of a proof over the abstract machine. No conditions. -/
import Derived.Test.YtofafocfemikcaaGreatSHP4
import Derived.Test.YtofafocfemikcaaGreatShellRead
set_option linter.unusedSimpArgs false
set_option linter.unnecessarySimpa false
set_option linter.unusedVariables false
namespace Go.Proofs.YtofafocfemikcaaGreat
open Go Go.Ab Wm NumPlain
set_option maxRecDepth 10000
set_option maxHeartbeats 4000000
abbrev rdT (o:Option BL):Blk:=⟨0,[2],true,[bs o,.bool o.isNone]⟩
def stB:Option BL→Option BL
 | some (_::r)=>some r
 | _=>none
def stP:Option BL→Option BL
 | some (_::_::r)=>some r
 | _=>none
def stS:Option BL→Option BL
 | some (a::b::r)=>if a.toNat * 256 + b.toNat ≤ r.length then some (r.drop (a.toNat * 256 + b.toNat)) else none
 | _=>none
theorem byte_any (o:Option BL) (h:H) (hn:1 < h.next) (hf:h.f 1 = some (rdT o)):∃ a h',W K 47 [.one (.ptr 1 0 0)] h = some (.ret (.one (byteS a)) h')∧h'.f 1 = some (rdT (stB o))∧Fr1 1 h h'∧(∀ b r,o = some (b::r)→a = b):=by
 rcases o with _ | _ | ⟨a,r⟩
 ·obtain ⟨h',e,w,f⟩:=byte_not none true (.inl rfl) h hn hf
  exact ⟨0,h',e,w,f,fun b r he=>by cases he⟩
 ·obtain ⟨h',e,w,f⟩:=byte_not (some []) false (.inr rfl) h hn hf
  exact ⟨0,h',e,w,f,fun b r he=>by cases he⟩
 ·obtain ⟨h',e,w,f⟩:=byte_yes a r h hn hf
  exact ⟨a,h',e,w,f,fun b r he=>by cases he;rfl⟩
theorem pair_any (o:Option BL) (h:H) (hn:1 < h.next) (hf:h.f 1 = some (rdT o)):∃ v h',W K 48 [.one (.ptr 1 0 0)] h = some (.ret (.one (ii v)) h')∧h'.f 1 = some (rdT (stP o))∧Fr1 1 h h'∧(∀ a b r,o = some (a::b::r)→v = ShellPlain.int2 a b):=by
 rcases o with _ | _ | ⟨a,_ | ⟨b,r⟩⟩
 ·obtain ⟨v,h',e,w,f⟩:=pair_no (h:=h) (p:=1) (o:=none) (bad:=true) (.inl rfl) hn hf
  exact ⟨v,h',e,w,f,fun _ _ _ he=>by cases he⟩
 ·obtain ⟨v,h',e,w,f⟩:=pair_no (h:=h) (p:=1) (o:=some []) (bad:=false) (.inr (by simp)) hn hf
  exact ⟨v,h',e,w,f,fun _ _ _ he=>by cases he⟩
 ·obtain ⟨v,h',e,w,f⟩:=pair_no (h:=h) (p:=1) (o:=some [a]) (bad:=false) (.inr (by simp)) hn hf
  exact ⟨v,h',e,w,f,fun _ _ _ he=>by cases he⟩
 ·obtain ⟨h',e,w,f⟩:=pair_ok (h:=h) (p:=1) a b r hn hf
  exact ⟨_,h',e,w,f,fun _ _ _ he=>by cases he;rfl⟩
theorem some_any (o:Option BL) (h:H) (hn:1 < h.next) (hf:h.f 1 = some (rdT o)):∃ s h',W K 49 [.one (.ptr 1 0 0)] h = some (.ret (.one s) h')∧h'.f 1 = some (rdT (stS o))∧Fr1 1 h h'∧(∀ x,ownB s = some x→h.next ≤ x)∧(∀ a b r,o = some (a::b::r)→a.toNat * 256 + b.toNat ≤ r.length→Byt h' s (r.take (a.toNat * 256 + b.toNat))):=by
 rcases o with _ | _ | ⟨a,_ | ⟨b,r⟩⟩
 ·obtain ⟨h',e,w,f⟩:=dsomeB_no (h:=h) (p:=1) (o:=none) (bad:=true) (.inl rfl) hn hf
  exact ⟨_,h',e,w,f,fun x hx=>by simp [ownB] at hx,fun _ _ _ he=>by cases he⟩
 ·obtain ⟨h',e,w,f⟩:=dsomeB_no (h:=h) (p:=1) (o:=some []) (bad:=false) (.inr (by simp)) hn hf
  exact ⟨_,h',e,w,f,fun x hx=>by simp [ownB] at hx,fun _ _ _ he=>by cases he⟩
 ·obtain ⟨h',e,w,f⟩:=dsomeB_no (h:=h) (p:=1) (o:=some [a]) (bad:=false) (.inr (by simp)) hn hf
  exact ⟨_,h',e,w,f,fun x hx=>by simp [ownB] at hx,fun _ _ _ he=>by cases he⟩
 ·by_cases hm:a.toNat * 256 + b.toNat ≤ r.length
  ·obtain ⟨s,h',e,by',ow,w,f⟩:=dsomeB_ok (h:=h) (p:=1) a b r hm hn hf
   refine ⟨s,h',e, ?_,f,ow,fun _ _ _ he _=>by cases he;exact by'⟩
   rw [stS,if_pos hm];exact w
  ·obtain ⟨h',e,w,f⟩:=dsomeB_few (h:=h) (p:=1) a b r (by omega) hn hf
   refine ⟨_,h',e, ?_,f,fun x hx=>by simp [ownB] at hx,fun _ _ _ he hl=>by cases he;exact absurd hl hm⟩
   rw [stS,if_neg hm];exact w
open ShellPlain (item int2)
theorem it_bad1 {r:BL} (h:stP (stB (stB (some r))) = none):item 1 r = none:=by
 rcases r with _ | ⟨g,_ | ⟨c,_ | ⟨a,_ | ⟨b,r⟩⟩⟩⟩ <;> simp_all [item,stB,stP]
theorem it_bad2 {k:Nat} (hk:k = 2 ∨ k = 3 ∨ k = 4) {r:BL} (h:stP (some r) = none):item k r = none:=by
 have h1:¬ k = 1:=by omega
 rcases r with _ | ⟨a,_ | ⟨b,r⟩⟩ <;> simp_all [item,stP]
theorem it_bad5 {r:BL} (h:stP (stB (some r)) = none):item 5 r = none:=by
 rcases r with _ | ⟨g,_ | ⟨a,_ | ⟨b,r⟩⟩⟩ <;> simp_all [item,stB,stP]
theorem it_bad6 {r:BL} (h:stS (stB (some r)) = none):item 6 r = none:=by
 rcases r with _ | ⟨g,_ | ⟨a,_ | ⟨b,r⟩⟩⟩ <;> simp_all [item,stB,stS]
theorem it_bad7 {r:BL} (h:stS (some r) = none):item 7 r = none:=by
 rcases r with _ | ⟨a,_ | ⟨b,r⟩⟩ <;> simp_all [item,stS]
theorem it_ok1 {r r':BL} (h:stP (stB (stB (some r))) = some r'):∃ g c a b,r = g::c::a::b::r':=by
 rcases r with _ | ⟨g,_ | ⟨c,_ | ⟨a,_ | ⟨b,r⟩⟩⟩⟩ <;> simp_all [stB,stP]
theorem it_ok2 {r r':BL} (h:stP (some r) = some r'):∃ a b,r = a::b::r':=by
 rcases r with _ | ⟨a,_ | ⟨b,r⟩⟩ <;> simp_all [stP]
theorem it_ok5 {r r':BL} (h:stP (stB (some r)) = some r'):∃ g a b,r = g::a::b::r':=by
 rcases r with _ | ⟨g,_ | ⟨a,_ | ⟨b,r⟩⟩⟩ <;> simp_all [stB,stP]
theorem it_ok6 {r r':BL} (h:stS (stB (some r)) = some r'):∃ c a b q,r = c::a::b::q∧a.toNat * 256 + b.toNat ≤ q.length∧q.drop (a.toNat * 256 + b.toNat) = r':=by
 rcases r with _ | ⟨g,_ | ⟨a,_ | ⟨b,r⟩⟩⟩ <;> simp_all [stB,stS]
 exact ⟨_,_,_,_,⟨rfl,rfl,rfl,rfl⟩,h⟩
theorem it_ok7 {r r':BL} (h:stS (some r) = some r'):∃ a b q,r = a::b::q∧a.toNat * 256 + b.toNat ≤ q.length∧q.drop (a.toNat * 256 + b.toNat) = r':=by
 rcases r with _ | ⟨a,_ | ⟨b,r⟩⟩ <;> simp_all [stS]
 exact ⟨_,_,_,⟨rfl,rfl,rfl⟩,h⟩
end Go.Proofs.YtofafocfemikcaaGreat
