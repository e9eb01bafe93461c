/- A part of a proof over the abstract machine. No conditions. -/
import Derived.Test.YtofafocfemikcaaGreatSHP2
import Derived.Test.YtofafocfemikcaaGreatR2
set_option linter.unusedSimpArgs false
set_option linter.unnecessarySimpa false
set_option linter.unusedVariables false
namespace Go.Proofs.YtofafocfemikcaaGreat
open Go Go.Ab Wm NumPlain
set_option maxRecDepth 10000
set_option maxHeartbeats 4000000
structure ItA where
 k:Int
 g:Int
 n:Int
 c:Int
 s:AS
def encA (x:ItA):List AS:=[ii x.k,ii x.g,ii x.n,ii x.c,x.s]
theorem len_itA (x:ItA):(encA x).length = 5:=rfl
structure Held (h:H) (y:ItA) (x:ShellPlain.It):Prop where
 k:y.k = x.k
 g:y.g = x.g
 n:y.n = x.n
 c:y.c = x.c
 yes:(x.k = 6 ∨ x.k = 7)→Byt h y.s x.b
 no:¬ (x.k = 6 ∨ x.k = 7)→y.s = .nilslc
def HeldL (h:H):List ItA→List ShellPlain.It→Prop
 | [],[]=>True
 | y::L,x::D=>Held h y x∧HeldL h L D
 | _,_=>False
def ApA (h:H) (s:AS) (L:List ItA):Prop:=∀ y ∈ L,∀ b,ownB y.s = some b→b < h.next∧9 ≤ b∧ownB s ≠ some b
theorem HeldL.len {h:H}:∀ {L:List ItA} {D:List ShellPlain.It},HeldL h L D→L.length = D.length
 | [],[],_=>rfl
 | y::L,x::D,hh=>by simp [HeldL.len hh.2]
 | [],_::_,hh=>hh.elim
 | _::_,[],hh=>hh.elim
theorem Held.keep {h h':H} {y:ItA} {x:ShellPlain.It} (w:Held h y x) (hn:h.next ≤ h'.next) (hf:∀ b,ownB y.s = some b→h'.f b = h.f b):Held h' y x :=
 ⟨w.k,w.g,w.n,w.c,fun hk=>⟨(w.yes hk).1.keep hn hf,(w.yes hk).2⟩,w.no⟩
theorem HeldL.keep {h h':H} (hn:h.next ≤ h'.next):∀ {L:List ItA} {D:List ShellPlain.It},HeldL h L D→(∀ y ∈ L,∀ b,ownB y.s = some b→h'.f b = h.f b)→HeldL h' L D
 | [],[],_,_=>trivial
 | y::L,x::D,hh,hf=>⟨hh.1.keep hn (hf y (by simp)),HeldL.keep hn hh.2 fun z hz=>hf z (by simp [hz])⟩
 | [],_::_,hh,_=>hh.elim
 | _::_,[],hh,_=>hh.elim
theorem HeldL.snoc {h:H} {y:ItA} {x:ShellPlain.It} (hx:Held h y x):∀ {L:List ItA} {D:List ShellPlain.It},HeldL h L D→HeldL h (L++[y]) (D++[x])
 | [],[],_=>⟨hx,trivial⟩
 | z::L,w::D,hh=>⟨hh.1,HeldL.snoc hx hh.2⟩
 | [],_::_,hh=>hh.elim
 | _::_,[],hh=>hh.elim
theorem held_frz {h:H} {y:ItA} {x:ShellPlain.It} (w:Held h y x):(encA y).mapM (frzS false h 63) = some (encItem (itemW x)):=by
 have hi:∀ n:Int,frzS false h 63 (ii n) = some (ii n):=fun n=>frzS_pure (n:=62) rfl
 have hs:frzS false h 63 y.s = some (bs (itemW x).bytes):=by
  by_cases hk:x.k = 6 ∨ x.k = 7
  ·have:=byt_frz (st:=false) (n:=61) (w.yes hk)
   simpa [itemW,hk] using this
  ·rw [w.no hk]
   simp only [itemW,if_neg hk,bs_none]
   exact frzS_pure (n:=62) rfl
 simp [encA,encItem,hi,hs,w.k,w.g,w.n,w.c,itemW]
theorem heldL_frz {h:H}:∀ {L:List ItA} {D:List ShellPlain.It},HeldL h L D→(cat encA L).mapM (frzS false h 63) = some (cat encItem (D.map itemW))
 | [],[],_=>rfl
 | y::L,x::D,hh=>by
  rw [List.map_cons,cat_cons,cat_cons,List.mapM_append,held_frz hh.1,heldL_frz hh.2]
  rfl
 | [],_::_,hh=>hh.elim
 | _::_,[],hh=>hh.elim
theorem list_frz {h:H} {s:AS} {L:List ItA} {D:List ShellPlain.It} (g:Grown h 5 encA s L) (hh:HeldL h L D):frzS false h 64 s = some (sl 5 encItem (opt (D.map itemW))):=by
 have hl:=hh.len
 obtain ⟨o,o2⟩:=g
 by_cases h0:L = []
 ·subst h0
  have:D = []:=List.eq_nil_of_length_eq_zero (by simpa using hl.symm)
  subst this
  rw [o2 rfl]
  exact frzS_pure (n:=63) rfl
 ·have hD:D.map itemW ≠ []:=by
   intro e
   apply h0
   apply List.eq_nil_of_length_eq_zero
   rw [hl]
   simpa using congrArg List.length e
  rw [opt_ne hD]
  have hm:=heldL_frz hh
  have hln:=flat_length len_itA L
  cases s <;> simp only [Owns] at o
  ·rw [o] at hln
   simp only [List.length_nil] at hln
   exact absurd (List.eq_nil_of_length_eq_zero (by omega)) h0
  ·rename_i b v oo n s' c
   obtain ⟨rfl,rfl,rfl,hl2,hb,B,h1,h2,h3,h4⟩:=o
   have hn:n = L.length:=by omega
   subst hn
   have hr:readC h (.ptr b v 0) (L.length * 5) = some (cat encA L):=by
    simp only [readC,h1,h3,oqE,oqS,Nat.zero_add]
    rw [if_pos (by omega)]
    unfold sub
    rw [h4,if_pos (by omega),List.drop_zero,List.take_of_length_le (by omega)]
   simp only [frzS,hr,oqE,oqS,hm,sl]
   simp [hl]
end Go.Proofs.YtofafocfemikcaaGreat
