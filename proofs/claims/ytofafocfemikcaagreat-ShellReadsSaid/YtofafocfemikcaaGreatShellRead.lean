/- A part of a proof over the abstract machine. No conditions. -/
import Derived.Test.YtofafocfemikcaaGreatShellPlain
namespace ShellPlain
theorem items_fuel {f f' m:Nat} {r:BL} (h:r.length < f) (h':r.length < f'):items f m r = items f' m r:=by
 have a:=items_cut f f' m r r (List.prefix_refl r) h h'
 have b:=items_cut f' f m r r (List.prefix_refl r) h' h
 exact List.IsPrefix.eq_of_length b (Nat.le_antisymm b.length_le a.length_le)
def its (m:Nat) (l:BL):List It:=items (l.length + 1) m l
@[simp] theorem its_nil (m:Nat):its m [] = []:=by simp [its,items]
@[simp] theorem its_zero (l:BL):its 0 l = []:=by
 cases l with
 | nil=>rfl
 | cons a l=>simp [its,items]
theorem its_skip {m:Nat} {k:UInt8} {r:BL} (h:k.toNat < 1 ∨ 8 < k.toNat):its (m + 1) (k::r) = its (m + 1) r:=by
 unfold its
 rw [List.length_cons,items,if_pos h]
theorem its_none {m:Nat} {k:UInt8} {r:BL} (h:¬ (k.toNat < 1 ∨ 8 < k.toNat)) (hi:item k.toNat r = none):its (m + 1) (k::r) = []:=by
 unfold its
 rw [List.length_cons,items,if_neg h,hi]
theorem its_some {m:Nat} {k:UInt8} {r r':BL} {x:It} (h:¬ (k.toNat < 1 ∨ 8 < k.toNat)) (hi:item k.toNat r = some (x,r')):its (m + 1) (k::r) = x::its m r':=by
 unfold its
 rw [List.length_cons,items,if_neg h,hi]
 simp only
 rw [items_fuel (f':=r'.length + 1) (by have:=item_le hi;omega) (by omega)]
end ShellPlain
