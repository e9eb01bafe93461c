/- A part of a proof over the abstract machine. No conditions. -/
import Derived.Test.YtofafocfemikcaaGreatSH1
import Derived.Test.YtofafocfemikcaaGreatC3
import Derived.Test.YtofafocfemikcaaGreatAb5
set_option linter.unusedSimpArgs false
set_option linter.unnecessarySimpa false
set_option linter.unusedVariables false
namespace Go.Proofs.YtofafocfemikcaaGreat
open Go Go.Ab Wm NumPlain
set_option maxRecDepth 10000
set_option maxHeartbeats 4000000
def scP (g n c:Int) (o:Option (List Wm.Item)):ShellPlain.Sc:=⟨g,n,c,(ls o).map itP⟩
def itBs (x:Wm.Item):BL:=ShellPlain.itB (itP x)
theorem itB_len {x:Wm.Item} (h:ShellPlain.okI (itP x) = true):(itBs x).length ≤ 65550:=by
 obtain ⟨k,g,n,c,b⟩:=x
 unfold itBs itP ShellPlain.itB
 unfold ShellPlain.okI itP at h
 simp only at h ⊢
 rcases kinds k with rfl | rfl | rfl | rfl | rfl | rfl | rfl | rfl | hk
 all_goals try (simp [ShellPlain.two];done)
 ·simp at h;simp [ShellPlain.two];omega
 ·simp at h;simp [ShellPlain.two];omega
 ·have n1:¬ k = 1:=by omega
  have n2:¬ (k = 2 ∨ k = 3 ∨ k = 4):=by omega
  have n5:¬ k = 5:=by omega
  have n6:¬ k = 6:=by omega
  have n7:¬ k = 7:=by omega
  simp [n1,n2,n5,n6,n7]
theorem flat_len {α:Type} {f:α→BL} {m:Nat}:∀ {l:List α},(∀ x ∈ l,(f x).length ≤ m)→(l.flatMap f).length ≤ l.length * m
 | [],_=>by simp
 | x::l,h=>by
  have h1:=h x (by simp)
  have h2:=flat_len fun y hy=>h y (List.mem_cons_of_mem _ hy)
  simp only [List.flatMap_cons,List.length_append,List.length_cons,Nat.succ_mul];omega
theorem scB_eq (g n c:Int) (o:Option (List Wm.Item)):ShellPlain.scB (scP g n c o) = [u8 g,u8 n,u8 c]++(ls o).flatMap itBs:=by
 simp only [ShellPlain.scB,scP,List.flatMap_map];rfl
theorem shr8 (n:Int):shiftI .shr .i64 n 8 = some (.int .i64 (n / 256)):=by
 simp [shiftI,IntKind.bits]
 rw [Int.fdiv_eq_ediv_of_nonneg _ (by decide)]
theorem by1_u8 (n:Int):ShellPlain.by1 n = u8 n:=rfl
theorem app_bs {P:Program} {t u:Nat} {h:H} {s:AS} {o:Option BL} {f:AS × H→Option OR} {g:OR→Option RO} {Q:AV→H→Prop} {Kp:AS→H→Prop} (hx:onR (((appendA P t u h s (bs o)).bind f).bind g) Q Kp):onR (((appendA P t u h s (bs o)).bind f).bind g) Q Kp:=hx
theorem os_tail {h:H} {s:AS} {l:BL} {e:Nat × Blk} {kept:List (Nat × Blk)} (w:OS h s l (e::kept)):OS h s l kept:=⟨w.byt,w.kp.2,fun x hx=>w.ok x (by simp [hx])⟩
theorem call_ap1 {C:Conf} {P:Program} {t el:Nat} (ht:P.underlying t = some (.slice el)) (h1:elemT P t = some el) (h2:sizeT P el = some 1) (h3:bytesT P el = some 1) {h:H} {s:AS} {l:BL} {kept:List (Nat × Blk)} {b:UInt8} {fx:Bool} {n:Nat} (w:OS h s l kept) (hn:n = h.next) (hl:l.length + 1 ≤ 1099511627776)
  {K:AV→H→Prop} {Kp:AS→H→Prop} (hk:∀ s' h',h.next ≤ h'.next→OS h' s' (l++[b]) kept→keptP h' kept→K (.one s') h') :
  onR (((appendA P t t (h.new ⟨0,[1],fx,[byteS b]⟩) s (.slc n 0 0 1 1 none)).bind fun p=>some (OR.val (AV.one p.1) p.2)).bind (afterO (W C))) K Kp:=by
 subst hn
 exact call_app ht h1 h2 h3 (x:=[b]) (w.new _) rfl (elems_slc (n:=1) (fx:=fx) (by simp) rfl) hl fun s' h' hn' o _=>hk s' h' (by simp at hn';omega) (os_tail o) (os_tail o).kp
theorem call_ap2 {C:Conf} {P:Program} {t el:Nat} (ht:P.underlying t = some (.slice el)) (h1:elemT P t = some el) (h2:sizeT P el = some 1) (h3:bytesT P el = some 1) {h:H} {s:AS} {l:BL} {kept:List (Nat × Blk)} {a b:UInt8} {fx:Bool} {n:Nat} (w:OS h s l kept) (hn:n = h.next) (hl:l.length + 2 ≤ 1099511627776)
  {K:AV→H→Prop} {Kp:AS→H→Prop} (hk:∀ s' h',h.next ≤ h'.next→OS h' s' (l++[a,b]) kept→keptP h' kept→K (.one s') h') :
  onR (((appendA P t t (h.new ⟨0,[2],fx,[byteS a,byteS b]⟩) s (.slc n 0 0 2 1 none)).bind fun p=>some (OR.val (AV.one p.1) p.2)).bind (afterO (W C))) K Kp:=by
 subst hn
 exact call_app ht h1 h2 h3 (x:=[a,b]) (w.new _) rfl (elems_slc (n:=2) (fx:=fx) (by simp) rfl) hl fun s' h' hn' o _=>hk s' h' (by simp at hn';omega) (os_tail o) (os_tail o).kp
theorem ap1g {P:Program} {t u:Nat} {h:H} {s:AS} {b:UInt8} {fx:Bool} {n:Nat} {f:AS × H→Option OR} {g:OR→Option RO} {Q:AV→H→Prop} {Kp:AS→H→Prop} (hx:onR (((appendA P t u (h.new ⟨0,[1],fx,[byteS b]⟩) s (.slc n 0 0 1 1 none)).bind f).bind g) Q Kp):onR (((appendA P t u (h.new ⟨0,[1],fx,[byteS b]⟩) s (.slc n 0 0 1 1 none)).bind f).bind g) Q Kp:=hx
theorem ap2g {P:Program} {t u:Nat} {h:H} {s:AS} {a b:UInt8} {fx:Bool} {n:Nat} {f:AS × H→Option OR} {g:OR→Option RO} {Q:AV→H→Prop} {Kp:AS→H→Prop} (hx:onR (((appendA P t u (h.new ⟨0,[2],fx,[byteS a,byteS b]⟩) s (.slc n 0 0 2 1 none)).bind f).bind g) Q Kp):onR (((appendA P t u (h.new ⟨0,[2],fx,[byteS a,byteS b]⟩) s (.slc n 0 0 2 1 none)).bind f).bind g) Q Kp:=hx
end Go.Proofs.YtofafocfemikcaaGreat
