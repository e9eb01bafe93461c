/- Data that are lists; what is written, grown, frozen; the program's own things in plain Lean. No conditions. -/
import Ieee.Arith
import Derived.Test.YtiagcnfmgigllaaGreatAb3
import Derived.Test.YtiagcnfmgigllaaGreatAb4
import Derived.Test.YtiagcnfmgigllaaGreatAb2
import Derived.Test.YtiagcnfmgigllaaGreatAbI
set_option linter.unusedSimpArgs false
set_option linter.unnecessarySimpa false
set_option linter.unusedVariables false
namespace NumPlain
open Ieee
abbrev D:=Ieee.double
def SW:Nat:=9223372036854775808
def BN:Nat:=4503599627370496
def INF:Nat:=9218868437227405312
theorem sw_eq:D.signWeight = SW:=by decide
theorem bn_eq:D.binade = BN:=by decide
theorem inf_eq:D.infRung = INF:=by decide
theorem least_eq:D.leastPlace = -1074:=by decide
def rung (a:Nat):Nat:=a % SW
def neg (a:Nat):Bool:=a / SW % 2 == 1
def isN (a:Nat):Bool:=decide (INF < rung a)
theorem read_eq (a:Nat):D.read a = if rung a < BN then .number (neg a) (rung a) (-1074) else if rung a < INF then .number (neg a) (BN + rung a % BN) (-1074 + (rung a / BN - 1:Nat)) else if rung a = INF then .infinity (neg a) else .nan (neg a) (rung a - INF):=by
 unfold Format.read
 simp only [sw_eq,bn_eq,inf_eq,least_eq,rung,neg]
 rfl
def V (r:Nat):Nat:=if r < BN then r else (BN + r % BN) * 2 ^ (r / BN - 1)
theorem V_lt {r q:Nat} (h:r < q):V r < V q:=by
 unfold V
 have hb:0 < BN:=by decide
 by_cases h1:r < BN <;> by_cases h2:q < BN
 ·rw [if_pos h1,if_pos h2];exact h
 ·rw [if_pos h1,if_neg h2]
  have:1 ≤ 2 ^ (q / BN - 1):=Nat.one_le_two_pow
  calc r < BN:=h1
   _ ≤ BN + q % BN:=Nat.le_add_right _ _
   _ = (BN + q % BN) * 1:=(Nat.mul_one _).symm
   _ ≤ _:=Nat.mul_le_mul_left _ this
 ·omega
 ·rw [if_neg h1,if_neg h2]
  have hd:r / BN ≤ q / BN:=Nat.div_le_div_right (by omega)
  have e1:=Nat.div_add_mod r BN
  have e2:=Nat.div_add_mod q BN
  rcases Nat.eq_or_lt_of_le hd with he | hlt
  ·rw [he]
   have:r % BN < q % BN:=by rw [he] at e1;omega
   exact Nat.mul_lt_mul_of_pos_right (by omega) (Nat.two_pow_pos _)
  ·have hr1:1 ≤ r / BN:=Nat.div_pos (by omega) hb |> fun h=>h
   obtain ⟨k,hk⟩:∃ k,q / BN - 1 = (r / BN - 1) + 1 + k:=⟨q / BN - 1 - (r / BN - 1) - 1,by omega⟩
   rw [hk,Nat.pow_add,Nat.pow_add,Nat.pow_one]
   have hm:r % BN < BN:=Nat.mod_lt _ hb
   have hp:0 < 2 ^ (r / BN - 1):=Nat.two_pow_pos _
   have hk1:1 ≤ 2 ^ k:=Nat.one_le_two_pow
   calc (BN + r % BN) * 2 ^ (r / BN - 1) < (BN * 2) * 2 ^ (r / BN - 1):=Nat.mul_lt_mul_of_pos_right (by omega) hp
    _ = BN * (2 ^ (r / BN - 1) * 2):=by rw [Nat.mul_assoc,Nat.mul_comm 2]
    _ ≤ (BN + q % BN) * (2 ^ (r / BN - 1) * 2 * 2 ^ k):=Nat.mul_le_mul (Nat.le_add_right _ _) (by
      calc 2 ^ (r / BN - 1) * 2 = 2 ^ (r / BN - 1) * 2 * 1:=(Nat.mul_one _).symm
       _ ≤ _:=Nat.mul_le_mul_left _ hk1)
theorem V_inj {r q:Nat} (h:V r = V q):r = q:=by
 rcases Nat.lt_trichotomy r q with h1 | h1 | h1
 ·have:=V_lt h1;omega
 ·exact h1
 ·have:=V_lt h1;omega
theorem V_lt_iff {r q:Nat}:V r < V q ↔ r < q:=⟨fun h=>by
 rcases Nat.lt_trichotomy r q with h1 | h1 | h1
 ·exact h1
 ·subst h1;omega
 ·have:=V_lt h1;omega,V_lt⟩
theorem V_zero:V 0 = 0:=by decide
def mag (r:Nat):Nat:=if r < BN then r else BN + r % BN
def sh (r:Nat):Nat:=if r < BN then 0 else r / BN - 1
theorem V_eq (r:Nat):V r = mag r * 2 ^ sh r:=by
 unfold V mag sh;split <;> simp
theorem read_fin {a:Nat} (h:rung a < INF):D.read a = .number (neg a) (mag (rung a)) (-1074 + (sh (rung a):Nat)):=by
 rw [read_eq]
 unfold mag sh
 split
 ·simp
 ·simp [h]
theorem read_inf {a:Nat} (h:rung a = INF):D.read a = .infinity (neg a):=by
 rw [read_eq,if_neg (by rw [h];decide),if_neg (by omega),if_pos h]
theorem read_nan {a:Nat} (h:INF < rung a):D.read a = .nan (neg a) (rung a - INF):=by
 rw [read_eq,if_neg (by have:BN < INF:=(by decide);omega),if_neg (by omega),if_neg (by omega)]
def sg (s:Bool) (n:Nat):Int:=if s then -(n:Int) else n
theorem signed_eq (s:Bool) (m k:Nat):signed s m k = sg s (m * 2 ^ k):=by
 unfold signed sg;simp only [Nat.shiftLeft_eq]
def srung (a:Nat):Int:=sg (neg a) (rung a)
theorem cmp_congr {a b c d:Int} (h1:a < b ↔ c < d) (h2:b < a ↔ d < c):compare a b = compare c d:=by
 rcases Int.lt_trichotomy c d with h | h | h
 ·rw [Int.compare_eq_lt.2 h,Int.compare_eq_lt.2 (h1.2 h)]
 ·have:a = b:=by omega
  rw [Int.compare_eq_eq.2 h,Int.compare_eq_eq.2 this]
 ·rw [Int.compare_eq_gt.2 h,Int.compare_eq_gt.2 (h2.2 h)]
theorem sg_lt {s t:Bool} {m n:Nat} (p q:Nat) (h1:m < n ↔ p < q) (h2:n < m ↔ q < p) (hm:m = 0 ↔ p = 0) (hn:n = 0 ↔ q = 0):(sg s m < sg t n ↔ sg s p < sg t q):=by
 unfold sg;cases s <;> cases t <;> simp <;> omega
theorem order_fin {a b:Nat} (ha:rung a < INF) (hb:rung b < INF):D.order a b = some (compare (srung a) (srung b)):=by
 unfold Format.order
 rw [read_fin ha,read_fin hb]
 simp only [Datum.order,signed_eq]
 have key:∀ (x y:Nat),((x:Int) + (-1074) - min (-1074 + (x:Int)) (-1074 + (y:Int))).toNat = x - min x y:=by intro x y;omega
 have e1:(-1074 + ((sh (rung a):Nat):Int) - min (-1074 + ((sh (rung a):Nat):Int)) (-1074 + ((sh (rung b):Nat):Int))).toNat = sh (rung a) - min (sh (rung a)) (sh (rung b)):=by omega
 have e2:(-1074 + ((sh (rung b):Nat):Int) - min (-1074 + ((sh (rung a):Nat):Int)) (-1074 + ((sh (rung b):Nat):Int))).toNat = sh (rung b) - min (sh (rung a)) (sh (rung b)):=by omega
 rw [e1,e2]
 congr 1
 have hs:∀ (r k:Nat),k ≤ sh r→mag r * 2 ^ (sh r - k) * 2 ^ k = V r:=by
  intro r k hk
  rw [V_eq,Nat.mul_assoc,← Nat.pow_add];congr 2;omega
 have h1:=hs (rung a) (min (sh (rung a)) (sh (rung b))) (Nat.min_le_left _ _)
 have h2:=hs (rung b) (min (sh (rung a)) (sh (rung b))) (Nat.min_le_right _ _)
 have hp:0 < 2 ^ min (sh (rung a)) (sh (rung b)):=Nat.two_pow_pos _
 generalize 2 ^ min (sh (rung a)) (sh (rung b)) = u at *
 generalize mag (rung a) * 2 ^ (sh (rung a) - min (sh (rung a)) (sh (rung b))) = x at *
 generalize mag (rung b) * 2 ^ (sh (rung b) - min (sh (rung a)) (sh (rung b))) = y at *
 have g1:x < y ↔ rung a < rung b:=by rw [← V_lt_iff (r:=rung a) (q:=rung b),← h1,← h2];exact (Nat.mul_lt_mul_right hp).symm
 have g2:y < x ↔ rung b < rung a:=by rw [← V_lt_iff (r:=rung b) (q:=rung a),← h1,← h2];exact (Nat.mul_lt_mul_right hp).symm
 have z:∀ (r x:Nat),x * u = V r→(x = 0 ↔ r = 0):=by
  intro r x h
  constructor
  ·intro hx;rw [hx,Nat.zero_mul] at h;exact (V_inj (h.symm.trans V_zero.symm))
  ·intro hr;rw [hr,V_zero] at h
   rcases Nat.mul_eq_zero.1 h with h | h
   ·exact h
   ·omega
 exact cmp_congr (sg_lt _ _ g1 g2 (z _ _ h1) (z _ _ h2)) (sg_lt _ _ g2 g1 (z _ _ h2) (z _ _ h1))
theorem order_word {a b:Nat} (ha:rung a ≤ INF) (hb:rung b ≤ INF):D.order a b = some (compare (srung a) (srung b)):=by
 rcases Nat.eq_or_lt_of_le ha with h1 | h1 <;> rcases Nat.eq_or_lt_of_le hb with h2 | h2
 ·unfold Format.order
  rw [read_inf h1,read_inf h2]
  simp only [Datum.order,srung,h1,h2,sg]
  cases neg a <;> cases neg b <;> decide
 ·unfold Format.order
  rw [read_inf h1,read_fin h2]
  simp only [Datum.order,srung,h1,sg]
  have:(0:Int) < INF:=by decide
  cases neg a <;> cases neg b <;> simp <;> symm <;> first | (apply Int.compare_eq_gt.2;omega) | (apply Int.compare_eq_lt.2;omega)
 ·unfold Format.order
  rw [read_inf h2,read_fin h1]
  simp only [Datum.order,srung,h2,sg]
  have:(0:Int) < INF:=by decide
  cases neg a <;> cases neg b <;> simp <;> symm <;> first | (apply Int.compare_eq_gt.2;omega) | (apply Int.compare_eq_lt.2;omega)
 ·exact order_fin h1 h2
theorem order_nan {a b:Nat} (h:INF < rung a ∨ INF < rung b):D.order a b = none:=by
 unfold Format.order
 rcases h with h | h
 ·rw [read_nan h];rfl
 ·rw [read_nan h];cases D.read a <;> rfl
theorem sum_comm (x y:Datum):x.sum y = y.sum x:=by
 cases x <;> cases y <;> simp only [Datum.sum]
 ·rename_i s m i t n j
  simp only [Int.min_comm i j,Int.add_comm (signed s m _) _,Bool.and_comm s t]
 ·rename_i s t
  cases s <;> cases t <;> rfl
theorem add_comm (a b:Nat):D.add a b = D.add b a:=by
 unfold Format.add;rw [sum_comm]
end NumPlain
namespace Go.Ab
@[simp] theorem empty_next:H.empty.next = 0:=rfl
@[simp] theorem empty_f (b:Nat):H.empty.f b = none:=rfl
@[simp] theorem new_next (h:H) (k:Blk):(h.new k).next = h.next + 1:=rfl
@[simp] theorem set_next (h:H) (b:Nat) (k:Blk):(h.set b k).next = h.next:=rfl
@[simp] theorem new_at (h:H) (k:Blk) (b:Nat):(h.new k).f b = if b = h.next then some k else h.f b:=rfl
@[simp] theorem set_at (h:H) (b c:Nat) (k:Blk):(h.set b k).f c = if c = b then some k else h.f c:=rfl
@[simp] theorem set_set (h:H) (b:Nat) (k k':Blk):(h.set b k).set b k' = h.set b k':=by
 simp only [H.set];congr 1;funext x;split <;> rfl
@[simp] theorem new_set (h:H) (k k':Blk):(h.new k).set h.next k' = h.new k':=by
 simp only [H.set,H.new];congr 1;funext x;split <;> rfl
@[simp] theorem read_ptr (h:H) (b v o n:Nat):readC h (.ptr b v o) n = (h.f b).bind fun k=>(k.ext v).bind fun e=>if o + n ≤ e then sub k.cells o n else none:=rfl
@[simp] theorem read_rp (h:H) (cells:List AS) (o n:Nat):readC h (.rp cells o) n = sub cells o n:=rfl
@[simp] theorem write_ptr (h:H) (b v o:Nat) (l:List AS):writeC h (.ptr b v o) l = (h.f b).bind fun k=>(k.ext v).bind fun e=>if v = k.ver∧o + l.length ≤ e∧e = k.cells.length then some (h.set b ⟨k.ver,[e],k.fixed,lay k.cells o l⟩) else none:=rfl
attribute [simp] Blk.ext blkOf
theorem wrap_i64 {x:Int} (h1:-9223372036854775808 ≤ x) (h2:x < 9223372036854775808):IntKind.i64.wrap x = x:=by
 simp only [IntKind.wrap,IntKind.signed,IntKind.bits]
 simp
 omega
theorem wrap_u32 {x:Int} (h1:0 ≤ x) (h2:x < 4294967296):IntKind.u32.wrap x = x:=by
 show x % 2 ^ 32 = x
 exact Int.emod_eq_of_lt h1 (by omega)
theorem wrap_u64 {x:Int} (h1:0 ≤ x) (h2:x < 18446744073709551616):IntKind.u64.wrap x = x:=by
 show x % 2 ^ 64 = x
 exact Int.emod_eq_of_lt h1 (by omega)
theorem wrap_u8m (x:Int):IntKind.u8.wrap x = x % 256:=rfl
theorem wrap_u32m (x:Int):IntKind.u32.wrap x = x % 4294967296:=rfl
theorem wrap_u64m (x:Int):IntKind.u64.wrap x = x % 18446744073709551616:=rfl
section
variable {α:Type}
def ls (o:Option (List α)):List α:=o.getD []
@[simp] theorem ls_some (l:List α):ls (some l) = l:=rfl
@[simp] theorem ls_none:ls (none:Option (List α)) = []:=rfl
def cat (enc:α→List AS) (l:List α):List AS:=l.flatMap enc
def sl (s:Nat) (enc:α→List AS):Option (List α)→AS
 | none=>.nilslc
 | some l=>.vs l.length s (cat enc l)
@[simp] theorem lenS_sl (s:Nat) (enc:α→List AS) (o:Option (List α)):lenS (sl s enc o) = some (ls o).length:=by cases o <;> rfl
theorem flat_length {s:Nat} {enc:α→List AS} (he:∀ x,(enc x).length = s) (l:List α):(cat enc l).length = l.length * s:=by
 unfold cat
 induction l with
 | nil=>simp
 | cons a l ih=>simp [he,ih,Nat.succ_mul];omega
theorem sees_sl {s:Nat} {enc:α→List AS} (he:∀ x,(enc x).length = s) (h:H) (o:Option (List α)):Sees h s (sl s enc o) (cat enc (ls o)):=by
 cases o with
 | none=>rfl
 | some l=>exact ⟨rfl,rfl,flat_length he l⟩
theorem pureL_flat {st:Bool} {enc:α→List AS} (l:List α) (hp:∀ x ∈ l,pureL st (enc x) = true):pureL st (cat enc l) = true:=by
 unfold cat
 induction l with
 | nil=>rfl
 | cons a l ih =>
  rw [List.flatMap_cons,pureL_append,hp a (by simp),ih fun x hx=>hp x (by simp [hx])];rfl
theorem pureS_sl {s:Nat} {enc:α→List AS} (hp:∀ x,pureL false (enc x) = true) (o:Option (List α)):pureS false (sl s enc o) = true:=by
 cases o with
 | none=>rfl
 | some l=>simp only [sl,pureS,Bool.not_false,Bool.true_or,Bool.true_and];exact pureL_flat l fun x _=>hp x
@[simp] theorem lenA_sl (s:Nat) (enc:α→List AS) (o:Option (List α)) (u:TypeId) (h:H):lenA (sl s enc o) (some (.slice u)) h = some (one (.int .i64 (ls o).length) h):=by cases o <;> rfl
theorem index_sl {P:Program} {t u s:Nat} (ht:P.underlying t = some (.slice u)) (hu:sizeT P u = some s) (h0:0 < s) {enc:α→List AS} {l:List α} {i:Nat} (hi:i < l.length):indexA P t (sl s enc (some l)) i = some (.rp (cat enc l) (i * s)):=by
 unfold indexA
 simp only [ht,hu,oqE,oqS,sl,h0,hi,and_self,if_true]
theorem sub_flat {s:Nat} {enc:α→List AS} (he:∀ x,(enc x).length = s) (a:List α) (x:α) (b:List α) {o n:Nat} (ho:o + n ≤ s):sub (cat enc (a++x::b)) (a.length * s + o) n = sub (enc x) o n:=by
 unfold sub
 have h1:(cat enc (a++x::b)) = a.flatMap enc++(enc x++b.flatMap enc):=by simp [cat]
 have h2:(a.flatMap enc).length = a.length * s:=flat_length he a
 rw [if_pos (by rw [h1,List.length_append,List.length_append,h2,he];omega),if_pos (by rw [he];exact ho),h1,← h2]
 rw [List.drop_append]
 rw [show List.drop ((a.flatMap enc).length + o) (a.flatMap enc) = [] from List.drop_eq_nil_of_le (by omega)]
 rw [show (a.flatMap enc).length + o - (a.flatMap enc).length = o by omega,List.nil_append,List.drop_append_of_le_length (by rw [he];omega),List.take_append_of_le_length (by rw [List.length_drop,he];omega)]
theorem elems_sl {s:Nat} {enc:α→List AS} (he:∀ x,(enc x).length = s) (h0:0 < s) (h:H) (o:Option (List α)):elemsOf h s (ls o).length (sl s enc o) = some (cat enc (ls o)) :=
 sees_elems (sees_sl he h o) h0 (flat_length he _)
end
abbrev BL:=List UInt8
def bs:Option BL→AS:=sl 1 fun b=>[byteS b]
theorem bs_none:bs none = .nilslc:=rfl
theorem bs_some (l:BL):bs (some l) = .vs l.length 1 (l.map byteS):=by
 simp only [bs,sl,cat]
 congr 1
 induction l with
 | nil=>rfl
 | cons a l ih=>simp only [List.flatMap_cons,List.map_cons,ih];rfl
@[simp] theorem lenS_bs (o:Option BL):lenS (bs o) = some (ls o).length:=lenS_sl _ _ _
@[simp] theorem lenA_bs (o:Option BL) (u:TypeId) (h:H):lenA (bs o) (some (.slice u)) h = some (one (.int .i64 (ls o).length) h):=lenA_sl _ _ _ _ _
@[simp] theorem pureS_bs (o:Option BL):pureS false (bs o) = true:=pureS_sl (fun _=>rfl) o
theorem bytesOf_map (l:BL):bytesOf (l.map byteS) = some l:=by
 induction l with
 | nil=>rfl
 | cons a l ih =>
  have ha:a.toNat < 256:=a.toNat_lt
  simp only [List.map_cons,byteS,bytesOf]
  rw [if_pos (by omega)]
  rw [ih]
  simp
theorem elems_bs (h:H) (o:Option BL):elemsOf h 1 (ls o).length (bs o) = some ((ls o).map byteS):=by
 have:=elems_sl (s:=1) (enc:=fun b:UInt8=>[byteS b]) (fun _=>rfl) (by omega) h o
 rw [bs,this]
 congr 1
 unfold cat
 generalize ls o = l
 induction l with
 | nil=>rfl
 | cons a l ih=>simp only [List.flatMap_cons,List.map_cons,ih];rfl
@[simp] theorem onW_not (b:Bool) (A B:Prop):onW (some (!b)) A B = onW (some b) B A:=by cases b <;> simp
@[simp] theorem fork_not (b:Bool) (A B:Prop):Fork (!b) A B = Fork b B A:=by cases b <;> simp
@[simp] theorem wanted_b (b:Bool):(b == true) = b:=by cases b <;> rfl
@[simp] theorem wanted_nb (b:Bool):(b == false) = !b:=by cases b <;> rfl
def Wr (h:H) (p:Nat) (q:Option Nat) (l:BL):Prop:=p < h.next∧∃ s,ownB s = q∧q ≠ some p∧h.f p = some ⟨0,[1],true,[s]⟩∧Owns h 1 s (l.map byteS)
structure Only (h h':H) (p:Nat) (q q':Option Nat):Prop where
 next:h.next ≤ h'.next
 keep:∀ b,b < h.next→b ≠ p→q ≠ some b→h'.f b = h.f b
 own:q' = q ∨ ∃ b,q' = some b∧h.next ≤ b
theorem Only.refl (h:H) (p:Nat) (q:Option Nat):Only h h p q q:=⟨Nat.le_refl _,fun _ _ _ _=>rfl,.inl rfl⟩
theorem Only.trans {h h1 h2:H} {p:Nat} {q q1 q2:Option Nat} (a:Only h h1 p q q1) (b:Only h1 h2 p q1 q2):Only h h2 p q q2 where
 next:=Nat.le_trans a.next b.next
 keep x hx hp hq:=by
  rw [b.keep x (Nat.lt_of_lt_of_le hx a.next) hp ?_,a.keep x hx hp hq]
  rcases a.own with e | ⟨y,e,hy⟩
  ·rw [e];exact hq
  ·rw [e];intro h;cases h;omega
 own:=by
  rcases b.own with e | ⟨y,e,hy⟩
  ·rw [e]
   rcases a.own with e | ⟨y,e,hy⟩
   ·exact .inl e
   ·exact .inr ⟨y,e,hy⟩
  ·exact .inr ⟨y,e,Nat.le_trans a.next hy⟩
theorem Wr.own_lt {h:H} {p b:Nat} {q:Option Nat} {l:BL} (w:Wr h p q l) (hb:q = some b):b < h.next:=by
 obtain ⟨_,s,hq,_,_,ho⟩:=w
 rw [hb] at hq
 cases s <;> simp only [ownB,Owns,reduceCtorEq] at hq ho
 cases hq
 exact ho.2.2.2.2.1
theorem Wr.new {h:H} {p:Nat} {q:Option Nat} {l:BL} (w:Wr h p q l) (k:Blk):Wr (h.new k) p q l:=by
 obtain ⟨hp,s,hq,hqp,hf,ho⟩:=w
 refine ⟨by simp only [new_next];omega,s,hq,hqp, ?_,ho.new k⟩
 rw [new_at,if_neg (by omega)];exact hf
def keptP (h:H):List (Nat × Blk)→Prop
 | []=>True
 | e::l=>h.f e.1 = some e.2∧keptP h l
def WS (h0:H) (q0:Option Nat) (h:H) (p:Nat) (l:BL) (kept:List (Nat × Blk)):Prop:=∃ q,Wr h p q l∧Only h0 h p q0 q∧keptP h kept∧∀ e ∈ kept,e.1 < h.next∧e.1 ≠ p∧q ≠ some e.1
theorem WS.start {h:H} {p:Nat} {q:Option Nat} {l:BL} (w:Wr h p q l):WS h q h p l []:=⟨q,w,Only.refl _ _ _,trivial,by simp⟩
theorem WS.drop {h0 h:H} {q0:Option Nat} {p:Nat} {l:BL} {kept:List (Nat × Blk)} (w:WS h0 q0 h p l kept):WS h0 q0 h p l []:=by
 obtain ⟨q,w,g,_⟩:=w;exact ⟨q,w,g,trivial,by simp⟩
theorem keptP_same {h h':H}:∀ {l:List (Nat × Blk)},(∀ e ∈ l,h'.f e.1 = h.f e.1)→keptP h l→keptP h' l
 | [],_,_=>trivial
 | e::l,hs,hk=>⟨by rw [hs e (by simp)];exact hk.1,keptP_same (fun x hx=>hs x (by simp [hx])) hk.2⟩
theorem WS.new {h0 h:H} {q0:Option Nat} {p:Nat} {l:BL} {kept:List (Nat × Blk)} (w:WS h0 q0 h p l kept) (k:Blk):WS h0 q0 (h.new k) p l ((h.next,k)::kept):=by
 obtain ⟨q,w,g,hk,hd⟩:=w
 have hp:=w.1
 refine ⟨q,w.new k,⟨Nat.le_trans g.next (by simp),fun b hb h1 h2=>?_,g.own⟩,⟨by simp,keptP_same (fun e he=>?_) hk⟩, ?_⟩
 ·rw [new_at,if_neg (by have:=g.next;omega)];exact g.keep b hb h1 h2
 ·rw [new_at,if_neg (by have:=(hd e he).1;omega)]
 ·intro e he
  rcases List.mem_cons.1 he with rfl | he
  ·refine ⟨by simp,by simp only;omega,fun hq=>?_⟩
   have:=w.own_lt hq;simp only at this;omega
  ·have:=hd e he
   exact ⟨by simp only [new_next];omega,this.2⟩
def Writes (C:Conf) (f:Nat) (rest:List AV) (ret:AV) (x:BL):Prop :=
 ∀ h p q l,Wr h p q l→l.length + x.length ≤ 1099511627776→∃ h' q',W C f (.one (.ptr p 0 0)::rest) h = some (.ret ret h')∧Wr h' p q' (l++x)∧Only h h' p q q'
theorem call_writes {C:Conf} {f:Nat} {rest:List AV} {ret:AV} {x:BL} (hf:Writes C f rest ret x) {h0 h:H} {q0:Option Nat} {p:Nat} {l:BL} {kept:List (Nat × Blk)} (w:WS h0 q0 h p l kept) (hl:l.length + x.length ≤ 1099511627776)
  {K:AV→H→Prop} {Kp:AS→H→Prop} (hk:∀ h',WS h0 q0 h' p (l++x) kept→keptP h' kept→K ret h'):onR ((W C f (.one (.ptr p 0 0)::rest) h).bind crO) K Kp:=by
 obtain ⟨q,w,g,hkp,hd⟩:=w
 obtain ⟨h',q',e,w',g'⟩:=hf h p q l w hl
 rw [e]
 simp only [oqS,crO_ret,onR_ok]
 have hkp':keptP h' kept:=keptP_same (fun e he=>g'.keep _ (hd e he).1 (hd e he).2.1 (hd e he).2.2) hkp
 refine hk h' ⟨q',w',g.trans g',hkp',fun e he=>⟨Nat.lt_of_lt_of_le (hd e he).1 g'.next,(hd e he).2.1, ?_⟩⟩ hkp'
 rcases g'.own with e1 | ⟨b,e1,hb⟩
 ·rw [e1];exact (hd e he).2.2
 ·rw [e1];intro hc
  have:=(hd e he).1
  simp only [oqI] at hc;omega
theorem writes_of {C:Conf} {f:Nat} {rest:List AV} {ret:AV} {x:BL} (hh:∀ h p q l,Wr h p q l→l.length + x.length ≤ 1099511627776→∃ r,W C f (.one (.ptr p 0 0)::rest) h = some r∧∃ h' kept,r = .ret ret h'∧WS h q h' p (l++x) kept):Writes C f rest ret x:=by
 intro h p q l w hl
 obtain ⟨r,e,h',kept,rfl,q',w',g',_⟩:=hh h p q l w hl
 exact ⟨h',q',e,w',g'⟩
theorem wr_append {P:Program} {t el:Nat} (ht:P.underlying t = some (.slice el)) (h1:elemT P t = some el) (h2:sizeT P el = some 1) (h3:bytesT P el = some 1) {h:H} {p:Nat} {q:Option Nat} {l:BL} (w:Wr h p q l) {s a:AS} (hs:h.f p = some ⟨0,[1],true,[s]⟩) {x:BL}
  (hln:lenS a = some x.length) (he:elemsOf h 1 x.length a = some (x.map byteS)) (hlen:l.length + x.length ≤ 1099511627776) :
  ∃ s' h2,appendA P t t h s a = some (s',h2)∧h2.f p = some ⟨0,[1],true,[s]⟩∧∃ q',Wr (h2.set p ⟨0,[1],true,[s']⟩) p q' (l++x)∧Only h (h2.set p ⟨0,[1],true,[s']⟩) p q q':=by
 obtain ⟨hpn,s0,hq,hqp,hf,ho⟩:=w
 rw [hf] at hs
 have hss:s0 = s:=by
  simp only [oqI,Blk.mk.injEq,List.cons.injEq,and_true,true_and] at hs
  exact hs
 subst hss
 have happ:=append_slice (P:=P) (t:=t) (u:=t) (s:=s0) h1 h2 h3 ht hln he
 have key:∃ s' h2',appendL 1 1 x.length (x.map byteS) h s0 = some (s',h2')∧Owns h2' 1 s' ((l++x).map byteS)∧h.next ≤ h2'.next∧(∀ b,b < h.next→ownB s0 ≠ some b→h2'.f b = h.f b)∧(∀ b,ownB s' = some b→ownB s0 = some b ∨ h.next ≤ b):=by
  by_cases h0:x.length = 0
  ·have:x = []:=List.eq_nil_of_length_eq_zero h0
   subst this
   refine ⟨s0,h, ?_,by simpa using ho,Nat.le_refl _,fun _ _ _=>rfl,fun b hb=>.inl hb⟩
   cases s0 <;> simp only [Owns] at ho
   ·rfl
   ·obtain ⟨_,rfl,_⟩:=ho
    rfl
  ·obtain ⟨s',h2',e1,e2,e3,e4,e5,_⟩:=append_own (bytes:=1) (m:=x.length) (new:=x.map byteS) (n:=l.length) ho (by omega) (by simp) (by omega) (by simp) (by simp only [limit];omega)
   exact ⟨s',h2',e1,by rw [List.map_append];exact e2,e3,e4,e5⟩
 obtain ⟨s',h2',e1,e2,e3,e4,e5⟩:=key
 have hp2:h2'.f p = some ⟨0,[1],true,[s0]⟩:=by rw [e4 p hpn (by rw [hq];exact hqp),hf]
 refine ⟨s',h2',by rw [happ];exact e1,hp2,ownB s', ?_, ?_⟩
 ·have hsp:ownB s' ≠ some p:=by
   intro h
   rcases e5 p h with e | e
   ·rw [hq] at e;exact hqp e
   ·omega
  refine ⟨by simp only [H.set];omega,s',rfl,hsp,by simp [H.set],e2.keep (Nat.le_refl _) fun b hb=>?_⟩
  have:b ≠ p:=by rintro rfl;exact hsp hb
  simp [H.set,this]
 ·refine ⟨by simp only [H.set];omega,fun b hb hbp hbq=>?_, ?_⟩
  ·simp only [H.set]
   rw [if_neg hbp,e4 b hb (by rw [hq];exact hbq)]
  ·cases hos:ownB s' with
   | none =>
    cases hq0:q with
    | none=>exact .inl rfl
    | some b =>
     exfalso
     rw [hq0] at hq
     cases s' <;> simp only [Owns,ownB,reduceCtorEq] at e2 hos
     ·-- nil again: nothing was there
      cases s0 <;> simp only [Owns,ownB,reduceCtorEq] at ho hq
      rename_i bb v o n s' c
      obtain ⟨rfl,rfl,rfl,hcl,_⟩:=ho
      have hx0:x = []:=by
       simp only [List.map_eq_nil_iff,List.append_eq_nil_iff] at e2
       exact e2.2
      subst hx0
      simp [appendL] at e1
   | some b =>
    rcases e5 b hos with e | e
    ·rw [hq] at e;exact .inl e.symm
    ·exact .inr ⟨b,rfl,e⟩
theorem ws_append {P:Program} {t el:Nat} (ht:P.underlying t = some (.slice el)) (h1:elemT P t = some el) (h2:sizeT P el = some 1) (h3:bytesT P el = some 1) {h0 h:H} {q0:Option Nat} {p:Nat} {l:BL} {kept:List (Nat × Blk)} (w:WS h0 q0 h p l kept) {a:AS} {x:BL}
  (hln:lenS a = some x.length) (he:elemsOf h 1 x.length a = some (x.map byteS)) (hlen:l.length + x.length ≤ 1099511627776) :
  ∃ s s' h2,h.f p = some ⟨0,[1],true,[s]⟩∧appendA P t t h s a = some (s',h2)∧h2.f p = some ⟨0,[1],true,[s]⟩∧WS h0 q0 (h2.set p ⟨0,[1],true,[s']⟩) p (l++x) kept∧keptP (h2.set p ⟨0,[1],true,[s']⟩) kept:=by
 obtain ⟨q,w,g,hkp,hd⟩:=w
 obtain ⟨s,hq,hqp,hf,ho⟩:=w.2
 obtain ⟨s',h2,e1,e2,q',w',g'⟩:=wr_append ht h1 h2 h3 w hf hln he hlen
 have hkp':keptP (h2.set p ⟨0,[1],true,[s']⟩) kept:=keptP_same (fun e he=>g'.keep _ (hd e he).1 (hd e he).2.1 (hd e he).2.2) hkp
 refine ⟨s,s',h2,hf,e1,e2,⟨q',w',g.trans g',hkp',fun e he=>⟨Nat.lt_of_lt_of_le (hd e he).1 g'.next,(hd e he).2.1, ?_⟩⟩,hkp'⟩
 rcases g'.own with e1 | ⟨b,e1,hb⟩
 ·rw [e1];exact (hd e he).2.2
 ·rw [e1];intro hc
  have:=(hd e he).1
  simp only [oqI] at hc;omega
def idx {α:Type} (p:α→Bool) (l:List α):Int:=match l.findIdx? p with | some i=>i | none=>-1
theorem idx_hit {α:Type} {p:α→Bool} {a:List α} {x:α} {r:List α} (ha:∀ y ∈ a,p y = false) (hx:p x = true):idx p (a++x::r) = a.length:=by
 unfold idx
 have:(a++x::r).findIdx? p = some a.length:=by
  induction a with
  | nil=>simp [List.findIdx?_cons,hx]
  | cons y a ih =>
   rw [List.cons_append,List.findIdx?_cons,ha y (by simp)]
   simp [ih fun z hz=>ha z (by simp [hz])]
 rw [this]
theorem idx_miss {α:Type} {p:α→Bool} {a:List α} (ha:∀ y ∈ a,p y = false):idx p a = -1:=by
 unfold idx
 have:a.findIdx? p = none:=by
  induction a with
  | nil=>rfl
  | cons y a ih =>
   rw [List.findIdx?_cons,ha y (by simp)]
   simp [ih fun z hz=>ha z (by simp [hz])]
 rw [this]
theorem idx_any {α:Type} (p:α→Bool) (l:List α):decide (0 ≤ idx p l) = l.any p:=by
 unfold idx
 cases h:l.findIdx? p with
 | none =>
  rw [List.findIdx?_eq_none_iff] at h
  simp only [Int.reduceNeg,Int.reduceLE,decide_false]
  symm;rw [List.any_eq_false];intro x hx;simp [h x hx]
 | some i =>
  rw [List.findIdx?_eq_some_iff_getElem] at h
  obtain ⟨hi,hp,_⟩:=h
  have:l.any p = true:=List.any_eq_true.2 ⟨l[i],List.getElem_mem hi,hp⟩
  simp [this]
theorem ls_cons {α:Type} {o:Option (List α)} {a:List α} {x:α} {r:List α} (h:ls o = a++x::r):o = some (a++x::r):=by
 cases o with
 | none=>simp at h
 | some l=>simp only [ls_some] at h;rw [h]
theorem step_len {α:Type} {a:List α} {x:α}:((a++[x]).length:Int) = (a.length:Int) + 1:=by simp
theorem step_wrap {n:Nat} (h:n < 9223372036854775807):IntKind.i64.wrap ((n:Int) + 1) = (n:Int) + 1:=wrap_i64 (by omega) (by omega)
theorem ex_get {L:Fr} {F:(Nat→AV)→Fr} {P:Prop} (h:L = F (Fr.get L)) (hp:P):∃ j,L = F j∧P:=⟨_,h,hp⟩
theorem ex_get' {L:Fr} {F:(Nat→AV)→Fr} (h:L = F (Fr.get L)):∃ j,L = F j:=⟨_,h⟩
theorem does_each {C:Conf} (hp:PrimOk C) {α:Type} {b:Code} {Q:Ex→Fr→H→Prop} (l:List α) (I:List α→List α→Fr→H→Prop)
  (step:∀ a x r fr h,l = a++x::r→I a (x::r) fr h→Does C b fr h fun e fr' h'=>match e with | .normal=>I (a++[x]) r fr' h' | e=>Q e fr' h')
  (stop:∀ fr h,I l [] fr h→Does C b fr h fun e fr' h'=>match e with | .normal=>False | e=>Q e fr' h') :
  ∀ fr h,I [] l fr h→Does C (.loop b) fr h Q:=by
 intro fr h hi
 refine does_loop hp (fun n fr h=>∃ a r,l = a++r∧n = r.length∧I a r fr h) ?_ l.length fr h ⟨[],l,rfl,rfl,hi⟩
 rintro n fr h ⟨a,r,hl,hn,hi⟩
 cases r with
 | nil =>
  rw [List.append_nil] at hl
  subst hl
  refine (stop fr h hi).mono fun e fr' h' hx=>?_
  cases e with
  | normal=>exact hx.elim
  | _=>exact hx
 | cons x r =>
  refine (step a x r fr h hl hi).mono fun e fr' h' hx=>?_
  cases e with
  | normal=>exact ⟨r.length,by rw [hn];simp,a++[x],r,by rw [hl];simp,rfl,hx⟩
  | _=>exact hx
theorem does_count {C:Conf} (hp:PrimOk C) {b:Code} {Q:Ex→Fr→H→Prop} (n:Nat) (I:Nat→Fr→H→Prop)
  (step:∀ i fr h,i < n→I i fr h→Does C b fr h fun e fr' h'=>match e with | .normal=>I (i + 1) fr' h' | e=>Q e fr' h')
  (stop:∀ fr h,I n fr h→Does C b fr h fun e fr' h'=>match e with | .normal=>False | e=>Q e fr' h') :
  ∀ fr h,I 0 fr h→Does C (.loop b) fr h Q:=by
 intro fr h hi
 refine does_loop hp (fun k fr h=>∃ i,i ≤ n∧k = n - i∧I i fr h) ?_ n fr h ⟨0,by omega,rfl,hi⟩
 rintro k fr h ⟨i,hin,hk,hi⟩
 by_cases hlt:i < n
 ·refine (step i fr h hlt hi).mono fun e fr' h' hx=>?_
  cases e with
  | normal=>exact ⟨n - (i + 1),by omega,i + 1,by omega,rfl,hx⟩
  | _=>exact hx
 ·have:i = n:=by omega
  subst this
  refine (stop fr h hi).mono fun e fr' h' hx=>?_
  cases e with
  | normal=>exact hx.elim
  | _=>exact hx
end Go.Ab
namespace Go.Ab
section
variable {α:Type}
def opt:List α→Option (List α)
 | []=>none
 | a::l=>some (a::l)
@[simp] theorem ls_opt (l:List α):ls (opt l) = l:=by cases l <;> rfl
@[simp] theorem opt_nil:opt ([]:List α) = none:=rfl
theorem opt_ne {l:List α} (h:l ≠ []):opt l = some l:=by cases l with | nil=>exact absurd rfl h | cons a l=>rfl
@[simp] theorem cat_nil (enc:α→List AS):cat enc [] = []:=rfl
theorem cat_snoc (enc:α→List AS) (l:List α) (x:α):cat enc (l++[x]) = cat enc l++enc x:=by simp [cat]
theorem cat_cons (enc:α→List AS) (l:List α) (x:α):cat enc (x::l) = enc x++cat enc l:=rfl
theorem cat_app (enc:α→List AS) (l m:List α):cat enc (l++m) = cat enc l++cat enc m:=by simp [cat]
def Grown (h:H) (size:Nat) (enc:α→List AS) (s:AS) (l:List α):Prop:=Owns h size s (cat enc l)∧(l = []→s = .nilslc)
theorem grown_nil (h:H) (size:Nat) (enc:α→List AS):Grown h size enc .nilslc []:=⟨rfl,fun _=>rfl⟩
theorem Grown.keep {h h':H} {size:Nat} {enc:α→List AS} {s:AS} {l:List α} (g:Grown h size enc s l) (hn:h.next ≤ h'.next) (hf:∀ b,ownB s = some b→h'.f b = h.f b):Grown h' size enc s l:=⟨g.1.keep hn hf,g.2⟩
theorem Grown.new {h:H} {size:Nat} {enc:α→List AS} {s:AS} {l:List α} (g:Grown h size enc s l) (k:Blk):Grown (h.new k) size enc s l:=⟨g.1.new k,g.2⟩
theorem owns_lt {h:H} {size:Nat} {s:AS} {cells:List AS} (o:Owns h size s cells) {b:Nat} (hb:ownB s = some b):b < h.next:=by
 cases s <;> simp only [Owns,ownB,reduceCtorEq] at o hb
 cases hb;exact o.2.2.2.2.1
theorem grow_one {P:Program} {t el size bytes:Nat} (ht:P.underlying t = some (.slice el)) (h1:elemT P t = some el) (h2:sizeT P el = some size) (h3:bytesT P el = some bytes) (h0:0 < size) {enc:α→List AS} (he:∀ x,(enc x).length = size)
  {h:H} {s:AS} {l:List α} (g:Grown h size enc s l) (x:α) (hlim:(l.length + 1 + 600) * bytes + (l.length + 1) ≤ limit) {cells:List AS} (hc:cells = enc x) :
  ∃ s' h2,appendA P t t (h.new ⟨0,[size],true,cells⟩) s (.slc h.next 0 0 1 size none) = some (s',h2)∧Grown h2 size enc s' (l++[x])∧h.next ≤ h2.next∧(∀ b,b < h.next→ownB s ≠ some b→h2.f b = h.f b)∧(∀ b,ownB s' = some b→ownB s = some b ∨ h.next ≤ b):=by
 subst hc
 have go:=g.1.new ⟨0,[size],true,enc x⟩
 have hel:elemsOf (h.new ⟨0,[size],true,enc x⟩) size 1 (.slc h.next 0 0 1 size none) = some (enc x):=by
  simp [elemsOf]
  unfold sub
  rw [if_pos (by rw [he];omega),List.drop_zero,← he x,List.take_length]
 obtain ⟨s',h2',e1,e2,e3,e4,e5,e6⟩:=append_own (bytes:=bytes) (m:=1) (new:=enc x) (n:=l.length) go h0 (flat_length he l) (by omega) (by rw [he];omega) hlim
 refine ⟨s',h2', ?_,⟨by rw [cat_snoc];exact e2,fun hl=>by simp at hl⟩,by simp at e3;omega,fun b hb hs=>?_,fun b hb=>?_⟩
 ·rw [append_slice (x:=.slc h.next 0 0 1 size none) h1 h2 h3 ht rfl hel];exact e1
 ·rw [e4 b (by simp;omega) hs,new_at,if_neg (by omega)]
 ·rcases e5 b hb with e | e
  ·exact .inl e
  ·simp at e;exact .inr (by omega)
theorem owns_frz {st:Bool} {h:H} {size:Nat} {s:AS} {cells:List AS} {n:Nat} (o:Owns h size s cells) (hp:pureL st cells = true):frzS st h (n + 2) s = some (match s with | .slc _ _ _ k _ _=>.vs k size cells | x=>x):=by
 cases s <;> simp only [Owns] at o
 ·simp only [frzS,pureS,if_true]
 ·rename_i b v oo k s' c
  obtain ⟨rfl,rfl,rfl,hl,hb,B,h1,h2,h3,h4⟩:=o
  have hr:readC h (.ptr b v 0) (k * s') = some cells:=by
   simp only [readC,h1,h3,oqE,oqS,Nat.zero_add]
   rw [if_pos (by omega)]
   unfold sub
   rw [h4,if_pos (by omega),List.drop_zero,← hl,List.take_length]
  simp only [frzS,hr,oqE,oqS,mapM_pure hp]
theorem grown_frz {st:Bool} {h:H} {size:Nat} {enc:α→List AS} {s:AS} {l:List α} (he:∀ x,(enc x).length = size) (h0:0 < size) (g:Grown h size enc s l) (hp:pureL st (cat enc l) = true):frzS st h 64 s = some (sl size enc (opt l)):=by
 rw [owns_frz (n:=62) g.1 hp]
 have hl:=flat_length he l
 have o:=g.1
 cases s <;> simp only [Owns] at o
 ·have:l = []:=by
   rw [o] at hl
   simp only [List.length_nil] at hl
   rcases Nat.mul_eq_zero.1 hl.symm with e | e
   ·exact List.eq_nil_of_length_eq_zero e
   ·omega
  subst this;rfl
 ·rename_i b v oo k s' c
  have hne:l ≠ []:=fun e=>by have:=g.2 e;cases this
  have hk:k = l.length:=by
   obtain ⟨_,rfl,_,hl2,_⟩:=o
   rw [hl] at hl2
   exact (Nat.eq_of_mul_eq_mul_right h0 hl2).symm
  simp only [opt_ne hne,sl,hk]
theorem cat_pure {st:Bool} {enc:α→List AS} (l:List α) (hp:∀ x,pureL st (enc x) = true):pureL st (cat enc l) = true:=pureL_flat l fun x _=>hp x
end
end Go.Ab
namespace Go.Ab
def Byt (h:H) (s:AS) (l:BL):Prop:=Owns h 1 s (l.map byteS)∧pureS false s = false
theorem view_pureL {h:H} {n:Nat}:∀ {l:List AS},pureL false l = true→(∀ a ∈ l,(∀ f x c,a ≠ .fn f x c)∧∀ t v,a ≠ .ifc t v)→l.mapM (viewS h (n + 1)) = some l
 | [],_,_=>rfl
 | a::l,hp,hn=>by
  simp only [pureL,Bool.and_eq_true] at hp
  have h1:=hn a (by simp)
  simp only [List.mapM_cons,viewS_pure hp.1 h1.1 h1.2,view_pureL hp.2 (fun b hb=>hn b (by simp [hb])),oqE,oqS,oqP]
structure OS (h:H) (s:AS) (l:BL) (kept:List (Nat × Blk)):Prop where
 byt:Byt h s l
 kp:keptP h kept
 ok:∀ e ∈ kept,e.1 < h.next∧ownB s ≠ some e.1
theorem Byt.new {h:H} {s:AS} {l:BL} (o:Byt h s l) (k:Blk):Byt (h.new k) s l:=⟨o.1.new k,o.2⟩
theorem Byt.lt {h:H} {s:AS} {l:BL} (o:Byt h s l) {b:Nat} (hb:ownB s = some b):b < h.next:=owns_lt o.1 hb
theorem OS.new {h:H} {s:AS} {l:BL} {kept:List (Nat × Blk)} (w:OS h s l kept) (k:Blk):OS (h.new k) s l ((h.next,k)::kept) where
 byt:=w.byt.new k
 kp:=⟨by simp,keptP_same (fun e he=>by rw [new_at,if_neg (by have:=(w.ok e he).1;omega)]) w.kp⟩
 ok e he:=by
  rcases List.mem_cons.1 he with rfl | he
  ·exact ⟨by simp,fun hb=>by have:=w.byt.lt hb;simp only at this;omega⟩
  ·have:=w.ok e he;exact ⟨by simp only [new_next];omega,this.2⟩
theorem byt_made (h:H) (l:BL) (x:Bool):Byt (h.new (blkOf (l.map byteS) x)) (.slc h.next 0 0 l.length 1 none) l:=⟨owns_made h 1 l.length _ x (by simp),rfl⟩
theorem OS.made (h:H) (l:BL) (x:Bool) (kept:List (Nat × Blk)) (hk:keptP h kept) (hl:∀ e ∈ kept,e.1 < h.next):OS (h.new (blkOf (l.map byteS) x)) (.slc h.next 0 0 l.length 1 none) l kept where
 byt:=byt_made h l x
 kp:=keptP_same (fun e he=>by rw [new_at,if_neg (by have:=hl e he;omega)]) hk
 ok e he:=⟨by have:=hl e he;simp only [new_next];omega,fun hb=>by simp only [ownB,oqI] at hb;have:=hl e he;omega⟩
@[simp] theorem view_bs (h:H) (o:Option BL) (n:Nat):viewS h (n + 1) (bs o) = some (bs o):=viewS_pure (by simp) (by cases o <;> simp [bs_none,bs_some]) (by cases o <;> simp [bs_none,bs_some])
end Go.Ab
namespace Go.Ab
def Rets (P:AV→H→Prop):CR→Prop
 | .ret v h=>P v h
 | .pan _ _=>False
theorem Rets.ret {P:AV→H→Prop} {r:CR} (e:Rets P r):∃ v h,r = .ret v h∧P v h:=by
 cases r with
 | ret v h=>exact ⟨v,h,rfl,e⟩
 | pan v h=>exact e.elim
theorem Rets.intro {C:Conf} {f:Nat} {args:List AV} {h:H} {P:AV→H→Prop} (k:∀ P':AV→H→Prop,(∀ v h,P v h→P' v h)→∃ r,W C f args h = some r∧Rets P' r):∃ r,W C f args h = some r∧Rets P r:=k P fun _ _ h=>h
@[simp] theorem rets_ret (P:AV→H→Prop) (v:AV) (h:H):Rets P (.ret v h) = P v h:=rfl
section
variable (P:Program) (cmp:Nat→Option (List AS)) (fr:Fr) (h:H) (d:Option Nat) (ty:TypeId) (pos:String) (af:Array Edge) (g:Option (Nat × Bool))
def strIx (u:TypeDesc) (a:AS) (n:Nat) (h:H):Option OR:=match u,a with | .string,.str s=>(s[n]?).bind fun b=>some (one (byteS b) h) | _,_=>none
@[simp] theorem strIx_str (s:List UInt8) (n:Nat):strIx .string (.str s) n h = (s[n]?).bind fun b=>some (one (byteS b) h):=rfl
@[simp] theorem sop_index (t:TypeId) (x i:Operand):opA P cmp fr h ⟨d,.index t x i,ty,pos,af,g⟩ = (P.underlying t).bind fun u=>(evS fr x).bind fun a=>(evS fr i).bind fun j=>(natOf j).bind fun n=>strIx u a n h:=by
 simp only [opA,oqE]
 congr 1;funext u
 cases evS fr x with
 | none=>cases u <;> rfl
 | some a=>cases evS fr i with
  | none=>cases u <;> cases a <;> rfl
  | some j =>
   cases hj:natOf j with
   | none=>cases u <;> cases a <;> simp [hj]
   | some n=>cases u <;> cases a <;> simp [strIx,hj]
end
theorem lay_full {l new:List AS} (hl:new.length = l.length):lay l 0 new = new:=by simp [lay,hl]
theorem sub_part {l m:List AS} {a k o n:Nat} (h:sub l a k = some m) (ho:o + n ≤ k):sub l (a + o) n = sub m o n:=by
 unfold sub at h ⊢
 split at h
 ·rename_i hle
  simp only [oqI] at h
  subst h
  rw [if_pos (by omega),if_pos (by simp;omega),List.drop_take,List.take_take,List.drop_drop,Nat.min_eq_left (by omega)]
 ·cases h
section
variable {α:Type}
def Arr (h:H) (enc:α→List AS) (b v:Nat) (l:List α) (z:List AS):Prop:=b < h.next∧∃ fx ex,h.f b = some ⟨v,(cat enc l++z).length::ex,fx,cat enc l++z⟩
theorem Arr.keep {h h':H} {enc:α→List AS} {b v:Nat} {l:List α} {z:List AS} (a:Arr h enc b v l z) (hn:h.next ≤ h'.next) (hf:h'.f b = h.f b):Arr h' enc b v l z:=⟨by have:=a.1;omega,by rw [hf];exact a.2⟩
theorem Arr.new {h:H} {enc:α→List AS} {b v:Nat} {l:List α} {z:List AS} (a:Arr h enc b v l z) (k:Blk):Arr (h.new k) enc b v l z:=a.keep (by simp) (by have:=a.1;rw [new_at,if_neg (by omega)])
theorem arr_index {P:Program} {t u size:Nat} (ht:P.underlying t = some (.slice u)) (hu:sizeT P u = some size) (h0:0 < size) {b v n i:Nat} (hi:i < n):indexA P t (.slc b v 0 n size none) i = some (.ptr b v (i * size)):=by
 simp only [indexA,ht,hu,oqE,oqS]
 rw [if_pos ⟨trivial,h0,hi⟩,Nat.zero_add]
theorem split_at {l:List α} {i:Nat} (hi:i < l.length):l = l.take i++l[i]::l.drop (i + 1):=by rw [List.getElem_cons_drop,List.take_append_drop]
theorem arr_read {size:Nat} {enc:α→List AS} (he:∀ x,(enc x).length = size) {h:H} {b v:Nat} {l:List α} {z:List AS} (a:Arr h enc b v l z) {i:Nat} (hi:i < l.length):readC h (.ptr b v (i * size)) size = some (enc l[i]):=by
 obtain ⟨_,fx,ex,hf⟩:=a
 have hl:=flat_length he l
 have hle:i * size + size ≤ l.length * size:=by rw [← Nat.succ_mul];exact Nat.mul_le_mul_right _ hi
 simp only [read_ptr,hf,oqS,Blk.ext,Nat.le_refl,if_true,Nat.sub_self,List.getElem?_cons_zero]
 rw [if_pos (by rw [List.length_append,hl];omega)]
 unfold sub
 rw [if_pos (by rw [List.length_append,hl];omega)]
 have h2:(cat enc (l.take i)).length = i * size:=by rw [flat_length he,List.length_take,Nat.min_eq_left (by omega)]
 have h3:cat enc l++z = cat enc (l.take i)++(enc l[i]++(cat enc (l.drop (i + 1))++z)):=by
  conv=>lhs;rw [split_at hi,cat_app,cat_cons]
  simp
 rw [h3,← h2,List.drop_left,← he l[i],List.take_left]
theorem arr_write {size:Nat} {enc:α→List AS} (he:∀ x,(enc x).length = size) {h:H} {b v:Nat} {l:List α} {z:List AS} (a:Arr h enc b v l z) {i:Nat} (hi:i < l.length) (x:α) :
  ∃ k,writeC h (.ptr b v (i * size)) (enc x) = some (h.set b k)∧Arr (h.set b k) enc b v (l.set i x) z:=by
 obtain ⟨hb,fx,ex,hf⟩:=a
 have hl:=flat_length he l
 have hle:i * size + size ≤ l.length * size:=by rw [← Nat.succ_mul];exact Nat.mul_le_mul_right _ hi
 have h2:(cat enc (l.take i)).length = i * size:=by rw [flat_length he,List.length_take,Nat.min_eq_left (by omega)]
 have h3:cat enc l++z = cat enc (l.take i)++(enc l[i]++(cat enc (l.drop (i + 1))++z)):=by
  conv=>lhs;rw [split_at hi,cat_app,cat_cons]
  simp
 have h4:lay (cat enc l++z) (i * size) (enc x) = cat enc (l.set i x)++z:=by
  have h5:l.set i x = l.take i++x::l.drop (i + 1):=by rw [List.set_eq_take_append_cons_drop,if_pos hi]
  unfold lay
  rw [h5,cat_app,cat_cons,h3,← h2,List.take_left,← List.drop_drop,List.drop_left,he x,← he l[i],List.drop_left]
  simp
 refine ⟨⟨v,[(cat enc l++z).length],fx,lay (cat enc l++z) (i * size) (enc x)⟩, ?_,by simpa using hb,fx,[], ?_⟩
 ·simp only [write_ptr,hf,oqS,Blk.ext,Nat.le_refl,if_true,Nat.sub_self,List.getElem?_cons_zero]
  rw [if_pos ⟨trivial,by rw [he,List.length_append,hl];omega,trivial⟩]
 ·simp only [set_at,if_true]
  rw [h4]
  have:(cat enc l++z).length = (cat enc (l.set i x)++z).length:=by simp [flat_length he]
  rw [this]
theorem arr_cut {enc:α→List AS} {h:H} {b v:Nat} {l m:List α} {z:List AS} (a:Arr h enc b v (l++m) z):Arr h enc b v l (cat enc m++z):=by
 obtain ⟨hb,fx,ex,hf⟩:=a
 refine ⟨hb,fx,ex, ?_⟩
 rw [hf,cat_app,List.append_assoc]
theorem arr_tail {size:Nat} {enc:α→List AS} (he:∀ x,(enc x).length = size) {h:H} {b v:Nat} {l:List α} {z c:List AS} (a:Arr h enc b v l z) (hc:c.length ≤ z.length) :
  ∃ k,writeC h (.ptr b v (l.length * size)) c = some (h.set b k)∧Arr (h.set b k) enc b v l (c++z.drop c.length):=by
 obtain ⟨hb,fx,ex,hf⟩:=a
 have hl:=flat_length he l
 have h4:lay (cat enc l++z) (l.length * size) c = cat enc l++(c++z.drop c.length):=by
  unfold lay
  rw [← hl,List.take_left,← List.drop_drop,List.drop_left]
 refine ⟨⟨v,[(cat enc l++z).length],fx,lay (cat enc l++z) (l.length * size) c⟩, ?_,by simpa using hb,fx,[], ?_⟩
 ·simp only [write_ptr,hf,oqS,Blk.ext,Nat.le_refl,if_true,Nat.sub_self,List.getElem?_cons_zero]
  rw [if_pos ⟨trivial,by rw [List.length_append,hl];omega,trivial⟩]
 ·simp only [set_at,if_true]
  rw [h4]
  have:(cat enc l++z).length = (cat enc l++(c++z.drop c.length)).length:=by simp;omega
  rw [this]
theorem arr_behind {size:Nat} {enc:α→List AS} (he:∀ x,(enc x).length = size) {h:H} {b v:Nat} {l m:List α} {z:List AS} (a:Arr h enc b v (l++m) z):readC h (.ptr b v (l.length * size)) (m.length * size) = some (cat enc m):=by
 obtain ⟨_,fx,ex,hf⟩:=a
 have hl:=flat_length he l
 have hm:=flat_length he m
 simp only [read_ptr,hf,oqS,Blk.ext,Nat.le_refl,if_true,Nat.sub_self,List.getElem?_cons_zero,cat_app]
 rw [if_pos (by simp [hl,hm] <;> omega)]
 unfold sub
 rw [if_pos (by simp [hl,hm] <;> omega),List.append_assoc,← hl,List.drop_left,← hm,List.take_left]
theorem Arr.cells {size:Nat} {enc:α→List AS} (he:∀ x,(enc x).length = size) {h:H} {b v:Nat} {l:List α} {z:List AS} (a:Arr h enc b v l z):∃ fx ex M,h.f b = some ⟨v,M.length::ex,fx,M⟩∧M = cat enc l++z∧l.length * size ≤ M.length ∧
  (∀ i (hi:i < l.length),i * size + size ≤ M.length∧sub M (i * size) size = some (enc l[i])) ∧
  (∀ h' i x,i < l.length→b < h'.next→h'.f b = some ⟨v,[M.length],fx,lay M (i * size) (enc x)⟩→Arr h' enc b v (l.set i x) z):=by
 have a0:=a
 obtain ⟨hb,fx,ex,hf⟩:=a
 have hl:=flat_length he l
 have hle:∀ i,i < l.length→i * size + size ≤ (cat enc l++z).length:=by
  intro i hi
  have:i * size + size ≤ l.length * size:=by rw [← Nat.succ_mul];exact Nat.mul_le_mul_right _ hi
  rw [List.length_append,hl];omega
 refine ⟨fx,ex,_,hf,rfl,by rw [List.length_append,hl];omega,fun i hi=>⟨hle i hi, ?_⟩,fun h' i x hi hb' hf'=>⟨hb',fx,[], ?_⟩⟩
 ·have:=arr_read he a0 hi
  simp only [read_ptr,hf,oqS,Blk.ext,Nat.le_refl,if_true,Nat.sub_self,List.getElem?_cons_zero] at this
  rwa [if_pos (hle i hi)] at this
 ·obtain ⟨k,hw,h1,fx',ex',ha⟩:=arr_write he a0 hi x
  simp only [write_ptr,hf,oqS,Blk.ext,Nat.le_refl,if_true,Nat.sub_self,List.getElem?_cons_zero] at hw
  rw [if_pos ⟨trivial,by rw [he];exact hle i hi,trivial⟩] at hw
  simp only [oqI] at hw
  have h2:(h.set b k).f b = some ⟨v,[(cat enc l++z).length],fx,lay (cat enc l++z) (i * size) (enc x)⟩:=by rw [← hw];simp
  rw [hf',← h2,ha]
  have h3:=h2
  rw [ha] at h3
  simp only [oqI,Blk.mk.injEq,List.cons.injEq,true_and] at h3
  rw [h3.1.2,h3.2.1]
def Sl (h:H) (size:Nat) (enc:α→List AS) (s:AS) (l:List α):Prop:=(s = .nilslc∧l = []) ∨ ∃ b v z,s = .slc b v 0 l.length size none∧Arr h enc b v l z
theorem Sl.keep {h h':H} {size:Nat} {enc:α→List AS} {s:AS} {l:List α} (a:Sl h size enc s l) (hn:h.next ≤ h'.next) (hf:∀ b,ownB s = some b→h'.f b = h.f b):Sl h' size enc s l:=by
 rcases a with ⟨rfl,rfl⟩ | ⟨b,v,z,rfl,a⟩
 ·exact .inl ⟨rfl,rfl⟩
 ·exact .inr ⟨b,v,z,rfl,a.keep hn (hf b rfl)⟩
theorem Sl.lt {h:H} {size:Nat} {enc:α→List AS} {s:AS} {l:List α} (a:Sl h size enc s l) {b:Nat} (hb:ownB s = some b):b < h.next:=by
 rcases a with ⟨rfl,rfl⟩ | ⟨b,v,z,rfl,a⟩
 ·cases hb
 ·cases hb;exact a.1
theorem Sl.sees {h:H} {size:Nat} {enc:α→List AS} (he:∀ x,(enc x).length = size) {s:AS} {l:List α} (a:Sl h size enc s l):Sees h size s (cat enc l):=by
 rcases a with ⟨rfl,rfl⟩ | ⟨b,v,z,rfl,a⟩
 ·rfl
 ·refine ⟨rfl, ?_⟩
  have:=arr_behind (l:=[]) he a
  simpa using this
theorem Sl.len {h:H} {size:Nat} {enc:α→List AS} {s:AS} {l:List α} (a:Sl h size enc s l):lenS s = some l.length:=by
 rcases a with ⟨rfl,rfl⟩ | ⟨b,v,z,rfl,a⟩ <;> rfl
theorem arr_append {P:Program} {t el size bytes:Nat} (ht:P.underlying t = some (.slice el)) (h1:elemT P t = some el) (h2:sizeT P el = some size) (h3:bytesT P el = some bytes) (h0:0 < size) {enc:α→List AS} (he:∀ x,(enc x).length = size)
  {h:H} {s a:AS} {l m:List α} (w:Sl h size enc s l) (hs:lenS a = some m.length) (hel:elemsOf h size m.length a = some (cat enc m)) (hm:m ≠ []) (hlim:(l.length + m.length + 600) * bytes + (l.length + m.length) ≤ limit) :
  ∃ s' h',appendA P t t h s a = some (s',h')∧(∃ b v z,s' = .slc b v 0 (l++m).length size none∧Arr h' enc b v (l++m) z)∧h.next ≤ h'.next∧(∀ b,b < h.next→ownB s ≠ some b→h'.f b = h.f b)∧(∀ b,ownB s' = some b→ownB s = some b ∨ h.next ≤ b):=by
 rw [append_slice (x:=a) h1 h2 h3 ht hs hel]
 have hml:=flat_length he m
 have hll:=flat_length he l
 have hm0:m.length ≠ 0:=fun e=>hm (List.eq_nil_of_length_eq_zero e)
 have hmp:0 < m.length * size:=Nat.mul_pos (by omega) h0
 have hne:¬ ((cat enc m).length ≠ m.length * size ∨ size = 0):=by omega
 have made:Arr (h.new (blkOf (cat enc l++cat enc m) false)) enc h.next 0 (l++m) []:=by
  refine ⟨by simp,false,[], ?_⟩
  simp [blkOf,cat_app]
 have frame:∀ b,b < h.next→(h.new (blkOf (cat enc l++cat enc m) false)).f b = h.f b:=fun b hb=>new_f (by omega)
 rcases w with ⟨rfl,rfl⟩ | ⟨b,v,z,rfl,w⟩
 ·refine ⟨.slc h.next 0 0 m.length size none,h.new (blkOf (cat enc m) false), ?_,⟨h.next,0,[],by simp,by simpa using made⟩,by simp,fun b hb _=>by simpa using frame b hb,fun b hb=>?_⟩
  ·simp only [appendL,if_neg hne,if_neg hm0]
   rw [if_pos (by simpa using hlim)]
  ·simp only [ownB,oqI] at hb;right;omega
 ·obtain ⟨hb,fx,ex,hf⟩:=w
  have hrd:readC h (.ptr b v 0) (l.length * size) = some (cat enc l):=by
   have:=arr_behind (l:=[]) he (⟨hb,fx,ex,hf⟩:Arr h enc b v ([]++l) z)
   simpa using this
  have hlim':¬ limit < (l.length + m.length + 600) * bytes + (l.length + m.length):=by omega
  have hext:(⟨v,(cat enc l++z).length::ex,fx,cat enc l++z⟩:Blk).ext v = some (cat enc l++z).length:=by simp [Blk.ext]
  have hvr:¬ ((v:Nat) ≠ v ∨ (cat enc l++z).length ≠ (cat enc l++z).length):=by simp
  by_cases hfit:l.length * size + (cat enc m).length ≤ (cat enc l++z).length
  ·obtain ⟨k,hw,ha⟩:=arr_tail he (⟨hb,fx,ex,hf⟩:Arr h enc b v l z) (c:=cat enc m) (by rw [List.length_append,hll] at hfit;omega)
   refine ⟨.slc b v 0 (l.length + m.length) size none,h.set b k, ?_,⟨b,v,z.drop (cat enc m).length,by simp, ?_⟩,by simp,fun b' _ hb'=>?_,fun b' hb'=>.inl hb'⟩
   ·simp only [appendL,if_neg hne,if_neg hm0,if_neg hlim',hf,hext,hrd,oqE,oqS,Nat.zero_add,ne_eq,not_true_eq_false,if_false,hvr]
    rw [if_neg (by simp),if_pos hfit,hw];rfl
   ·obtain ⟨q1,q2,q3,q4⟩:=ha
    refine ⟨q1,q2,q3, ?_⟩
    rw [q4,cat_app,List.append_assoc]
   ·rw [set_at,if_neg (by rintro rfl;exact hb' rfl)]
  ·by_cases hx:fx = true
   ·refine ⟨.slc h.next 0 0 (l.length + m.length) size none,h.new (blkOf (cat enc l++cat enc m) false), ?_,⟨h.next,0,[],by simp,made⟩,by simp,fun b hb _=>frame b hb,fun b hb=>?_⟩
    ·simp only [appendL,if_neg hne,if_neg hm0,if_neg hlim',hf,hext,hrd,oqE,oqS,Nat.zero_add,ne_eq,not_true_eq_false,if_false,hvr]
     rw [if_neg (by simp),if_neg hfit,if_pos hx]
    ·simp only [ownB,oqI] at hb;right;omega
   ·by_cases hz:z = []
    ·subst hz
     refine ⟨.slc b (v + 1) 0 (l.length + m.length) size none,h.set b ⟨v + 1,((cat enc l++[]).length + (cat enc m).length)::((cat enc l++[]).length::ex),false,(cat enc l++[])++cat enc m⟩, ?_,⟨b,v + 1,[],by simp,by simpa using hb,false,(cat enc l++[]).length::ex, ?_⟩,by simp,fun b' _ hb'=>?_,fun b' hb'=>.inl hb'⟩
     ·simp only [appendL,if_neg hne,if_neg hm0,if_neg hlim',hf,hext,hrd,oqE,oqS,Nat.zero_add,ne_eq,not_true_eq_false,if_false,hvr]
      rw [if_neg (by simp),if_neg hfit,if_neg hx,if_pos trivial,if_pos (by simp [hll])]
     ·simp only [set_at,if_true,List.append_nil,cat_app,List.length_append]
     ·rw [set_at,if_neg (by rintro rfl;exact hb' rfl)]
    ·have hz0:z.length ≠ 0:=fun e=>hz (List.eq_nil_of_length_eq_zero e)
     refine ⟨.slc b (v + 1) 0 (l.length + m.length) size none,h.set b ⟨v + 1,[l.length * size + (cat enc m).length],false,(cat enc l++z).take (l.length * size)++cat enc m⟩, ?_,⟨b,v + 1,[],by simp,by simpa using hb,false,[], ?_⟩,by simp,fun b' _ hb'=>?_,fun b' hb'=>.inl hb'⟩
     ·simp only [appendL,if_neg hne,if_neg hm0,if_neg hlim',hf,hext,hrd,oqE,oqS,Nat.zero_add,ne_eq,not_true_eq_false,if_false,hvr]
      rw [if_neg (by simp),if_neg hfit,if_neg hx,if_pos trivial,if_neg (by simp [hll];omega)]
     ·simp only [set_at,if_true,List.append_nil,cat_app,List.length_append]
      rw [← hll,List.take_left]
     ·rw [set_at,if_neg (by rintro rfl;exact hb' rfl)]
theorem arr_erase {P:Program} {t el size bytes:Nat} (ht:P.underlying t = some (.slice el)) (h1:elemT P t = some el) (h2:sizeT P el = some size) (h3:bytesT P el = some bytes) (h0:0 < size) {enc:α→List AS} (he:∀ x,(enc x).length = size)
  {h:H} {b v:Nat} {l:List α} {z:List AS} (w:Arr h enc b v l z) {i:Nat} (hi:i < l.length) (hlim:(l.length + 600) * bytes + l.length ≤ limit) :
  ∃ h' z',appendA P t t h (.slc b v 0 i size none) (.slc b v ((i + 1) * size) (l.length - (i + 1)) size none) = some (.slc b v 0 (l.length - 1) size none,h')∧Arr h' enc b v (l.eraseIdx i) z'∧z'.length = size + z.length∧h'.next = h.next∧∀ x,x ≠ b→h'.f x = h.f x:=by
 obtain ⟨a,x,r,rfl,rfl⟩:∃ a x r,l = a++x::r∧a.length = i:=⟨l.take i,l[i],l.drop (i + 1),split_at hi,by simp;omega⟩
 have hn:(a++x::r).length - (a.length + 1) = r.length:=by simp <;> omega
 have hn1:(a++x::r).length - 1 = a.length + r.length:=by simp <;> omega
 have hll:(a++x::r).length = a.length + r.length + 1:=by simp <;> omega
 have her:(a++x::r).eraseIdx a.length = a++r:=by rw [List.eraseIdx_append_of_length_le (Nat.le_refl _)];simp
 rw [hn,hn1,her]
 rw [hll] at hlim
 have hw2:Arr h enc b v ((a++[x])++r) z:=by simpa using w
 have hel:elemsOf h size r.length (.slc b v ((a.length + 1) * size) r.length size none) = some (cat enc r):=by
  have:=arr_behind he hw2
  rw [List.length_append] at this
  simp only [elemsOf,Nat.le_refl,and_self,if_true]
  exact this
 rw [append_slice (x:=.slc b v ((a.length + 1) * size) r.length size none) h1 h2 h3 ht rfl hel]
 have ha:=flat_length he a
 have hr:=flat_length he r
 have hcut:Arr h enc b v a (cat enc (x::r)++z):=arr_cut w
 have hne:¬ ((cat enc r).length ≠ r.length * size ∨ size = 0):=by omega
 by_cases hr0:r = []
 ·subst hr0
  refine ⟨h,cat enc [x]++z, ?_,by simpa using hcut,by rw [List.length_append,flat_length he];simp,rfl,fun _ _=>rfl⟩
  simp only [appendL,if_neg hne]
  simp
 ·have hrl:r.length ≠ 0:=fun e=>hr0 (List.eq_nil_of_length_eq_zero e)
  obtain ⟨kb,hwr,har⟩:=arr_tail he hcut (c:=cat enc r) (by rw [cat_cons];simp;omega)
  have hcut2:=hcut
  obtain ⟨hb,fx,ex,hf⟩:=hcut
  have hrd:readC h (.ptr b v 0) (a.length * size) = some (cat enc a):=by
   have:=arr_behind (l:=[]) (m:=a) he (by simpa using hcut2)
   simpa using this
  have hext:(⟨v,(cat enc a++(cat enc (x::r)++z)).length::ex,fx,cat enc a++(cat enc (x::r)++z)⟩:Blk).ext v = some (cat enc a++(cat enc (x::r)++z)).length:=by simp [Blk.ext]
  have hfit:a.length * size + (cat enc r).length ≤ (cat enc a++(cat enc (x::r)++z)).length:=by rw [cat_cons];simp only [List.length_append];omega
  have hvr:¬ ((v:Nat) ≠ v ∨ (cat enc a++(cat enc (x::r)++z)).length ≠ (cat enc a++(cat enc (x::r)++z)).length):=by simp
  have hb1:(a.length + r.length + 600) * bytes ≤ (a.length + r.length + 1 + 600) * bytes:=Nat.mul_le_mul_right _ (by omega)
  have hlim':¬ limit < (a.length + r.length + 600) * bytes + (a.length + r.length):=by omega
  refine ⟨h.set b kb,(cat enc (x::r)++z).drop (cat enc r).length, ?_, ?_, ?_,rfl,fun y hy=>by rw [set_at,if_neg hy]⟩
  ·simp only [appendL,if_neg hne,if_neg hrl,if_neg hlim',hf,hext,hrd,oqE,oqS,Nat.zero_add,ne_eq,not_true_eq_false,if_false,hvr]
   rw [if_neg (by simp),if_pos hfit,hwr];rfl
  ·obtain ⟨q1,q2,q3,q4⟩:=har
   refine ⟨q1,q2,q3, ?_⟩
   rw [q4,cat_app,List.append_assoc]
  ·have hx:=he x
   rw [List.length_drop,cat_cons]
   simp only [List.length_append,hx]
   omega
end
end Go.Ab
namespace Go.Ab
theorem idx_cases {α:Type} (p:α→Bool) (l:List α):((∀ x ∈ l,p x = false)∧idx p l = -1) ∨ ∃ a x r,l = a++x::r∧(∀ y ∈ a,p y = false)∧p x = true:=by
 induction l with
 | nil=>left;exact ⟨by simp,rfl⟩
 | cons y l ih =>
  cases hy:p y
  ·rcases ih with ⟨h1,h2⟩ | ⟨a,x,r,h1,h2,h3⟩
   ·left
    have:∀ x ∈ y::l,p x = false:=by
     intro x hx
     rcases List.mem_cons.1 hx with rfl | hx
     ·exact hy
     ·exact h1 x hx
    exact ⟨this,idx_miss this⟩
   ·right
    refine ⟨y::a,x,r,by rw [h1];rfl, ?_,h3⟩
    intro z hz
    rcases List.mem_cons.1 hz with rfl | hz
    ·exact hy
    ·exact h2 z hz
  ·right;exact ⟨[],y,l,rfl,by simp,hy⟩
end Go.Ab
namespace Go.Ab
abbrev LayFn:=Unit
abbrev Prim:=(Nat→List AV→H→Option CR)→List AV→H→Option CR
def LayOk (_:Program) (_:Nat) (_:LayFn):Prop:=False
def layA (_:Conf) (_:LayFn):Prim:=fun _ _ _=>none
structure SeatK where
 P:Program
 ext:List (Nat × Ext)
 cmp:List Nat
 rd:Option (Nat × RdFn)
 lay:Option (Nat × LayFn)
 frz:List Nat
 own:List Nat
def extL:List (Nat × Ext)→Nat→Option Ext
 | [],_=>none
 | a::l,f=>bif Nat.beq f a.1 then some a.2 else extL l f
def memL:List Nat→Nat→Bool
 | [],_=>false
 | a::l,t=>bif Nat.beq t a then true else memL l t
def confK0 (S:SeatK):Conf:={ P:=S.P,ext:=extL S.ext,prim:=fun _=>none,frz:=fun _=>false,cmp:=fun t=>bif memL S.cmp t then flatAt S.P 8 t else none }
noncomputable def primR (S:SeatK) (f:Nat):Option Prim:=match S.rd with | some q=>bif Nat.beq f q.1 then some (readA (confK0 S) q.2) else none | none=>none
noncomputable def primY (S:SeatK) (f:Nat):Option Prim:=match S.lay with | some q=>bif Nat.beq f q.1 then some (layA (confK0 S) q.2) else none | none=>none
noncomputable def primK (S:SeatK) (f:Nat):Option Prim:=match primR S f with | some g=>some g | none=>primY S f
noncomputable def confK (S:SeatK):Conf:={ P:=S.P,ext:=extL S.ext,prim:=primK S,frz:=memL S.frz,cmp:=fun t=>bif memL S.cmp t then flatAt S.P 8 t else none,own:=memL S.own }
structure SeatKOk (S:SeatK):Prop where
 okT:OkT S.P
 mixed:S.P.follows .mixedOrders = true
 names:∀ (f:Nat) (fn:Func),S.P.funcs[f]? = some fn→fn.body.isSome = true→(fn.name == "runtime.NumGoroutine") = false
 ext:∀ q ∈ S.ext,ExtT S.P q.1 q.2
 cmp:∀ t ∈ S.cmp,(∃ fs,S.P.underlying t = some (.struct fs))∧S.P.eqGuardType S.P.depth t = false
 read:∀ q,S.rd = some q→ReadOk S.P q.1 q.2
 lay:∀ q,S.lay = some q→LayOk S.P q.1 q.2
section
variable {S:SeatK}
theorem extL_ok:∀ {l:List (Nat × Ext)} {f:Nat} {x:Ext},extL l f = some x→(f,x) ∈ l
 | [],f,x,h=>by cases h
 | a::l,f,x,h=>by
  rw [extL] at h
  cases hb:Nat.beq f a.1 with
  | true =>
   rw [hb] at h
   simp only [cond_true,oqI] at h
   have:=oqN hb
   subst h;subst this;simp
  | false=>rw [hb] at h;exact List.mem_cons_of_mem _ (extL_ok h)
theorem memL_ok:∀ {l:List Nat} {t:Nat},memL l t = true→t ∈ l
 | [],t,h=>by cases h
 | a::l,t,h=>by
  rw [memL] at h
  cases hb:Nat.beq t a with
  | true=>have:=oqN hb;subst this;simp
  | false=>rw [hb] at h;exact List.mem_cons_of_mem _ (memL_ok h)
theorem bif_inv {α:Type} {b:Bool} {x y:α} (h:(bif b then some x else none) = some y):b = true∧x = y:=by
 cases b with
 | true=>simp only [cond_true,oqI] at h;exact ⟨rfl,h⟩
 | false=>cases h
theorem primK_cases {f:Nat} {g:Prim} (h:primK S f = some g):(∃ q,S.rd = some q∧f = q.1∧g = readA (confK0 S) q.2) ∨ ∃ q,S.lay = some q∧f = q.1∧g = layA (confK0 S) q.2:=by
 unfold primK at h
 split at h
 ·rename_i g' hg
  simp only [oqI] at h;subst h
  unfold primR at hg
  split at hg
  ·rename_i q hq
   obtain ⟨h1,rfl⟩:=bif_inv hg
   exact .inl ⟨q,hq,oqN h1,rfl⟩
  ·cases hg
 ·unfold primY at h
  split at h
  ·rename_i q hq
   obtain ⟨h1,rfl⟩:=bif_inv h
   exact .inr ⟨q,hq,oqN h1,rfl⟩
  ·cases h
theorem confK_prim:PrimOk (confK S):=by
 refine ⟨fun f g h c d hl args hh r hr=>?_,fun f g h c w hm hw args hh r hr=>?_⟩
 ·rcases primK_cases h with ⟨q,_,_,rfl⟩ | ⟨q,_,_,rfl⟩
  ·exact readA_mono hl hr
  ·cases hr
 ·rcases primK_cases h with ⟨q,_,_,rfl⟩ | ⟨q,_,_,rfl⟩
  ·exact readA_c hm hw hr
  ·cases hr
theorem confK_cmp (h:SeatKOk S):∀ t z,(confK S).cmp t = some z→CmpT S.P t z:=by
 intro t z hz
 have hz':(bif memL S.cmp t then flatAt S.P 8 t else none) = some z:=hz
 cases hb:memL S.cmp t with
 | false=>rw [hb] at hz';cases hz'
 | true =>
  rw [hb,cond_true] at hz'
  obtain ⟨⟨fs,h3⟩,h4⟩:=h.cmp t (memL_ok hb)
  exact cmp_ok hz' h3 h4
theorem confK_ok (h:SeatKOk S):OkC (confK S):=by
 refine ⟨h.names,fun f x hx args hh r hr φ w cargs R ha=>?_,fun f g hg calls hc args hh r hr φ w cargs R ha=>?_⟩
 ·exact ext_ok (h.ext _ (extL_ok hx)) hr R ha
 ·rcases primK_cases hg with ⟨q,hq,rfl,rfl⟩ | ⟨q,hq,rfl,rfl⟩
  ·exact readA_ok (C:=confK0 S) h.okT (confK_cmp h) (h.read q hq) hc hr R ha
  ·exact (h.lay q hq).elim
theorem confK_W (h:SeatKOk S):CallsOk S.P (W (confK S)):=W_ok (C:=confK S) h.okT (confK_cmp h) (confK_ok h) confK_prim h.mixed
end
theorem i64_inv {a:AV} (h:FitA (false,[.int .i64]) a):∃ n:Int,-9223372036854775808 ≤ n∧n < 9223372036854775808∧a = .one (.int .i64 n):=by
 obtain ⟨x,c,h1,rfl,h2⟩:∃ x c,[CS.int .i64] = [c]∧a = .one x∧Fit c x:=by simpa [FitA] using h
 cases h1
 cases h2 with
 | int k n h3 h4 =>
  have h3':(-9223372036854775808:Int) ≤ n:=h3
  have h4':n ≤ 9223372036854775807:=h4
  exact ⟨n,h3',by omega,rfl⟩
theorem u8_inv {a:AV} (h:FitA (false,[.int .u8]) a):∃ b:UInt8,a = .one (byteS b):=by
 obtain ⟨x,c,h1,rfl,h2⟩:∃ x c,[CS.int .u8] = [c]∧a = .one x∧Fit c x:=by simpa [FitA] using h
 cases h1
 cases h2 with
 | int k n h3 h4 =>
  have h3':(0:Int) ≤ n:=h3
  have h4':n ≤ 255:=h4
  refine ⟨UInt8.ofNat n.toNat, ?_⟩
  simp only [byteS]
  congr 2
  rw [UInt8.toNat_ofNat',Nat.mod_eq_of_lt (by omega)];omega
theorem fit_cons {p:Bool × List CS} {ps:List (Bool × List CS)} {xs:List AV} (h:FitAL (p::ps) xs):∃ a xs',xs = a::xs'∧FitA p a∧FitAL ps xs':=by
 cases h with | cons _ a _ xs' h1 h2=>exact ⟨a,xs',rfl,h1,h2⟩
theorem fit_nil {xs:List AV} (h:FitAL [] xs):xs = []:=by cases h;rfl
theorem fitL_cons {c:CS} {cs:List CS} {l:List AS} (h:FitL (c::cs) l):∃ a r,l = a::r∧Fit c a∧FitL cs r:=by
 cases h with | cons _ a _ l h1 h2=>exact ⟨a,l,rfl,h1,h2⟩
theorem fitL_nil {l:List AS} (h:FitL [] l):l = []:=by cases h;rfl
theorem fit_agg {s:List CS} {a:AV} (h:FitA (true,s) a):∃ l,a = .agg l∧FitL s l:=by simpa [FitA] using h
theorem fit_one {c:CS} {a:AV} (h:FitA (false,[c]) a):∃ x,a = .one x∧Fit c x:=by
 obtain ⟨x,c',h1,rfl,h2⟩:∃ x c',[c] = [c']∧a = .one x∧Fit c' x:=by simpa [FitA] using h
 cases h1;exact ⟨x,rfl,h2⟩
theorem fit_i64 {x:AS} (h:Fit (.int .i64) x):∃ n:Int,(-9223372036854775808 ≤ n∧n < 9223372036854775808)∧x = .int .i64 n:=by
 cases h with
 | int k n h3 h4 =>
  have h3':(-9223372036854775808:Int) ≤ n:=h3
  have h4':n ≤ 9223372036854775807:=h4
  exact ⟨n,⟨h3',by omega⟩,rfl⟩
theorem fit_bool {x:AS} (h:Fit .bool x):∃ b,x = .bool b:=by cases h;exact ⟨_,rfl⟩
theorem fit_flt {x:AS} (h:Fit .flt x):∃ n:Nat,n < 2 ^ 64∧x = .flt n:=by cases h with | flt b h=>exact ⟨b,h,rfl⟩
theorem fit_str {x:AS} (h:Fit .str x):∃ s:List UInt8,s.length ≤ maxLen∧x = .str s:=by cases h with | str s h=>exact ⟨s,h,rfl⟩
theorem fit_sl {α:Type} {s:List CS} {enc:α→List AS} {ok:α→Prop} (hx:∀ l,FitL s l→∃ x,ok x∧l = enc x) {a:AS} (h:Fit (.slc s) a):∃ o:Option (List α),(ls o).length ≤ maxLen∧(∀ x ∈ ls o,ok x)∧a = sl s.length enc o:=by
 cases h with
 | nil=>exact ⟨none,Nat.zero_le _,by simp,rfl⟩
 | slc _ n k cells hk hn hc =>
  have key:∀ n cells,FitN s n cells→∃ l:List α,l.length = n∧(∀ x ∈ l,ok x)∧cells = cat enc l:=by
   intro n
   induction n with
   | zero=>intro cells hc;cases hc;exact ⟨[],rfl,by simp,rfl⟩
   | succ n ih =>
    intro cells hc
    cases hc with
    | succ _ _ a l h1 h2 =>
     obtain ⟨x,hx1,rfl⟩:=hx a h1
     obtain ⟨q,h3,h4,rfl⟩:=ih l h2
     refine ⟨x::q,by simp [h3], ?_,by simp [cat]⟩
     intro y hy
     rcases List.mem_cons.1 hy with rfl | hy
     ·exact hx1
     ·exact h4 y hy
  obtain ⟨l,h1,h2,rfl⟩:=key n cells hc
  refine ⟨some l,by simpa [h1] using hn,h2, ?_⟩
  simp only [sl,h1,hk]
theorem fit_bs {a:AS} (h:Fit (.slc [.int .u8]) a):∃ o:Option BL,(ls o).length ≤ maxLen∧a = bs o:=by
 have hx:∀ l,FitL [.int .u8] l→∃ x:UInt8,True∧l = [byteS x]:=by
  intro l hl
  obtain ⟨a,r,rfl,h1,h2⟩:=fitL_cons hl
  cases fitL_nil h2
  obtain ⟨b,hb⟩:=u8_inv (a:=.one a) (by show (if false = true then _ else _);rw [if_neg (by simp)];exact ⟨a,_,rfl,rfl,h1⟩)
  cases hb
  exact ⟨b,trivial,rfl⟩
 obtain ⟨o,h1,_,h3⟩:=fit_sl (enc:=fun b:UInt8=>[byteS b]) hx h
 exact ⟨o,h1,h3⟩
end Go.Ab
namespace Go.Ab
def insLL:List (Nat × InsFn)→Nat→Option InsFn
 | [],_=>none
 | a::l,f=>bif Nat.beq f a.1 then some a.2 else insLL l f
theorem insLL_ok:∀ {l:List (Nat × InsFn)} {f:Nat} {x:InsFn},insLL l f = some x→(f,x) ∈ l
 | [],f,x,h=>by cases h
 | a::l,f,x,h=>by
  rw [insLL] at h
  cases hb:Nat.beq f a.1 with
  | true =>
   rw [hb] at h
   simp only [cond_true,oqI] at h
   have:=oqN hb
   subst h;subst this;simp
  | false=>rw [hb] at h;exact List.mem_cons_of_mem _ (insLL_ok h)
def insP (F:InsFn):Prim:=fun _ args h=>insA F args h
def Conf.insK (C:Conf) (l:List (Nat × InsFn)):Conf:={ C with prim:=fun g=>match insLL l g with | some F=>some (insP F) | none=>C.prim g }
section
variable {C:Conf} {l:List (Nat × InsFn)}
theorem insK_cases {g:Nat} {p:Prim} (h:(C.insK l).prim g = some p):(∃ F,(g,F) ∈ l∧p = insP F) ∨ C.prim g = some p:=by
 simp only [Conf.insK] at h
 split at h
 ·rename_i F hF;cases h;exact .inl ⟨F,insLL_ok hF,rfl⟩
 ·exact .inr h
theorem insK_prim (hp:PrimOk C):PrimOk (C.insK l):=by
 refine ⟨fun g p h c d hl args hh r hr=>?_,fun g p h c w hm hw args hh r hr=>?_⟩
 ·rcases insK_cases h with ⟨F,_,rfl⟩ | h
  ·exact hr
  ·exact hp.mono g p h c d hl args hh r hr
 ·rcases insK_cases h with ⟨F,_,rfl⟩ | h
  ·exact ⟨0,hr⟩
  ·exact hp.cont g p h c w hm hw args hh r hr
def InsOk (P:Program) (l:List (Nat × InsFn)):Prop:=∀ q ∈ l,∃ ρ el info,InsLay P ρ q.1 el info∧el < P.types.size∧q.2 = ⟨info.size,info.bytes⟩
theorem insK_ok (hP:OkT C.P) (hO:OkC C) (hl:InsOk C.P l):OkC (C.insK l):=by
 refine ⟨hO.names,hO.ext,fun g p h calls hc args hh r hr φ w cargs R ha=>?_⟩
 rcases insK_cases h with ⟨F,hm,rfl⟩ | h
 ·obtain ⟨ρ,el,info,h1,h2,h3⟩:=hl _ hm
  exact insA_ok hP h1 h2 h3 hr R ha
 ·exact hO.prim g p h calls hc args hh r hr φ w cargs R ha
end
def iceL (a b:List Nat) (f:Nat):Option Bool:=bif memL a f then some true else bif memL b f then some false else none
end Go.Ab
namespace Go.Ab
noncomputable def viaP (w2:Calls') (f:Nat):Prim:=fun _ args h=>(w2 f args h).bind (iceR true h)
noncomputable def Conf.via (C:Conf) (fs:List Nat) (w2:Calls'):Conf:={ C with prim:=fun g=>match C.prim g with | some p=>some p | none=>bif memL fs g then some (viaP w2 g) else none }
section
variable {C:Conf} {fs:List Nat} {w2:Calls'}
theorem via_cases {g:Nat} {p:Prim} (h:(C.via fs w2).prim g = some p):p = viaP w2 g ∨ C.prim g = some p:=by
 simp only [Conf.via] at h
 split at h
 ·rename_i q hq;cases h;exact .inr hq
 ·exact .inl (bif_inv h).2.symm
theorem via_prim (hp:PrimOk C):PrimOk (C.via fs w2):=by
 refine ⟨fun g p h c d hl args hh r hr=>?_,fun g p h c w hm hw args hh r hr=>?_⟩
 ·rcases via_cases h with rfl | h
  ·exact hr
  ·exact hp.mono g p h c d hl args hh r hr
 ·rcases via_cases h with rfl | h
  ·exact ⟨0,hr⟩
  ·exact hp.cont g p h c w hm hw args hh r hr
theorem via_ok (hO:OkC C) (hw:CallsOk C.P w2):OkC (C.via fs w2):=by
 refine ⟨hO.names,hO.ext,fun g p h calls hc args hh r hr φ w cargs R ha=>?_⟩
 rcases via_cases h with rfl | h
 ·simp only [viaP,oqB] at hr
  obtain ⟨r0,h1,h2⟩:=hr
  exact iceR_call R h2 (hw g args hh r0 h1 φ w cargs R ha)
 ·exact hO.prim g p h calls hc args hh r hr φ w cargs R ha
end
theorem W_prim {C:Conf} (hp:PrimOk C) {f:Nat} {g:Prim} (hq:C.prim f = some g) (args:List AV) (h:H):W C f args h = g (W C) args h:=by
 rw [W_eq hp];unfold callF;rw [hq]
theorem frzP_pure {h:H}:∀ {l:List (Bool × List AS)},(l.all fun p=>pureL false p.2) = true→frzP false h l = some l
 | [],_=>rfl
 | p::l,hp=>by
  simp only [List.all_cons,Bool.and_eq_true] at hp
  simp only [frzP,mapM_frz64 hp.1,frzP_pure hp.2,oqE,oqS]
where
 mapM_frz64 {h:H} {l:List AS} (hp:pureL false l = true):l.mapM (frzS false h 64) = some l:=mapM_pure hp
theorem frzV_pureW {h:H} {v:AV} (hv:pureW v = true):frzV false h v = some v:=by
 cases v with
 | one a=>simp only [frzV,frzS_pure (n:=63) hv,oqE,oqS]
 | agg l=>simp only [frzV,mapM_pure (n:=63) (h:=h) (l:=l) hv,oqE,oqS]
 | tup ps=>simp only [frzV,frzP_pure hv,oqE,oqS]
 | opq=>rfl
 | undef=>cases hv
theorem kept_refl (h:H):Kept h h:=⟨Nat.le_refl _,fun _ _=>rfl⟩
theorem iceR_same {h h1:H} {v:AV} (hk:Kept h h1) (hv:pureW v = true):iceR true h (.ret v h1) = some (.ret v h):=iceR_kept hk (frzV_pureW hv)
end Go.Ab
namespace Go.Ab
theorem confV_prim {S:SeatK} {ins:List (Nat × InsFn)} {via:List Nat} {w2:Calls'} {ice:Nat→Option Bool}:PrimOk ((((confK S).insK ins).via via w2).ice ice):=ice_prim (via_prim (insK_prim confK_prim))
theorem confV_W {S:SeatK} {ins:List (Nat × InsFn)} {via:List Nat} {w2:Calls'} {ice:Nat→Option Bool} (h:SeatKOk S) (hi:InsOk S.P ins) (hw:CallsOk S.P w2):CallsOk S.P (W ((((confK S).insK ins).via via w2).ice ice)) :=
 W_ok (C:=(((confK S).insK ins).via via w2).ice ice) h.okT (confK_cmp h) (ice_okC (C:=((confK S).insK ins).via via w2) h.okT (confK_cmp h) h.mixed (via_ok (C:=(confK S).insK ins) (insK_ok (C:=confK S) h.okT (confK_ok h) hi) hw)) confV_prim h.mixed
theorem confJ_W {S:SeatK} {ins:List (Nat × InsFn)} (h:SeatKOk S) (hi:InsOk S.P ins):CallsOk S.P (W ((confK S).insK ins)) :=
 W_ok (C:=(confK S).insK ins) h.okT (confK_cmp h) (insK_ok (C:=confK S) h.okT (confK_ok h) hi) (insK_prim confK_prim) h.mixed
end Go.Ab
namespace Go.Ab
section
variable (P:Program) (d:Option Nat) (ty:TypeId) (pos:String) (af:Array Edge) (g:Option (Nat × Bool))
@[simp] theorem cls_min (args:Array Operand) (ts:Array TypeId):clsOf P ⟨d,.call ⟨.builtin .min,args,ts⟩,ty,pos,af,g⟩ = .pure:=rfl
@[simp] theorem cls_max (args:Array Operand) (ts:Array TypeId):clsOf P ⟨d,.call ⟨.builtin .max,args,ts⟩,ty,pos,af,g⟩ = .pure:=rfl
end
@[simp] theorem nx2 (n:Nat):(n = n + 1 + 1) = False:=eq_false (by omega)
@[simp] theorem ny2 (n:Nat):(n + 1 + 1 = n) = False:=eq_false (by omega)
@[simp] theorem nx3 (n:Nat):(n = n + 1 + 1 + 1) = False:=eq_false (by omega)
@[simp] theorem ny3 (n:Nat):(n + 1 + 1 + 1 = n) = False:=eq_false (by omega)
@[simp] theorem nx4 (n:Nat):(n = n + 1 + 1 + 1 + 1) = False:=eq_false (by omega)
@[simp] theorem ny4 (n:Nat):(n + 1 + 1 + 1 + 1 = n) = False:=eq_false (by omega)
@[simp] theorem nx5 (n:Nat):(n = n + 1 + 1 + 1 + 1 + 1) = False:=eq_false (by omega)
@[simp] theorem ny5 (n:Nat):(n + 1 + 1 + 1 + 1 + 1 = n) = False:=eq_false (by omega)
@[simp] theorem nx6 (n:Nat):(n = n + 1 + 1 + 1 + 1 + 1 + 1) = False:=eq_false (by omega)
@[simp] theorem ny6 (n:Nat):(n + 1 + 1 + 1 + 1 + 1 + 1 = n) = False:=eq_false (by omega)
@[simp] theorem nx7 (n:Nat):(n = n + 1 + 1 + 1 + 1 + 1 + 1 + 1) = False:=eq_false (by omega)
@[simp] theorem ny7 (n:Nat):(n + 1 + 1 + 1 + 1 + 1 + 1 + 1 = n) = False:=eq_false (by omega)
@[simp] theorem nx8 (n:Nat):(n = n + 1 + 1 + 1 + 1 + 1 + 1 + 1 + 1) = False:=eq_false (by omega)
@[simp] theorem ny8 (n:Nat):(n + 1 + 1 + 1 + 1 + 1 + 1 + 1 + 1 = n) = False:=eq_false (by omega)
@[simp] theorem nx9 (n:Nat):(n = n + 1 + 1 + 1 + 1 + 1 + 1 + 1 + 1 + 1) = False:=eq_false (by omega)
@[simp] theorem ny9 (n:Nat):(n + 1 + 1 + 1 + 1 + 1 + 1 + 1 + 1 + 1 = n) = False:=eq_false (by omega)
theorem ltn0 {b n:Nat} (hb:b < n):(b = n) = False:=eq_false (by omega)
theorem ltn1 {b n:Nat} (hb:b < n):(b = n + 1) = False:=eq_false (by omega)
theorem ltn2 {b n:Nat} (hb:b < n):(b = n + 1 + 1) = False:=eq_false (by omega)
def IceTo (m:Bool) (h:H) (Q:CR→Prop) (r:CR):Prop:=∃ r',iceR m h r = some r'∧Q r'
theorem W_iceQ {C:Conf} {fs:Nat→Option Bool} (hi:PrimOk (C.ice fs)) {f:Nat} {fn:Func} {c:Code} {m:Bool} (h0:C.prim f = none) (hf:fs f = some m) (h2:C.ext f = none) (h3:C.frz f = false) (h4:C.P.funcs[f]? = some fn) (h5:fn.body = some c) {args:List AV} {h:H} {K:CR→Prop} (h6:args.length ≤ fn.ntmps)
  (hq:Does (C.ice fs) c (args++List.replicate (fn.ntmps - args.length) .undef) h (finQ (C.ice fs) fn.results.toList (IceTo m h K))):∃ r,W (C.ice fs) f args h = some r∧K r:=by
 have key:∃ r,callF C (W (C.ice fs)) (X (C.ice fs)) f args h = some r∧IceTo m h K r:=by
  unfold callF
  rw [h0,h2]
  obtain ⟨x,fr',h',e,hx⟩:=hq
  have h3':¬ C.frz f = true:=by rw [h3];simp
  simp only [h4,oqE,oqS,h5,if_neg (Nat.not_lt.2 h6),if_neg h3',e]
  have hR:∀ fr hh rs,resultA (C.ice fs) fr hh rs = resultA C fr hh rs:=fun fr hh rs=>by
   have h1:∀ r,resVar (C.ice fs) fr hh r = resVar C fr hh r:=fun r=>by cases r <;> rfl
   have h2:∀ l,resParts (C.ice fs) fr hh l = resParts C fr hh l:=fun l=>by
    induction l with
    | nil=>rfl
    | cons a l ih=>simp only [resParts,h1,ih]
   cases rs with
   | nil=>simp only [resultA,h2]
   | cons a l =>
    cases l with
    | nil=>simp only [resultA,h1]
    | cons b l=>simp only [resultA,h2]
  cases x with
  | normal=>obtain ⟨v,hv,hk⟩:=hx;rw [hR] at hv;exact ⟨_,by simp [hv],hk⟩
  | ret=>obtain ⟨v,hv,hk⟩:=hx;rw [hR] at hv;exact ⟨_,by simp [hv],hk⟩
  | pan v=>exact ⟨_,rfl,hx⟩
  | exit i=>exact hx.elim
 obtain ⟨r,e,r',h7,h8⟩:=key
 exact ⟨r',by rw [W_ice hi h0 hf,e];exact h7,h8⟩
theorem ice_pure {h h1:H} {v:AV} {Q:CR→Prop} (hv:pureW v = true) (hq:Q (.ret v h1)):IceTo false h Q (.ret v h1):=⟨_,iceR_pure hv,hq⟩
theorem ice_kept {h h1:H} {v v':AV} {Q:CR→Prop} (hk:Kept h h1) (hv:frzV false (h1.over h.next) v = some v') (hq:Q (.ret v' h)):IceTo true h Q (.ret v h1):=⟨_,iceR_kept hk hv,hq⟩
theorem mapM_frz {h:H} {n:Nat} {l:List AS} (hp:pureL false l = true):l.mapM (frzS false h (n + 1)) = some l:=mapM_pure hp
section
variable {α:Type}
def nz (l:List α):Option (List α):=match l with | []=>none | a::l=>some (a::l)
@[simp] theorem ls_nz (l:List α):ls (nz l) = l:=by cases l <;> rfl
@[simp] theorem nz_nil:nz ([]:List α) = none:=rfl
@[simp] theorem nz_cons (a:α) (l:List α):nz (a::l) = some (a::l):=rfl
theorem nz_ne {l:List α} (h:l ≠ []):nz l = some l:=by cases l;exact absurd rfl h;rfl
theorem frz_sl {h h1:H} {size:Nat} {enc:α→List AS} (he:∀ x,(enc x).length = size) (hp:∀ x,pureL false (enc x) = true) {s:AS} {l:List α} (a:Sl h1 size enc s l) (hb:∀ b,ownB s = some b→h.next ≤ b) (n:Nat) :
  ∃ o,ls o = l∧(l ≠ []→o = some l)∧(s = .nilslc→o = none)∧(s ≠ .nilslc→o = some l)∧frzS false (h1.over h.next) (n + 2) s = some (sl size enc o):=by
 rcases a with ⟨rfl,rfl⟩ | ⟨b,v,z,rfl,a⟩
 ·exact ⟨none,rfl,fun h=>absurd rfl h,fun _=>rfl,fun h=>absurd rfl h,by simp [frzS,pureS,sl]⟩
 ·refine ⟨some l,rfl,fun _=>rfl,(by simp),fun _=>rfl, ?_⟩
  have hr:=arr_behind (l:=[]) he a
  simp only [List.nil_append,List.length_nil,Nat.zero_mul] at hr
  have hbb:=hb b rfl
  have hr':readC (h1.over h.next) (.ptr b v 0) (l.length * size) = some (cat enc l):=by
   simp only [readC] at hr ⊢
   rw [show (h1.over h.next).f b = h1.f b by simp only [H.over,if_pos hbb]]
   exact hr
  simp only [frzS,hr',oqE,oqS,mapM_frz (pureL_flat (st:=false) l fun x _=>hp x),sl]
theorem ice_sl {h h1:H} {size:Nat} {enc:α→List AS} (he:∀ x,(enc x).length = size) (hp:∀ x,pureL false (enc x) = true) {s:AS} {l:List α} (a:Sl h1 size enc s l) (hb:∀ b,ownB s = some b→h.next ≤ b) (hs:s = .nilslc ∨ l ≠ []) (hk:Kept h h1) {Q:CR→Prop} (hq:Q (.ret (.one (sl size enc (nz l))) h)):IceTo true h Q (.ret (.one s) h1):=by
 obtain ⟨o,ho,h2,h3,h4,h5⟩:=frz_sl (h:=h) he hp a hb 62
 have hn':o = nz l:=by
  rcases hs with hs | hs
  ·rw [h3 hs];rw [h3 hs] at ho;rw [← ho];rfl
  ·rw [h2 hs,nz_ne hs]
 exact ice_kept hk (v':=.one (sl size enc (nz l))) (by rw [hn'] at h5;simp only [frzV,h5,oqE,oqS]) hq
end
end Go.Ab
namespace Go.Ab
section
variable {α:Type}
theorem insIdx {l:List α} {i:Nat} (hi:i ≤ l.length) (x:α):l.insertIdx i x = l.take i++x::l.drop i:=by
 induction l generalizing i with
 | nil=>simp at hi;subst hi;rfl
 | cons a l ih =>
  cases i with
  | zero=>rfl
  | succ i=>simp at hi;simp [ih hi]
theorem elems_vs {h:H} {size n:Nat} {cells:List AS} (hl:cells.length = n * size):elemsOf h size n (.vs n size cells) = some cells:=by
 simp only [elemsOf,Nat.le_refl,and_self,if_true,sub]
 rw [if_pos (by omega)]
 simp [← hl]
theorem ins_arr {P:Program} {t el size bytes:Nat} (ht:P.underlying t = some (.slice el)) (h1:elemT P t = some el) (h2:sizeT P el = some size) (h3:bytesT P el = some bytes) (h0:0 < size) {enc:α→List AS} (he:∀ x,(enc x).length = size)
  {h:H} {s:AS} {l:List α} (w:Sl h size enc s l) (i:Nat) (hi:i ≤ l.length) (x:α) {bv:Nat} (hv:h.f bv = some ⟨0,[size],true,enc x⟩) (hne:ownB s ≠ some bv) (hlim:(l.length + 602) * bytes + (l.length + 2) ≤ limit) (hl2:l.length ≤ 17592186044416) :
  ∃ s' h',insA ⟨size,bytes⟩ [.one s,.one (.int .i64 i),.one (.slc bv 0 0 1 size none)] h = some (.ret (.one s') h')∧(∃ b v z,s' = .slc b v 0 (l.insertIdx i x).length size none∧Arr h' enc b v (l.insertIdx i x) z)∧h.next ≤ h'.next∧(∀ b,b < h.next→ownB s ≠ some b→h'.f b = h.f b)∧(∀ b,ownB s' = some b→ownB s = some b ∨ h.next ≤ b):=by
 have hev:elemsOf h size 1 (.slc bv 0 0 1 size none) = some (enc x):=by
  simp only [elemsOf,Nat.le_refl,and_self,if_true,Nat.one_mul,readC,hv,oqE,oqS,Blk.ext,Nat.sub_zero,List.getElem?_cons_zero,Nat.zero_add]
  unfold sub
  rw [if_pos (by rw [he];omega)]
  simp only [List.drop_zero,oqI]
  exact List.take_of_length_le (by rw [he];omega)
 have hx1:cat enc [x] = enc x:=by simp [cat]
 by_cases hil:i = l.length
 ·subst hil
  have hins:l.insertIdx l.length x = l++[x]:=by rw [insIdx (Nat.le_refl _)];simp
  rw [hins]
  have hb1:(l.length + 1 + 600) * bytes ≤ (l.length + 602) * bytes:=Nat.mul_le_mul_right _ (by omega)
  obtain ⟨s',h',e,q1,q2,q3,q4⟩:=arr_append (P:=P) ht h1 h2 h3 h0 he (a:=.slc bv 0 0 1 size none) (m:=[x]) w rfl (by rw [hx1];exact hev) (by simp) (by simp only [List.length_cons,List.length_nil,Nat.zero_add];omega)
  rw [append_slice (x:=.slc bv 0 0 1 size none) h1 h2 h3 ht rfl hev] at e
  refine ⟨s',h', ?_,q1,q2,q3,q4⟩
  rcases w with ⟨rfl,rfl⟩ | ⟨b,v,z,rfl,w⟩
  ·simp only [insA,hev,oqS]
   simp [endA,e]
  ·simp only [insA,hev,oqS]
   simp [endA,e]
 ·have hlt:i < l.length:=by omega
  rcases w with ⟨rfl,rfl⟩ | ⟨b,v,z,rfl,w⟩
  ·simp at hlt
  have hbv:¬ bv = b:=fun e=>hne (by rw [e];rfl)
  have hll:(l.drop i).length = l.length - i:=by simp
  have hw:Arr h enc b v (l.take i++l.drop i) z:=by rw [List.take_append_drop];exact w
  have hrest:readC h (.ptr b v (0 + i * size)) ((l.length - i) * size) = some (cat enc (l.drop i)):=by
   have:=arr_behind he hw
   rw [List.length_take,Nat.min_eq_left (by omega),hll] at this
   rw [Nat.zero_add];exact this
  have hcut:=arr_cut hw
  have hm:cat enc (x::l.drop i) = enc x++cat enc (l.drop i):=cat_cons ..
  have hlm:(cat enc (x::l.drop i)).length = (x::l.drop i).length * size:=flat_length he _
  have htk:(l.take i).length = i:=by simp;omega
  have hll2:(x::l.drop i).length = 1 + (l.length - i):=by simp;omega
  have hb1:(i + (1 + (l.length - i)) + 600) * bytes ≤ (l.length + 602) * bytes:=Nat.mul_le_mul_right _ (by omega)
  obtain ⟨s',h',e,q1,q2,q3,q4⟩:=arr_append (P:=P) ht h1 h2 h3 h0 he (s:=.slc b v 0 (l.take i).length size none) (a:=.vs (x::l.drop i).length size (cat enc (x::l.drop i))) (l:=l.take i) (m:=x::l.drop i) (.inr ⟨b,v,_,rfl,hcut⟩) rfl (elems_vs hlm) (by simp) (by rw [htk,hll2];omega)
  rw [append_slice (x:=.vs (x::l.drop i).length size (cat enc (x::l.drop i))) h1 h2 h3 ht rfl (elems_vs hlm),htk,hll2,hm] at e
  rw [insIdx hi]
  refine ⟨s',h', ?_,q1,q2,fun b' hb' hx=>q3 b' hb' hx,q4⟩
  have hi2:¬ ((i:Int) = (l.length:Int)):=by omega
  simp only [insA,hev,oqS,if_neg hi2,hv]
  rw [if_pos ⟨by omega,by omega,hbv,trivial,trivial,h0,hl2⟩]
  simp only [Int.toNat_natCast,hrest,oqS,e,endA,Option.map_some]
end
end Go.Ab
namespace Go.Ab
theorem cat_at {α:Type} {size:Nat} {enc:α→List AS} (he:∀ x,(enc x).length = size) (l:List α) {i:Nat} (hi:i < l.length):((cat enc l).drop (i * size)).take size = enc l[i]:=by
 have h2:(cat enc (l.take i)).length = i * size:=by rw [flat_length he,List.length_take,Nat.min_eq_left (by omega)]
 have h3:cat enc l = cat enc (l.take i)++(enc l[i]++cat enc (l.drop (i + 1))):=by
  conv=>lhs;rw [split_at hi,cat_app,cat_cons]
 rw [h3,← h2,List.drop_left,← he l[i],List.take_left]
end Go.Ab
namespace Go.Ab
theorem sub_at {α:Type} {s:Nat} {enc:α→List AS} (he:∀ x,(enc x).length = s) (l:List α) {i:Nat} (hi:i < l.length) {o n:Nat} (ho:o + n ≤ s):sub (cat enc l) (i * s + o) n = sub (enc l[i]) o n:=by
 have:=sub_flat he (l.take i) l[i] (l.drop (i + 1)) (o:=o) (n:=n) ho
 rw [List.length_take,Nat.min_eq_left (by omega)] at this
 have e:l.take i++l[i]::l.drop (i + 1) = l:=(split_at hi).symm
 rw [e] at this;exact this
end Go.Ab
namespace Go.Ab
theorem arr_mid {α:Type} {size:Nat} {enc:α→List AS} (he:∀ x,(enc x).length = size) {h:H} {b v:Nat} {l:List α} {z:List AS} (a:Arr h enc b v l z) {i e:Nat} (hi:i ≤ e) (hu:e ≤ l.length):readC h (.ptr b v (i * size)) ((e - i) * size) = some (cat enc ((l.take e).drop i)):=by
 have h1:l = ((l.take e).take i++(l.take e).drop i)++l.drop e:=by rw [List.take_append_drop,List.take_append_drop]
 rw [h1] at a
 have:=arr_behind he (arr_cut a)
 rw [List.length_take,List.length_take,Nat.min_eq_left (by omega:e ≤ l.length),Nat.min_eq_left hi,List.length_drop,List.length_take,Nat.min_eq_left hu] at this
 exact this
end Go.Ab
namespace Wm
open Go Go.Ab
structure Value where
 kind:Int
 b:Option BL
 n:Nat
structure Version where
 time:Int
 v:Value
structure Column where
 name:BL
 l:Option (List Version)
abbrev Row:=Option (List Column)
structure Change where
 kind:Int
 col:BL
 time:Int
 v:Value
structure Cond where
 has:Bool
 want:Bool
 col:BL
 v:Value
structure Op where
 kind:Int
 row:BL
 hi:BL
 cond:Cond
 l:Option (List Change)
 most:Int
structure Named where
 name:BL
 r:Row
structure Span where
 lo:BL
 hi:BL
 deriving DecidableEq
structure Tablet where
 span:Span
 group:Int
 gen:Int
 deriving DecidableEq
structure Command where
 kind:Int
 op:Op
 span:Span
 gen:Int
 at_:BL
 to:Int
 do_:Int
 state:Option BL
structure Answer where
 code:Int
 rows:Option (List Named)
 span:Span
 group:Int
 gen:Int
 old:Int
 to:Int
 do_:Int
 at_:BL
 state:Option BL
structure Vote where
 slot:Int
 ballot:Int
 v:Option BL
structure Message where
 kind:Int
 group:Int
 frm:Int
 to:Int
 ballot:Int
 slot:Int
 client:Int
 seq:Int
 b:Option BL
 l:Option (List Vote)
structure Event where
 kind:Int
 group:Int
 slot:Int
 client:Int
 seq:Int
 b:Option BL
 a:Option BL
structure Item where
 kind:Int
 group:Int
 n:Int
 client:Int
 bytes:Option BL
structure Config where
 groups:Int
 n:Int
 clients:Int
structure KV where
 text:Bool
 n:Int
 x:Nat
 b:Option BL
structure KC where
 kind:Int
 col:Int
 time:Int
 v:KV
structure KO where
 kind:Int
 row:Int
 hi:Int
 most:Int
 col:Int
 has:Bool
 want:Bool
 v:KV
 l:Option (List KC)
structure KP where
 do_:Int
 at_:Int
 to:Int
abbrev ii (n:Int):AS:=.int .i64 n
def encV (v:Value):List AS:=[ii v.kind,bs v.b,.flt v.n]
def encVersion (v:Version):List AS:=[ii v.time,ii v.v.kind,bs v.v.b,.flt v.v.n]
def encColumn (c:Column):List AS:=[.str c.name,sl 4 encVersion c.l]
def encRow (r:Row):List AS:=[sl 2 encColumn r]
def encChange (c:Change):List AS:=[ii c.kind,.str c.col,ii c.time,ii c.v.kind,bs c.v.b,.flt c.v.n]
def encOp (o:Op):List AS:=[ii o.kind,.str o.row,.str o.hi,.bool o.cond.has,.bool o.cond.want,.str o.cond.col,ii o.cond.v.kind,bs o.cond.v.b,.flt o.cond.v.n,sl 6 encChange o.l,ii o.most]
def encNamed (n:Named):List AS:=[.str n.name,sl 2 encColumn n.r]
def encSpan (s:Span):List AS:=[.str s.lo,.str s.hi]
def encTablet (t:Tablet):List AS:=[.str t.span.lo,.str t.span.hi,ii t.group,ii t.gen]
def encAnswer (a:Answer):List AS:=[ii a.code,sl 2 encNamed a.rows,.str a.span.lo,.str a.span.hi,ii a.group,ii a.gen,ii a.old,ii a.to,ii a.do_,.str a.at_,bs a.state]
def encVote (v:Vote):List AS:=[ii v.slot,ii v.ballot,bs v.v]
def encMessage (m:Message):List AS:=[ii m.kind,ii m.group,ii m.frm,ii m.to,ii m.ballot,ii m.slot,ii m.client,ii m.seq,bs m.b,sl 3 encVote m.l]
def encItem (i:Item):List AS:=[ii i.kind,ii i.group,ii i.n,ii i.client,bs i.bytes]
def encKC (c:KC):List AS:=[ii c.kind,ii c.col,ii c.time,.bool c.v.text,ii c.v.n,.flt c.v.x,bs c.v.b]
def encKO (o:KO):List AS:=[ii o.kind,ii o.row,ii o.hi,ii o.most,ii o.col,.bool o.has,.bool o.want,.bool o.v.text,ii o.v.n,.flt o.v.x,bs o.v.b,sl 7 encKC o.l]
theorem len_version (v:Version):(encVersion v).length = 4:=rfl
theorem len_column (v:Column):(encColumn v).length = 2:=rfl
theorem len_change (v:Change):(encChange v).length = 6:=rfl
theorem len_named (v:Named):(encNamed v).length = 2:=rfl
theorem len_span (v:Span):(encSpan v).length = 2:=rfl
theorem len_tablet (v:Tablet):(encTablet v).length = 4:=rfl
theorem len_kc (v:KC):(encKC v).length = 7:=rfl
@[simp] theorem pure_version (v:Version):pureL false (encVersion v) = true:=by simp [encVersion,pureL,pureS]
@[simp] theorem pure_versions (o:Option (List Version)):pureS false (sl 4 encVersion o) = true:=pureS_sl pure_version o
@[simp] theorem pure_column (v:Column):pureL false (encColumn v) = true:=by simp [encColumn,pureL,pureS]
@[simp] theorem pure_columns (o:Option (List Column)):pureS false (sl 2 encColumn o) = true:=pureS_sl pure_column o
@[simp] theorem pure_change (v:Change):pureL false (encChange v) = true:=by simp [encChange,pureL,pureS]
@[simp] theorem pure_changes (o:Option (List Change)):pureS false (sl 6 encChange o) = true:=pureS_sl pure_change o
@[simp] theorem pure_named (v:Named):pureL false (encNamed v) = true:=by simp [encNamed,pureL,pureS]
@[simp] theorem pure_nameds (o:Option (List Named)):pureS false (sl 2 encNamed o) = true:=pureS_sl pure_named o
@[simp] theorem pure_span (v:Span):pureL false (encSpan v) = true:=by simp [encSpan,pureL,pureS]
@[simp] theorem pure_spans (o:Option (List Span)):pureS false (sl 2 encSpan o) = true:=pureS_sl pure_span o
@[simp] theorem pure_tablet (v:Tablet):pureL false (encTablet v) = true:=by simp [encTablet,pureL,pureS]
@[simp] theorem pure_tablets (o:Option (List Tablet)):pureS false (sl 4 encTablet o) = true:=pureS_sl pure_tablet o
@[simp] theorem pure_vote (v:Vote):pureL false (encVote v) = true:=by simp [encVote,pureL,pureS]
@[simp] theorem pure_votes (o:Option (List Vote)):pureS false (sl 3 encVote o) = true:=pureS_sl pure_vote o
@[simp] theorem pure_message (v:Message):pureL false (encMessage v) = true:=by simp [encMessage,pureL,pureS]
@[simp] theorem pure_messages (o:Option (List Message)):pureS false (sl 10 encMessage o) = true:=pureS_sl pure_message o
@[simp] theorem pure_item (v:Item):pureL false (encItem v) = true:=by simp [encItem,pureL,pureS]
@[simp] theorem pure_items (o:Option (List Item)):pureS false (sl 5 encItem o) = true:=pureS_sl pure_item o
@[simp] theorem pure_kc (v:KC):pureL false (encKC v) = true:=by simp [encKC,pureL,pureS]
@[simp] theorem pure_kcs (o:Option (List KC)):pureS false (sl 7 encKC o) = true:=pureS_sl pure_kc o
end Wm
namespace Go.Ab
open Wm
abbrev RC:=BL × AS
abbrev encR (r:RC):List AS:=[.str r.1,r.2]
theorem len_R (r:RC):(encR r).length = 2:=rfl
theorem pure_Version {st:Bool} (v:Version):pureL false (encVersion v) = true:=by simp [encVersion,pureL,pureS]
theorem plain_Version (t:Version):∀ a ∈ encVersion t,(∀ f y c,a ≠ .fn f y c)∧∀ t v,a ≠ .ifc t v:=by
 intro a ha
 simp only [encVersion,List.mem_cons,List.not_mem_nil,or_false] at ha
 rcases ha with rfl | rfl | rfl | rfl
 ·simp
 ·simp
 ·cases t.v.b <;> simp [bs,sl]
 ·simp
def blks (rs:List RC):List Nat:=rs.filterMap fun r=>ownB r.2
@[simp] theorem blks_nil:blks [] = []:=rfl
theorem blks_app (a b:List RC):blks (a++b) = blks a++blks b:=by simp [blks]
def ColAt (h:H) (lo:Nat) (r:RC) (c:Column):Prop:=r.1 = c.name∧Sl h 4 encVersion r.2 (ls c.l)∧(r.2 = .nilslc ↔ c.l = none)∧∀ b,ownB r.2 = some b→lo ≤ b∧b < h.next
theorem ColAt.keep {h h':H} {lo:Nat} {r:RC} {c:Column} (a:ColAt h lo r c) (hn:h.next ≤ h'.next) (hf:∀ b,ownB r.2 = some b→h'.f b = h.f b):ColAt h' lo r c :=
 ⟨a.1,a.2.1.keep hn hf,a.2.2.1,fun b hb=>⟨(a.2.2.2 b hb).1,by have:=(a.2.2.2 b hb).2;omega⟩⟩
def NestL (h:H) (lo:Nat):List RC→List Column→Prop
 | [],[]=>True
 | r::rs,c::cs=>ColAt h lo r c∧NestL h lo rs cs
 | _,_=>False
theorem NestL.len {h:H} {lo:Nat}:∀ {rs:List RC} {cs:List Column},NestL h lo rs cs→rs.length = cs.length
 | [],[],_=>rfl
 | r::rs,c::cs,a=>by simp [NestL.len a.2]
theorem mem_blks {r:RC} {rs:List RC} {b:Nat} (hr:r ∈ rs) (hb:ownB r.2 = some b):b ∈ blks rs:=List.mem_filterMap.2 ⟨r,hr,hb⟩
theorem NestL.keep {h h':H} {lo:Nat} (hn:h.next ≤ h'.next):∀ {rs:List RC} {cs:List Column},NestL h lo rs cs→(∀ b ∈ blks rs,h'.f b = h.f b)→NestL h' lo rs cs
 | [],[],_,_=>trivial
 | r::rs,c::cs,a,hf=>⟨a.1.keep hn fun b hb=>hf b (mem_blks (by simp) hb),a.2.keep hn fun b hb=>hf b (by
   obtain ⟨x,hx,e⟩:=List.mem_filterMap.1 hb
   exact mem_blks (List.mem_cons_of_mem _ hx) e)⟩
theorem NestL.app {h:H} {lo:Nat}:∀ {a:List RC} {x:List Column} {b:List RC} {y:List Column},NestL h lo a x→NestL h lo b y→NestL h lo (a++b) (x++y)
 | [],[],_,_,_,q=>q
 | r::a,c::x,b,y,p,q=>⟨p.1,NestL.app p.2 q⟩
theorem NestL.split {h:H} {lo:Nat}:∀ {a b:List RC} {cs:List Column},NestL h lo (a++b) cs→NestL h lo a (cs.take a.length)∧NestL h lo b (cs.drop a.length)
 | [],b,cs,p=>⟨by simp [NestL],by simpa using p⟩
 | r::a,b,[],p=>p.elim
 | r::a,b,c::cs,p=>by
  obtain ⟨q1,q2⟩:=NestL.split (a:=a) p.2
  exact ⟨⟨p.1,q1⟩,q2⟩
theorem NestL.lt {h:H} {lo:Nat}:∀ {rs:List RC} {cs:List Column},NestL h lo rs cs→∀ b ∈ blks rs,lo ≤ b∧b < h.next
 | [],[],_,b,hb=>by simp at hb
 | r::rs,c::cs,a,b,hb=>by
  obtain ⟨x,hx,e⟩:=List.mem_filterMap.1 hb
  rcases List.mem_cons.1 hx with rfl | hx
  ·exact a.1.2.2.2 b e
  ·exact NestL.lt a.2 b (mem_blks hx e)
theorem NestL.at {h:H} {lo:Nat} {rs:List RC} {cs:List Column} (a:NestL h lo rs cs) (i:Nat) (hi:i < rs.length):ColAt h lo rs[i] (cs[i]'(a.len ▸ hi)):=by
 induction rs generalizing cs i with
 | nil=>simp at hi
 | cons r rs ih =>
  cases cs with
  | nil=>exact a.elim
  | cons c cs =>
   cases i with
   | zero=>exact a.1
   | succ i=>exact ih a.2 i (by simpa using hi)
theorem col_frz {h h1:H} {lo:Nat} (hlo:h.next ≤ lo) {r:RC} {c:Column} (a:ColAt h1 lo r c) (n:Nat):(encR r).mapM (frzS false (h1.over h.next) (n + 2)) = some (encColumn c):=by
 obtain ⟨o,ho,h2,h3,h4,h5⟩:=frz_sl (h:=h) len_version (fun v=>pure_Version (st:=false) v) a.2.1 (fun b hb=>Nat.le_trans hlo (a.2.2.2 b hb).1) n
 have ho':o = c.l:=by
  by_cases hs:r.2 = .nilslc
  ·rw [h3 hs,a.2.2.1.1 hs]
  ·rw [h4 hs]
   cases hc:c.l with
   | none=>exact absurd (a.2.2.1.2 hc) hs
   | some l=>rfl
 have hx:∀ s,frzS false (h1.over h.next) (n + 2) (.str s) = some (.str s):=fun s=>by simp [frzS,pureS]
 simp only [encR,List.mapM_cons,List.mapM_nil,hx,h5,ho',oqE,oqS,oqP,encColumn,a.1]
theorem col_view {h:H} {lo:Nat} {r:RC} {c:Column} (a:ColAt h lo r c) (n:Nat):(encR r).mapM (viewS h (n + 2)) = some (encColumn c):=by
 have hv:viewS h (n + 2) r.2 = some (sl 4 encVersion c.l):=by
  rcases a.2.1 with ⟨e1,e2⟩ | ⟨b,v,z,e1,ar⟩
  ·rw [e1,a.2.2.1.1 e1];rfl
  ·cases hc:c.l with
   | none=>rw [a.2.2.1.2 hc] at e1;cases e1
   | some l =>
    rw [hc,ls_some] at e1 ar
    have hr:=arr_behind (l:=[]) len_version ar
    simp only [List.nil_append,List.length_nil,Nat.zero_mul] at hr
    have h2:pureL false (cat encVersion l) = true:=pureL_flat _ fun x _=>pure_Version (st:=false) x
    have h3:∀ a ∈ cat encVersion l,(∀ f x c,a ≠ .fn f x c)∧∀ t v,a ≠ .ifc t v:=by
     intro a ha
     obtain ⟨t,_,ht⟩:=List.mem_flatMap.1 ha
     exact plain_Version t a ht
    simp only [e1,viewS,hr,oqE,oqS,view_pureL h2 h3,sl]
 have hx:∀ s,viewS h (n + 2) (.str s) = some (.str s):=fun s=>by simp [viewS,pureS]
 simp only [encR,List.mapM_cons,List.mapM_nil,hx,hv,oqE,oqS,oqP,encColumn,a.1]
theorem mapM_app {f:AS→Option AS}:∀ {a b x y:List AS},a.mapM f = some x→b.mapM f = some y→(a++b).mapM f = some (x++y)
 | [],b,x,y,h1,h2=>by simp at h1;subst h1;simpa using h2
 | c::a,b,x,y,h1,h2=>by
  simp only [List.mapM_cons,oqE,oqB,oqP,oqI] at h1
  obtain ⟨c',e1,a',e2,rfl⟩:=h1
  simp only [List.cons_append,List.mapM_cons,e1,mapM_app e2 h2,oqE,oqS,oqP]
theorem nest_frz {h h1:H} {lo:Nat} (hlo:h.next ≤ lo) (n:Nat):∀ {rs:List RC} {cs:List Column},NestL h1 lo rs cs→(cat encR rs).mapM (frzS false (h1.over h.next) (n + 2)) = some (cat encColumn cs)
 | [],[],_=>rfl
 | r::rs,c::cs,a=>by rw [cat_cons,cat_cons];exact mapM_app (col_frz hlo a.1 n) (nest_frz hlo n a.2)
theorem nest_view {h:H} {lo:Nat} (n:Nat):∀ {rs:List RC} {cs:List Column},NestL h lo rs cs→(cat encR rs).mapM (viewS h (n + 2)) = some (cat encColumn cs)
 | [],[],_=>rfl
 | r::rs,c::cs,a=>by rw [cat_cons,cat_cons];exact mapM_app (col_view a.1 n) (nest_view n a.2)
structure RowAt (h:H) (lo:Nat) (s:AS) (rs:List RC) (o:Row):Prop where
 arr:Sl h 2 encR s rs
 nil:s = .nilslc ↔ o = none
 own:∀ b,ownB s = some b→lo ≤ b∧b ∉ blks rs
 col:NestL h lo rs (ls o)
 dis:(blks rs).Nodup
theorem RowAt.frz {h h1:H} {lo:Nat} (hlo:h.next ≤ lo) {s:AS} {rs:List RC} {o:Row} (a:RowAt h1 lo s rs o) (n:Nat):frzS false (h1.over h.next) (n + 3) s = some (sl 2 encColumn o):=by
 have hl:=a.col.len
 rcases a.arr with ⟨e1,e2⟩ | ⟨b,v,z,e1,ar⟩
 ·rw [e1,a.nil.1 e1];simp [frzS,pureS,sl]
 ·cases o with
  | none=>rw [a.nil.2 rfl] at e1;cases e1
  | some cs =>
   have hr:=arr_behind (l:=[]) len_R ar
   simp only [List.nil_append,List.length_nil,Nat.zero_mul] at hr
   have hbb:=Nat.le_trans hlo (a.own b (by rw [e1];rfl)).1
   have hr':readC (h1.over h.next) (.ptr b v 0) (rs.length * 2) = some (cat encR rs):=by
    simp only [readC] at hr ⊢
    rw [show (h1.over h.next).f b = h1.f b by simp only [H.over,if_pos hbb]]
    exact hr
   simp only [e1,frzS,hr',oqE,oqS,nest_frz hlo n a.col,sl]
   rw [hl];rfl
theorem RowAt.view {h:H} {lo:Nat} {s:AS} {rs:List RC} {o:Row} (a:RowAt h lo s rs o) (n:Nat):viewS h (n + 3) s = some (sl 2 encColumn o):=by
 have hl:=a.col.len
 rcases a.arr with ⟨e1,e2⟩ | ⟨b,v,z,e1,ar⟩
 ·rw [e1,a.nil.1 e1];rfl
 ·cases o with
  | none=>rw [a.nil.2 rfl] at e1;cases e1
  | some cs =>
   have hr:=arr_behind (l:=[]) len_R ar
   simp only [List.nil_append,List.length_nil,Nat.zero_mul] at hr
   simp only [e1,viewS,hr,oqE,oqS,nest_view n a.col,sl]
   rw [hl];rfl
theorem RowAt.keep {h h':H} {lo:Nat} {s:AS} {rs:List RC} {o:Row} (a:RowAt h lo s rs o) (hn:h.next ≤ h'.next) (hf:∀ b,b < h.next→ownB s = some b ∨ b ∈ blks rs→h'.f b = h.f b):RowAt h' lo s rs o :=
 ⟨a.arr.keep hn fun b hb=>hf b (a.arr.lt hb) (.inl hb),a.nil,a.own,a.col.keep hn fun b hb=>hf b (a.col.lt b hb).2 (.inr hb),a.dis⟩
theorem RowAt.new {h:H} {lo:Nat} {s:AS} {rs:List RC} {o:Row} (a:RowAt h lo s rs o) (k:Blk):RowAt (h.new k) lo s rs o:=a.keep (by simp) fun b hb _=>by rw [new_at,if_neg (by omega)]
theorem RowAt.push {P:Program} {t el bytes:Nat} (ht:P.underlying t = some (.slice el)) (h1:elemT P t = some el) (h2:sizeT P el = some 2) (h3:bytesT P el = some bytes) {h g:H} {lo:Nat} {s:AS} {rs:List RC} {o:Row} (a:RowAt h lo s rs o) (hlo:lo ≤ h.next) (hn:h.next ≤ g.next) (hf:∀ b,b < h.next→ownB s = some b ∨ b ∈ blks rs→g.f b = h.f b)
  {n:BL} {s2:AS} {c:Column} (cc:ColAt g h.next (n,s2) c) (hlim:(rs.length + 601) * bytes + (rs.length + 1) ≤ limit) :
  ∃ s4 h4,appendA P t t (g.new ⟨0,[2],true,[.str n,s2]⟩) s (.slc g.next 0 0 1 2 none) = some (s4,h4)∧RowAt h4 lo s4 (rs++[(n,s2)]) (some (ls o++[c]))∧g.next < h4.next∧(∀ b,b ≤ g.next→ownB s ≠ some b→h4.f b = (g.new ⟨0,[2],true,[.str n,s2]⟩).f b)∧(∀ b,ownB s4 = some b→ownB s = some b ∨ g.next < b):=by
 have a0:=a.keep hn hf
 have a1:=a0.new ⟨0,[2],true,[.str n,s2]⟩
 have hc1:cat encR [(n,s2)] = [.str n,s2]:=rfl
 obtain ⟨s4,h4,e,⟨b4,v4,z4,rfl,ar⟩,q2,q3,q4⟩:=arr_append (P:=P) ht h1 h2 h3 (by omega) len_R (a:=.slc g.next 0 0 1 2 none) (m:=[(n,s2)]) a1.arr rfl (by simp [elemsOf,hc1]) (by simp) (by simp only [List.length_cons,List.length_nil,Nat.zero_add];omega)
 simp only [new_next] at q2 q3 q4
 have hlt:=a.col.lt
 refine ⟨_,h4,e,⟨.inr ⟨b4,v4,z4,rfl,ar⟩,by simp,fun b hb=>?_, ?_, ?_⟩,by omega,fun b hb hx=>q3 b (by omega) hx,fun b hb=>by
  rcases q4 b hb with h | h
  ·exact .inl h
  ·exact .inr (by omega)⟩
 ·rw [blks_app]
  have hs2:∀ x ∈ blks [(n,s2)],h.next ≤ x∧x < g.next:=by
   intro x hx
   obtain ⟨r,hr,e⟩:=List.mem_filterMap.1 hx
   rw [List.mem_singleton.1 hr] at e
   exact cc.2.2.2 x e
  rcases q4 b hb with h | h
  ·have h6:=a.own b h
   have h7:=a.arr.lt h
   refine ⟨h6.1,fun hm=>?_⟩
   rcases List.mem_append.1 hm with hm | hm
   ·exact h6.2 hm
   ·have:=(hs2 b hm).1;omega
  ·refine ⟨by omega,fun hm=>?_⟩
   rcases List.mem_append.1 hm with hm | hm
   ·have:=(hlt b hm).2;omega
   ·have:=(hs2 b hm).2;omega
 ·refine NestL.app (a1.col.keep (by simpa using (by omega:g.next + 1 ≤ h4.next)) fun b hb=>?_) ⟨?_,trivial⟩
  ·have h8:=(a0.col.lt b hb).2
   refine q3 b (by omega) fun e=>(a.own b e).2 hb
  ·have c1:ColAt (g.new ⟨0,[2],true,[.str n,s2]⟩) h.next (n,s2) c:=cc.keep (by simp) fun b hb=>by
    have:=(cc.2.2.2 b hb).2
    rw [new_at,if_neg (by omega)]
   have c2:ColAt h4 h.next (n,s2) c:=c1.keep (by simpa using (by omega:g.next + 1 ≤ h4.next)) fun b hb=>by
    have h8:=cc.2.2.2 b hb
    refine q3 b (by omega) fun e=>?_
    have:=a.arr.lt e;omega
   exact ⟨c2.1,c2.2.1,c2.2.2.1,fun b hb=>⟨by have:=(c2.2.2.2 b hb).1;omega,(c2.2.2.2 b hb).2⟩⟩
 ·rw [blks_app]
  refine List.nodup_append.2 ⟨a.dis, ?_,fun x hx y hy e=>?_⟩
  ·unfold blks
   cases hs:ownB s2 <;> simp [hs]
  ·obtain ⟨r,hr,e2⟩:=List.mem_filterMap.1 hy
   rw [List.mem_singleton.1 hr] at e2
   have:=(cc.2.2.2 y e2).1
   have:=(hlt x hx).2
   omega
theorem NestL.weaken {h:H} {lo lo':Nat} (hl:lo' ≤ lo):∀ {rs:List RC} {cs:List Column},NestL h lo rs cs→NestL h lo' rs cs
 | [],[],_=>trivial
 | r::rs,c::cs,a=>⟨⟨a.1.1,a.1.2.1,a.1.2.2.1,fun b hb=>⟨by have:=(a.1.2.2.2 b hb).1;omega,(a.1.2.2.2 b hb).2⟩⟩,a.2.weaken hl⟩
theorem RowAt.weaken {h:H} {lo lo':Nat} {s:AS} {rs:List RC} {o:Row} (a:RowAt h lo s rs o) (hl:lo' ≤ lo):RowAt h lo' s rs o :=
 ⟨a.arr,a.nil,fun b hb=>⟨by have:=(a.own b hb).1;omega,(a.own b hb).2⟩,a.col.weaken hl,a.dis⟩
theorem lay_part {M:List AS} {o:Nat} {x y s5:AS} (hs:sub M o 2 = some [x,y]):lay M (o + 1) [s5] = lay M o [x,s5]:=by
 unfold sub at hs
 split at hs
 ·rename_i hle
  simp only [oqI] at hs
  have h1:M.drop o = x::M.drop (o + 1):=by
   have:M.drop o = M[o]::M.drop (o + 1):=List.drop_eq_getElem_cons (by omega)
   rw [this] at hs ⊢
   simp only [List.take_succ_cons,List.cons.injEq] at hs
   rw [hs.1]
  have h2:M.take (o + 1) = M.take o++[x]:=by
   rw [List.take_add,h1];simp
  unfold lay
  rw [h2]
  simp only [List.length_cons,List.length_nil,List.append_assoc,List.singleton_append,List.cons_append,List.nil_append,Nat.zero_add,Nat.add_assoc]
 ·cases hs
theorem NestL.set {h:H} {lo:Nat}:∀ {rs:List RC} {cs:List Column} {i:Nat} {r:RC} {c:Column},NestL h lo rs cs→ColAt h lo r c→NestL h lo (rs.set i r) (cs.set i c)
 | [],[],_,_,_,_,_=>trivial
 | _::_,_::_,0,_,_,a,cc=>⟨cc,a.2⟩
 | _::_,_::_,i + 1,_,_,a,cc=>⟨a.1,NestL.set a.2 cc⟩
theorem mem_blks_inv {rs:List RC} {b:Nat} (h:b ∈ blks rs):∃ i,∃ hi:i < rs.length,ownB rs[i].2 = some b:=by
 obtain ⟨r,hr,e⟩:=List.mem_filterMap.1 h
 obtain ⟨i,hi,e2⟩:=List.getElem_of_mem hr
 exact ⟨i,hi,by rw [e2];exact e⟩
theorem blks_set {rs:List RC} {i:Nat} (hi:i < rs.length) {r:RC} {b:Nat} (h:b ∈ blks (rs.set i r)):ownB r.2 = some b ∨ ∃ j,∃ hj:j < rs.length,j ≠ i∧ownB rs[j].2 = some b:=by
 obtain ⟨j,hj,e⟩:=mem_blks_inv h
 rw [List.length_set] at hj
 rw [List.getElem_set] at e
 split at e
 ·exact .inl e
 ·exact .inr ⟨j,hj,by omega,e⟩
theorem blks_at {rs:List RC} {i:Nat} (hi:i < rs.length) {b:Nat} (h:ownB rs[i].2 = some b):b ∈ blks rs:=mem_blks (List.getElem_mem hi) h
theorem blks_apart {rs:List RC} (hd:(blks rs).Nodup) {i j:Nat} (hi:i < rs.length) (hj:j < rs.length) {b:Nat} (h1:ownB rs[i].2 = some b) (h2:ownB rs[j].2 = some b):i = j:=by
 induction rs generalizing i j with
 | nil=>simp at hi
 | cons r rs ih =>
  have hd':(blks rs).Nodup:=by
   unfold blks at hd ⊢
   cases hr:ownB r.2 with
   | none=>simpa [hr] using hd
   | some x=>simp only [List.filterMap_cons,hr] at hd;exact (List.nodup_cons.1 hd).2
  cases i with
  | zero =>
   cases j with
   | zero=>rfl
   | succ j =>
    simp only [List.getElem_cons_zero] at h1
    simp only [List.getElem_cons_succ] at h2
    unfold blks at hd
    simp only [List.filterMap_cons,h1] at hd
    exact absurd (blks_at (by simpa using hj) h2) (List.nodup_cons.1 hd).1
  | succ i =>
   cases j with
   | zero =>
    simp only [List.getElem_cons_zero] at h2
    simp only [List.getElem_cons_succ] at h1
    unfold blks at hd
    simp only [List.filterMap_cons,h2] at hd
    exact absurd (blks_at (by simpa using hi) h1) (List.nodup_cons.1 hd).1
   | succ j =>
    simp only [List.getElem_cons_succ] at h1 h2
    rw [ih hd' (by simpa using hi) (by simpa using hj) h1 h2]
theorem blks_set_nodup {rs:List RC} (hd:(blks rs).Nodup) {i:Nat} (hi:i < rs.length) {r:RC} (hr:∀ b,ownB r.2 = some b→∀ j,∀ hj:j < rs.length,j ≠ i→ownB rs[j].2 ≠ some b):(blks (rs.set i r)).Nodup:=by
 induction rs generalizing i with
 | nil=>simp at hi
 | cons q rs ih =>
  have hd':(blks rs).Nodup:=by
   unfold blks at hd ⊢
   cases hq:ownB q.2 with
   | none=>simpa [hq] using hd
   | some x=>simp only [List.filterMap_cons,hq] at hd;exact (List.nodup_cons.1 hd).2
  cases i with
  | zero =>
   simp only [List.set_cons_zero]
   unfold blks
   cases hb:ownB r.2 with
   | none=>simp only [List.filterMap_cons,hb];exact hd'
   | some b =>
    simp only [List.filterMap_cons,hb]
    refine List.nodup_cons.2 ⟨fun hm=>?_,hd'⟩
    obtain ⟨j,hj,e⟩:=mem_blks_inv hm
    exact hr b hb (j + 1) (by simpa using hj) (by omega) (by simpa using e)
  | succ i =>
   simp only [List.set_cons_succ]
   have hrec:=ih hd' (by simpa using hi) (fun b hb j hj hne=>by
    have:=hr b hb (j + 1) (by simpa using hj) (by omega)
    simpa using this)
   unfold blks
   cases hq:ownB q.2 with
   | none=>simp only [List.filterMap_cons,hq];exact hrec
   | some x =>
    simp only [List.filterMap_cons,hq]
    refine List.nodup_cons.2 ⟨fun hm=>?_,hrec⟩
    rcases blks_set (by simpa using hi) hm with e | ⟨j,hj,_,e⟩
    ·exact hr x e 0 (by simp) (by omega) (by simpa using hq)
    ·have:=blks_apart hd (i:=0) (j:=j + 1) (by simp) (by simpa using hj) (b:=x) (by simpa using hq) (by simpa using e)
     omega
theorem RowAt.setAt {h h':H} {lo:Nat} {b v:Nat} {rs:List RC} {cs:List Column} (a:RowAt h lo (.slc b v 0 rs.length 2 none) rs (some cs)) {i:Nat} (hi:i < rs.length) (hn:h.next ≤ h'.next) (hf:∀ x,x < h.next→ownB rs[i].2 ≠ some x→h'.f x = h.f x)
  {s5:AS} {c:Column} (cc:ColAt h' lo (rs[i].1,s5) c) (ho:∀ x,ownB s5 = some x→ownB rs[i].2 = some x ∨ h.next ≤ x) :
  ∃ fx ex M,h'.f b = some ⟨v,M.length::ex,fx,M⟩∧i * 2 + 2 ≤ M.length∧sub M (i * 2) 2 = some (encR rs[i])∧RowAt (h'.set b ⟨v,[M.length],fx,lay M (i * 2 + 1) [s5]⟩) lo (.slc b v 0 rs.length 2 none) (rs.set i (rs[i].1,s5)) (some (cs.set i c)):=by
 obtain ⟨ar,hnil,own,col,dis⟩:=a
 obtain ⟨hbl,hbn⟩:=own b rfl
 rcases ar with ⟨e,_⟩ | ⟨b',v',z,e,ar⟩
 ·cases e
 cases e
 have hbb:ownB rs[i].2 ≠ some b:=fun e=>hbn (blks_at hi e)
 have ar':Arr h' encR b v rs z:=ar.keep hn (hf b ar.1 hbb)
 obtain ⟨fx,ex,M,hfb,hM,_,hrd,hwr⟩:=ar'.cells len_R
 obtain ⟨h1,h2⟩:=hrd i hi
 have hs5:∀ x,ownB s5 = some x→x ≠ b:=by
  rintro x hx rfl
  rcases ho _ hx with e | e
  ·exact hbb e
  ·have:=ar.1;omega
 have hlt:∀ j (hj:j < rs.length) x,ownB rs[j].2 = some x→x < h.next:=fun j hj x hx=>(col.lt x (blks_at hj hx)).2
 refine ⟨fx,ex,M,hfb,h1,h2, ?_⟩
 have hl:lay M (i * 2 + 1) [s5] = lay M (i * 2) (encR (rs[i].1,s5)):=lay_part h2
 rw [hl]
 have har:=hwr (h'.set b ⟨v,[M.length],fx,lay M (i * 2) (encR (rs[i].1,s5))⟩) i (rs[i].1,s5) hi (by simpa using ar'.1) (by simp)
 have hkeep:∀ j (hj:j < rs.length),j ≠ i→∀ x,ownB rs[j].2 = some x→(h'.set b ⟨v,[M.length],fx,lay M (i * 2) (encR (rs[i].1,s5))⟩).f x = h.f x:=fun j hj hji x hx=>by
  have hxb:x ≠ b:=by rintro rfl;exact hbn (blks_at hj hx)
  rw [set_at,if_neg hxb,hf x (hlt j hj x hx) fun e=>hji (blks_apart dis hj hi hx e)]
 refine ⟨.inr ⟨b,v,z,by simp,har⟩,by simp,fun x hx=>?_, ?_, ?_⟩
 ·cases hx
  refine ⟨hbl,fun hm=>?_⟩
  rcases blks_set hi hm with e | ⟨j,hj,_,e⟩
  ·exact hs5 _ e rfl
  ·exact hbn (blks_at hj e)
 ·-- each column
  have hcc:ColAt (h'.set b ⟨v,[M.length],fx,lay M (i * 2) (encR (rs[i].1,s5))⟩) lo (rs[i].1,s5) c:=cc.keep (by simp) fun x hx=>by rw [set_at,if_neg (hs5 x hx)]
  have key:∀ (rs':List RC) (cs':List Column) (k:Nat),NestL h lo rs' cs'→(∀ j (hj:j < rs'.length),j ≠ k→∀ x,ownB rs'[j].2 = some x→(h'.set b ⟨v,[M.length],fx,lay M (i * 2) (encR (rs[i].1,s5))⟩).f x = h.f x)→NestL (h'.set b ⟨v,[M.length],fx,lay M (i * 2) (encR (rs[i].1,s5))⟩) lo (rs'.set k (rs[i].1,s5)) (cs'.set k c):=by
   intro rs'
   induction rs' with
   | nil =>
    intro cs' k hN _
    cases cs' with
    | nil=>trivial
    | cons _ _=>exact hN.elim
   | cons r rs' ih =>
    intro cs' k hN hk
    cases cs' with
    | nil=>exact hN.elim
    | cons c' cs' =>
     cases k with
     | zero =>
      refine ⟨hcc,hN.2.keep (by simpa using hn) fun x hx=>?_⟩
      obtain ⟨j,hj,e⟩:=mem_blks_inv hx
      exact hk (j + 1) (by simpa using hj) (by omega) x (by simpa using e)
     | succ k =>
      refine ⟨hN.1.keep (by simpa using hn) fun x hx=>hk 0 (by simp) (by omega) x (by simpa using hx),ih cs' k hN.2 fun j hj hjk x hx=>hk (j + 1) (by simpa using hj) (by omega) x (by simpa using hx)⟩
  simpa using key rs cs i col hkeep
 ·refine blks_set_nodup dis hi fun x hx j hj hji e=>?_
  rcases ho x hx with e2 | e2
  ·exact hji (blks_apart dis hj hi e e2)
  ·have:=hlt j hj x e;omega
end Go.Ab
namespace Go.Ab
open Wm
theorem over_zero (h:H):h.over 0 = h:=by
 unfold H.over
 congr 1
theorem RowAt.frz0 {h:H} {lo:Nat} {s:AS} {rs:List RC} {o:Row} (a:RowAt h lo s rs o) (n:Nat):frzS false h (n + 3) s = some (sl 2 encColumn o):=by
 have:=RowAt.frz (h:=H.empty) (Nat.zero_le _) a n
 rwa [show H.empty.next = 0 from rfl,over_zero] at this
theorem NestL.ins {h:H} {lo:Nat}:∀ {rs:List RC} {cs:List Column} {i:Nat} {r:RC} {c:Column},NestL h lo rs cs→ColAt h lo r c→i ≤ rs.length→NestL h lo (rs.insertIdx i r) (cs.insertIdx i c)
 | rs,cs,0,r,c,a,cc,_=>by cases rs <;> cases cs <;> first | exact ⟨cc,a⟩ | exact a.elim
 | r'::rs,c'::cs,i + 1,r,c,a,cc,hi=>by
  simp only [List.insertIdx_succ_cons]
  exact ⟨a.1,NestL.ins a.2 cc (by simpa using hi)⟩
 | [],cs,i + 1,_,_,a,_,hi=>by simp at hi
 | _::_,[],i + 1,_,_,a,_,_=>a.elim
theorem blks_ins {rs:List RC} {i:Nat} (hi:i ≤ rs.length) (n:BL):blks (rs.insertIdx i (n,.nilslc)) = blks rs:=by
 rw [insIdx hi,blks_app]
 have:blks ((n,AS.nilslc)::rs.drop i) = blks (rs.drop i):=by simp [blks,ownB]
 rw [this,← blks_app,List.take_append_drop]
theorem RowAt.insNil {h h':H} {lo:Nat} {s:AS} {rs:List RC} {o:Row} (a:RowAt h lo s rs o) (hlo:lo ≤ h.next) {i:Nat} (hi:i ≤ rs.length) {n:BL} {s':AS} {b v:Nat} {z:List AS} (hs':s' = .slc b v 0 (rs.insertIdx i (n,.nilslc)).length 2 none) (ar:Arr h' encR b v (rs.insertIdx i (n,.nilslc)) z)
  (hn:h.next ≤ h'.next) (hf:∀ x,x < h.next→ownB s ≠ some x→h'.f x = h.f x) (ho:∀ x,ownB s' = some x→ownB s = some x ∨ h.next ≤ x):RowAt h' lo s' (rs.insertIdx i (n,.nilslc)) (some ((ls o).insertIdx i ⟨n,none⟩)) where
 arr:=.inr ⟨b,v,z,hs',ar⟩
 nil:=by rw [hs'];simp
 own x hx:=by
  rw [blks_ins hi]
  rcases ho x hx with e | e
  ·exact a.own x e
  ·exact ⟨by omega,fun hm=>by have:=(a.col.lt x hm).2;omega⟩
 col:=NestL.ins (a.col.keep hn fun x hx=>hf x (a.col.lt x hx).2 fun e=>(a.own x e).2 hx) ⟨rfl,.inl ⟨rfl,rfl⟩,by simp,fun x hx=>by cases hx⟩ hi
 dis:=by rw [blks_ins hi];exact a.dis
end Go.Ab
namespace Go.Ab
theorem lay_c0 (a:AS) (l:List AS) (x:AS) (new:List AS):lay (a::l) 0 (x::new) = x::lay l 0 new:=by simp [lay,Nat.add_comm]
theorem lay_n0 (l:List AS):lay l 0 [] = l:=by simp [lay]
theorem lay_cs (a:AS) (l:List AS) (o:Nat) (new:List AS):lay (a::l) (o + 1) new = a::lay l o new:=by
 simp only [lay,List.take_succ_cons,List.cons_append,List.cons.injEq,true_and]
 congr 2
 rw [Nat.add_right_comm,List.drop_succ_cons]
end Go.Ab
namespace Go.Ab
open Wm
theorem NestL.erase {h:H} {lo:Nat}:∀ {rs:List RC} {cs:List Column} (i:Nat),NestL h lo rs cs→NestL h lo (rs.eraseIdx i) (cs.eraseIdx i)
 | [],[],_,_=>trivial
 | _::_,_::_,0,a=>a.2
 | _::_,_::_,i + 1,a=>⟨a.1,NestL.erase i a.2⟩
theorem RowAt.eraseAt {h h':H} {lo:Nat} {b v:Nat} {rs:List RC} {cs:List Column} (a:RowAt h lo (.slc b v 0 rs.length 2 none) rs (some cs)) {i:Nat} (hi:i < rs.length) (hn:h'.next = h.next) (hf:∀ y,y ≠ b→h'.f y = h.f y) {z':List AS} (ar:Arr h' encR b v (rs.eraseIdx i) z') :
  RowAt h' lo (.slc b v 0 (rs.length - 1) 2 none) (rs.eraseIdx i) (some (cs.eraseIdx i)) where
 arr:=.inr ⟨b,v,z',by rw [List.length_eraseIdx,if_pos hi],ar⟩
 nil:=by simp
 own x hx:=by
  cases hx
  refine ⟨(a.own b rfl).1,fun hm=>(a.own b rfl).2 ?_⟩
  exact ((List.eraseIdx_sublist rs i).filterMap _).subset hm
 col:=(NestL.erase i a.col).keep (by omega) fun x hx=>hf x (by
  rintro rfl
  exact (a.own _ rfl).2 (((List.eraseIdx_sublist rs i).filterMap _).subset hx))
 dis:=a.dis.sublist ((List.eraseIdx_sublist rs i).filterMap _)
end Go.Ab
namespace Wm
open Go Go.Ab
def blt (a b:BL):Bool:=Op.bytesLess a b
abbrev lenB (o:Option BL):Nat:=(ls o).length
def nameOk (s:BL):Bool:=decide (0 < s.length) && decide (s.length ≤ 16)
def valOk (v:Value):Bool:=(v.kind == 1 && decide (lenB v.b ≤ 16)) || v.kind == 2
def asks (k:Int):Bool × Bool × Bool × Bool :=
 if k = 1 ∨ k = 5 then (true,true,true,true) else if k = 2 then (true,true,false,true) else if k = 3 then (true,false,false,true) else if k = 4 then (false,false,false,true) else (false,false,false,false)
def changeWhy (c:Change):Int :=
 let a:=asks c.kind
 if a.2.2.2 = false then 24
 else if (a.1 && !nameOk c.col) || (a.2.1 && (decide (c.time < 0) || decide (1099511627776 < c.time))) || (a.2.2.1 && !valOk c.v) then 1
 else if c.kind = 5∧c.v.kind ≠ 2 then 24 else 0
def condOk (c:Cond):Bool:=!c.has || (nameOk c.col && (!c.want || valOk c.v))
def spanOk (s:Span):Bool:=decide (s.lo.length ≤ 16) && decide (s.hi.length ≤ 16) && (s.hi == [] || blt s.lo s.hi)
def hasName (s:Span) (n:BL):Bool:=!blt n s.lo && (s.hi == [] || blt n s.hi)
def splitOk (s:Span) (at_:BL):Bool:=spanOk s && (blt s.lo at_ && ((s.hi == [] || blt at_ s.hi) && spanOk ⟨s.lo,at_⟩))
def opOk (o:Op):Bool :=
 if o.kind = 1 then nameOk o.row
 else if o.kind = 2 then nameOk o.row && (condOk o.cond && (decide (0 < (ls o.l).length) && (decide ((ls o.l).length ≤ 8) && (ls o.l).all fun c=>changeWhy c == 0)))
 else if o.kind = 3 then spanOk ⟨o.row,o.hi⟩ && (decide (1 ≤ o.most) && decide (o.most ≤ 16))
 else false
def genOk (n:Int):Bool:=decide (1 ≤ n) && decide (n ≤ 1073741824)
def inTo (n m:Int):Bool:=decide (0 ≤ n) && decide (n ≤ m)
def cmdOk (c:Command):Bool :=
 if c.kind = 1 then opOk c.op
 else if c.kind = 2 ∨ c.kind = 4 then spanOk c.span && genOk c.gen
 else if c.kind = 3 then spanOk c.span && (genOk c.gen && decide (lenB c.state ≤ 1048576))
 else if c.kind = 5 ∨ c.kind = 6 then splitOk c.span c.at_ && genOk c.gen
 else if c.kind = 7 then decide (c.at_.length ≤ 16)
 else if c.kind = 8 then c.do_ == 0 || (decide (1 ≤ c.do_) && (decide (c.do_ ≤ 3) && (decide (c.at_.length ≤ 16) && inTo c.to 255)))
 else if c.kind = 9 then genOk c.gen && (c.to == 0 || c.to == -1)
 else c.kind == 10
theorem u8_lt_iff (a b:UInt8):a < b ↔ a.toNat < b.toNat:=Iff.rfl
theorem u8_eq_iff (a b:UInt8):a = b ↔ a.toNat = b.toNat:=⟨fun h=>by rw [h],fun h=>UInt8.toNat_inj.1 h⟩
theorem less_irrefl:∀ a:BL,Op.bytesLess a a = false
 | []=>rfl
 | a::x=>by simp [Op.bytesLess,less_irrefl x]
theorem less_asymm:∀ {a b:BL},Op.bytesLess a b = true→Op.bytesLess b a = false
 | [],[],h=>by cases h
 | [],_::_,_=>rfl
 | _::_,[],h=>by cases h
 | a::x,b::y,h=>by
  simp only [Op.bytesLess,Bool.or_eq_true,decide_eq_true_eq,Bool.and_eq_true,beq_iff_eq] at h
  simp only [Op.bytesLess,Bool.or_eq_false_iff,decide_eq_false_iff_not,Bool.and_eq_false_iff]
  rcases h with h | ⟨rfl,h⟩
  ·rw [u8_lt_iff] at *
   refine ⟨by omega,.inl ?_⟩
   simp;rintro rfl;omega
  ·exact ⟨by rw [u8_lt_iff];omega,.inr (less_asymm h)⟩
theorem less_total:∀ {a b:BL},Op.bytesLess a b = false→Op.bytesLess b a = false→a = b
 | [],[],_,_=>rfl
 | [],_::_,h,_=>by cases h
 | _::_,[],_,h=>by cases h
 | a::x,b::y,h,k=>by
  simp only [Op.bytesLess,Bool.or_eq_false_iff,decide_eq_false_iff_not,Bool.and_eq_false_iff,beq_eq_false_iff_ne] at h k
  have hab:a = b:=by
   rw [u8_eq_iff]
   have h1:=h.1;have k1:=k.1
   rw [u8_lt_iff] at h1 k1;omega
  subst hab
  have h2:Op.bytesLess x y = false:=by rcases h.2 with h | h;exact absurd rfl h;exact h
  have k2:Op.bytesLess y x = false:=by rcases k.2 with h | h;exact absurd rfl h;exact h
  rw [less_total h2 k2]
theorem less_trans:∀ {a b c:BL},Op.bytesLess a b = true→Op.bytesLess b c = true→Op.bytesLess a c = true
 | [],[],_,h,_=>by cases h
 | _::_,[],_,h,_=>by cases h
 | _,_::_,[],_,h=>by cases h
 | [],_::_,_::_,_,_=>rfl
 | a::x,b::y,c::z,h,k=>by
  simp only [Op.bytesLess,Bool.or_eq_true,decide_eq_true_eq,Bool.and_eq_true,beq_iff_eq] at h k ⊢
  rcases h with h | ⟨rfl,h⟩
  ·rcases k with k | ⟨rfl,k⟩
   ·left;rw [u8_lt_iff] at *;omega
   ·exact .inl h
  ·rcases k with k | ⟨rfl,k⟩
   ·exact .inl k
   ·exact .inr ⟨rfl,less_trans h k⟩
@[simp] theorem less_or_eq (a b:BL):(Op.bytesLess a b || a == b) = !Op.bytesLess b a:=by
 cases h:Op.bytesLess a b
 ·cases k:Op.bytesLess b a
  ·simp [less_total h k]
  ·simp;rintro rfl;rw [less_irrefl] at k;cases k
 ·simp [less_asymm h]
@[simp ↓] theorem dle_8 (n:Nat):decide ((n:Int) ≤ 8) = decide (n ≤ 8):=by rw [decide_eq_decide];omega
@[simp ↓] theorem dlt_8 (n:Nat):decide ((8:Int) < n) = decide (8 < n):=by rw [decide_eq_decide];omega
@[simp] theorem le_8 (n:Nat):((n:Int) ≤ 8) = (n ≤ 8):=by apply propext;omega
@[simp] theorem lt_8 (n:Nat):((8:Int) < n) = (8 < n):=by apply propext;omega
@[simp ↓] theorem dle_16 (n:Nat):decide ((n:Int) ≤ 16) = decide (n ≤ 16):=by rw [decide_eq_decide];omega
@[simp ↓] theorem dlt_16 (n:Nat):decide ((16:Int) < n) = decide (16 < n):=by rw [decide_eq_decide];omega
@[simp] theorem le_16 (n:Nat):((n:Int) ≤ 16) = (n ≤ 16):=by apply propext;omega
@[simp] theorem lt_16 (n:Nat):((16:Int) < n) = (16 < n):=by apply propext;omega
@[simp ↓] theorem dle_255 (n:Nat):decide ((n:Int) ≤ 255) = decide (n ≤ 255):=by rw [decide_eq_decide];omega
@[simp ↓] theorem dlt_255 (n:Nat):decide ((255:Int) < n) = decide (255 < n):=by rw [decide_eq_decide];omega
@[simp] theorem le_255 (n:Nat):((n:Int) ≤ 255) = (n ≤ 255):=by apply propext;omega
@[simp] theorem lt_255 (n:Nat):((255:Int) < n) = (255 < n):=by apply propext;omega
@[simp ↓] theorem dle_1048576 (n:Nat):decide ((n:Int) ≤ 1048576) = decide (n ≤ 1048576):=by rw [decide_eq_decide];omega
@[simp ↓] theorem dlt_1048576 (n:Nat):decide ((1048576:Int) < n) = decide (1048576 < n):=by rw [decide_eq_decide];omega
@[simp] theorem le_1048576 (n:Nat):((n:Int) ≤ 1048576) = (n ≤ 1048576):=by apply propext;omega
@[simp] theorem lt_1048576 (n:Nat):((1048576:Int) < n) = (1048576 < n):=by apply propext;omega
@[simp ↓] theorem dle_65535 (n:Nat):decide ((n:Int) ≤ 65535) = decide (n ≤ 65535):=by rw [decide_eq_decide];omega
@[simp ↓] theorem dlt_65535 (n:Nat):decide ((65535:Int) < n) = decide (65535 < n):=by rw [decide_eq_decide];omega
@[simp] theorem le_65535 (n:Nat):((n:Int) ≤ 65535) = (n ≤ 65535):=by apply propext;omega
@[simp] theorem lt_65535 (n:Nat):((65535:Int) < n) = (65535 < n):=by apply propext;omega
@[simp ↓] theorem dle_256 (n:Nat):decide ((n:Int) ≤ 256) = decide (n ≤ 256):=by rw [decide_eq_decide];omega
@[simp ↓] theorem dlt_256 (n:Nat):decide ((256:Int) < n) = decide (256 < n):=by rw [decide_eq_decide];omega
@[simp] theorem le_256 (n:Nat):((n:Int) ≤ 256) = (n ≤ 256):=by apply propext;omega
@[simp] theorem lt_256 (n:Nat):((256:Int) < n) = (256 < n):=by apply propext;omega
def be:Nat→Nat→BL
 | 0,_=>[]
 | k + 1,n=>UInt8.ofNat (n / 256 ^ k)::be k n
theorem be_length:∀ k n,(be k n).length = k
 | 0,_=>rfl
 | k + 1,n=>by simp [be,be_length k n]
def u8 (n:Int):UInt8:=UInt8.ofNat (n % 256).toNat
def u32 (n:Int):Nat:=(n % 4294967296).toNat
def u64 (n:Int):Nat:=(n % 18446744073709551616).toNat
def textB (b:BL):BL:=be 4 b.length++b
def num4 (n:Int):BL:=be 4 (u32 n)
def num8 (n:Int):BL:=be 8 (u64 n)
def canF (b:Nat):Nat:=if NumPlain.isN b then 9221120237041090561 else b
def encVal (v:Value):BL:=if v.kind = 1 then 1::textB (ls v.b) else if v.kind = 2 then 2::be 8 (canF v.n) else [0]
def encSpn (s:Span):BL:=textB s.lo++textB s.hi
end Wm
namespace Wm
open Go Go.Ab
def withinI (n lo hi:Int):Int:=if lo ≤ n∧n ≤ hi then n else lo + (if n.tmod (hi - lo + 1) < 0 then n.tmod (hi - lo + 1) + hi - lo + 1 else n.tmod (hi - lo + 1))
theorem withinI_bounds {n lo hi:Int} (h:lo ≤ hi):lo ≤ withinI n lo hi∧withinI n lo hi ≤ hi:=by
 unfold withinI
 split
 ·assumption
 ·have hd:0 < hi - lo + 1:=by omega
  have h1:=Int.tmod_lt_of_pos n hd
  have h2:-(hi - lo + 1) < n.tmod (hi - lo + 1):=by
   rcases Int.le_total 0 n with h | h
   ·have:=Int.tmod_nonneg (hi - lo + 1) h;omega
   ·have h3:=Int.tmod_lt_of_pos (-n) hd
    rw [Int.neg_tmod] at h3;omega
  split <;> omega
def m20 (n:Int):Int:=withinI n 0 1048576
theorem m20_bounds (n:Int):0 ≤ m20 n∧m20 n ≤ 1048576:=withinI_bounds (by omega)
def rowNames:List BL:=[[97],[98],[109],[110],[122],[109,97],[122,122],[48]]
def colNames:List BL:=[[120],[121],[119],[118],[108,111,110,103,46,110,97,109,101,46,49,54,46,98,121,116]]
def pickN (l:List BL) (n:Int):BL:=(l[(m20 n % l.length).toNat]?).getD []
def keepRow (n:Int):BL:=pickN rowNames n
def keepCol (n:Int):BL:=pickN colNames n
def cutB (o:Option BL) (n:Nat):Option BL:=if n < (ls o).length then some ((ls o).take n) else o
def kFloat (n:Int) (x:Nat):Nat :=
 let m:=m20 n % 9
 if m = 0 then 0 else if m = 1 then 9223372036854775808 else if m = 2 then 9218868437227405312 else if m = 3 then 18442240474082181120 else if m = 4 then 9221120237041090561
 else if m = 5 then 18444492273895866659 else if m = 6 then FloatKind.nearest .f64 (m20 n % 20 - 9) else x
def kValue (v:KV):Value:=if v.text then ⟨1,cutB v.b 16,0⟩ else ⟨2,none,kFloat v.n v.x⟩
def kChange (c:KC):Change :=
 let k:=1 + m20 c.kind % 5
 if k = 5 then ⟨5,keepCol c.col,withinI c.time 0 30,⟨2,none,kFloat c.v.n c.v.x⟩⟩
 else if k = 2 then ⟨2,keepCol c.col,withinI c.time 0 30,⟨0,none,0⟩⟩
 else if k = 3 then ⟨3,keepCol c.col,0,⟨0,none,0⟩⟩
 else if k = 4 then ⟨4,[],0,⟨0,none,0⟩⟩
 else ⟨k,keepCol c.col,withinI c.time 0 30,kValue c.v⟩
def kChanges (o:Option (List KC)):Option (List Change):=opt (((ls o).take 4).map kChange)
def noCond:Cond:=⟨false,false,[],⟨0,none,0⟩⟩
def kOp (o:KO):Op :=
 if m20 o.kind % 6 = 0 then ⟨1,keepRow o.row,[],noCond,none,0⟩
 else if m20 o.kind % 6 = 1 then
  let r:=if o.has then [] else keepRow o.row
  ⟨3,r,if Op.bytesLess r (keepRow o.hi) then keepRow o.hi else [],noCond,none,1 + m20 o.most % 16⟩
 else ⟨2,keepRow o.row,[],if o.has then ⟨true,o.want,keepCol o.col,if o.want then kValue o.v else ⟨0,none,0⟩⟩ else noCond,
  if ls (kChanges o.l) = [] then some [⟨5,[120],5,⟨2,none,4607182418800017408⟩⟩] else kChanges o.l,0⟩
@[simp] theorem less_nil (a:BL):Op.bytesLess a [] = false:=by cases a <;> rfl
@[simp] theorem nil_less (a:BL):Op.bytesLess [] a = !a.isEmpty:=by cases a <;> rfl
@[simp] theorem sl_none {α:Type} (s:Nat) (enc:α→List AS):sl s enc none = .nilslc:=rfl
end Wm
namespace Wm
open Go Go.Ab
theorem pickN_mem {l:List BL} (hl:l ≠ []) (n:Int):pickN l n ∈ l:=by
 unfold pickN
 have hp:0 < l.length:=List.length_pos_iff.2 hl
 have h0:=Int.emod_nonneg (m20 n) (show (l.length:Int) ≠ 0 by omega)
 have h1:=Int.emod_lt_of_pos (m20 n) (show (0:Int) < l.length by omega)
 have hk:(m20 n % l.length).toNat < l.length:=by omega
 rw [List.getElem?_eq_getElem hk,Option.getD_some]
 exact List.getElem_mem hk
theorem row_ok (n:Int):nameOk (keepRow n) = true:=by
 have h:∀ s ∈ rowNames,nameOk s = true:=by decide
 exact h _ (pickN_mem (by decide) n)
theorem col_ok (n:Int):nameOk (keepCol n) = true:=by
 have h:∀ s ∈ colNames,nameOk s = true:=by decide
 exact h _ (pickN_mem (by decide) n)
theorem name_len {s:BL} (h:nameOk s = true):s.length ≤ 16:=by
 unfold nameOk at h;simp only [Bool.and_eq_true,decide_eq_true_eq] at h;exact h.2
theorem cut_len (o:Option BL) (n:Nat):(ls (cutB o n)).length ≤ n:=by
 unfold cutB;split
 ·simp;omega
 ·omega
theorem value_ok (v:KV):valOk (kValue v) = true∧(ls (kValue v).b).length ≤ 16:=by
 unfold kValue
 have:=cut_len v.b 16
 split <;> simp [valOk,lenB,this]
theorem change_ok (c:KC):changeWhy (kChange c) = 0∧(kChange c).col.length ≤ 16∧(ls (kChange c).v.b).length ≤ 16:=by
 have hb:=m20_bounds c.kind
 have hc:=col_ok c.col
 have hl:=name_len hc
 have hv:=value_ok c.v
 have ht:=@withinI_bounds c.time 0 30 (by omega)
 obtain ⟨k,hk⟩:∃ k,1 + m20 c.kind % 5 = k:=⟨_,rfl⟩
 have hk5:k = 1 ∨ k = 2 ∨ k = 3 ∨ k = 4 ∨ k = 5:=by omega
 have e1:decide (withinI c.time 0 30 < 0) = false:=by simp;omega
 have e2:decide (1099511627776 < withinI c.time 0 30) = false:=by simp;omega
 have e3:valOk ⟨2,none,kFloat c.v.n c.v.x⟩ = true:=by simp [valOk]
 unfold kChange
 rcases hk5 with rfl | rfl | rfl | rfl | rfl <;> simp only [hk] <;> simp [changeWhy,asks,hc,hl,hv,e1,e2,e3]
theorem changes_ok (o:Option (List KC)):(∀ c ∈ ls (kChanges o),changeWhy c = 0∧c.col.length ≤ 16∧(ls c.v.b).length ≤ 16)∧(ls (kChanges o)).length ≤ 4:=by
 unfold kChanges
 rw [ls_opt]
 refine ⟨fun c hc=>?_,by simp;omega⟩
 obtain ⟨x,_,rfl⟩:=List.mem_map.1 hc
 exact change_ok x
structure OpIs (o:Op):Prop where
 ok:opOk o = true
 row:o.row.length ≤ 16
 hi:o.hi.length ≤ 16
 col:o.cond.col.length ≤ 16
 cv:(ls o.cond.v.b).length ≤ 16
 l:∀ c ∈ ls o.l,c.col.length ≤ 16∧(ls c.v.b).length ≤ 16
 n:(ls o.l).length ≤ 4
theorem if_len {p:Prop} [Decidable p] {s t:BL} (hs:s.length ≤ 16) (ht:t.length ≤ 16):(if p then s else t).length ≤ 16:=by split <;> assumption
theorem kOp_is (o:KO):OpIs (kOp o):=by
 have hr:=row_ok o.row
 have hh:=row_ok o.hi
 have hc:=col_ok o.col
 have hv:=value_ok o.v
 have hb:=m20_bounds o.most
 obtain ⟨h1,h2⟩:=changes_ok o.l
 unfold kOp
 split
 ·exact ⟨by simp [opOk,hr],name_len hr,by simp,by simp [noCond],by simp [noCond],by simp,by simp⟩
 split
 ·have hl:(if o.has then [] else keepRow o.row:BL).length ≤ 16:=if_len (by simp) (name_len hr)
  have hl2:(if Op.bytesLess (if o.has then [] else keepRow o.row) (keepRow o.hi) then keepRow o.hi else []:BL).length ≤ 16:=if_len (name_len hh) (by simp)
  refine ⟨?_,hl,hl2,by simp [noCond],by simp [noCond],by simp,by simp⟩
  have h3:decide (1 ≤ 1 + m20 o.most % 16) = true:=by simp;omega
  have h4:decide (1 + m20 o.most % 16 ≤ 16) = true:=by simp;omega
  simp only [opOk,spanOk,blt]
  simp only [hl,hl2,h3,h4,decide_true,Bool.true_and,Bool.and_true]
  by_cases hq:Op.bytesLess (if o.has then [] else keepRow o.row) (keepRow o.hi) = true
  ·simp [hq]
  ·simp [hq]
 ·have hcl:(∀ c ∈ ls (if ls (kChanges o.l) = [] then some [⟨5,[120],5,⟨2,none,4607182418800017408⟩⟩] else kChanges o.l:Option (List Change)),changeWhy c = 0∧c.col.length ≤ 16∧(ls c.v.b).length ≤ 16)∧0 < (ls (if ls (kChanges o.l) = [] then some [⟨5,[120],5,⟨2,none,4607182418800017408⟩⟩] else kChanges o.l:Option (List Change))).length∧(ls (if ls (kChanges o.l) = [] then some [⟨5,[120],5,⟨2,none,4607182418800017408⟩⟩] else kChanges o.l:Option (List Change))).length ≤ 4:=by
   split
   ·refine ⟨fun c hc=>?_,by simp,by simp⟩
    simp at hc;subst hc
    simp [changeWhy,asks,nameOk,valOk]
   ·rename_i hne
    exact ⟨h1,List.length_pos_iff.2 hne,h2⟩
  obtain ⟨g1,g2,g3⟩:=hcl
  have hcd:∀ cd:Cond,cd = (if o.has then ⟨true,o.want,keepCol o.col,if o.want then kValue o.v else ⟨0,none,0⟩⟩ else noCond)→condOk cd = true∧cd.col.length ≤ 16∧(ls cd.v.b).length ≤ 16:=by
   rintro cd rfl
   have hl:=name_len hc
   by_cases q1:o.has = true <;> by_cases q2:o.want = true <;> simp [q1,q2,condOk,noCond,hc,hl,hv]
  obtain ⟨c1,c2,c3⟩:=hcd _ rfl
  refine ⟨?_,name_len hr,by simp,c2,c3,fun c hc=>(g1 c hc).2,g3⟩
  have g4:(ls (if ls (kChanges o.l) = [] then some [⟨5,[120],5,⟨2,none,4607182418800017408⟩⟩] else kChanges o.l:Option (List Change))).all (fun c=>changeWhy c == 0) = true:=by
   rw [List.all_eq_true];intro c hc;simp [(g1 c hc).1]
  simp only [opOk,hr,c1,g4,g2,decide_true,Bool.true_and,Bool.and_true]
  simp;omega
end Wm
namespace Wm
open Go Go.Ab
def numB (l:BL):Nat:=l.foldl (fun a b=>a * 256 + b.toNat) 0
@[simp] theorem numB_nil:numB [] = 0:=rfl
end Wm
namespace Wm
variable {α:Type}
theorem snoc_ind {P:List α→Prop} (h0:P []) (h1:∀ l x,P l→P (l++[x])) (l:List α):P l:=by
 have:∀ n (l:List α),l.length = n→P l:=by
  intro n
  induction n with
  | zero=>intro l h;rw [List.eq_nil_of_length_eq_zero h];exact h0
  | succ n ih =>
   intro l h
   have hne:l ≠ []:=by rintro rfl;simp at h
   rw [← List.dropLast_concat_getLast hne]
   exact h1 _ _ (ih _ (by simp [h]))
 exact this _ l rfl
def insR (lt:α→α→Bool) (x:α):List α→List α
 | []=>[x]
 | y::r=>if lt x y then y::insR lt x r else x::y::r
def ins (lt:α→α→Bool) (x:α) (s:List α):List α:=(insR lt x s.reverse).reverse
def isort (lt:α→α→Bool) (l:List α):List α:=l.foldl (fun s x=>ins lt x s) []
@[simp] theorem ins_nil (lt:α→α→Bool) (x:α):ins lt x [] = [x]:=rfl
theorem ins_snoc (lt:α→α→Bool) (x y:α) (s:List α):ins lt x (s++[y]) = if lt x y then ins lt x s++[y] else s++[y,x]:=by
 simp only [ins,List.reverse_append,List.reverse_cons,List.reverse_nil,List.nil_append,List.cons_append,insR]
 split <;> simp
theorem ins_app (lt:α→α→Bool) (x:α) (s u:List α):(∀ y ∈ u,lt x y = true)→ins lt x (s++u) = ins lt x s++u:=by
 refine snoc_ind (P:=fun u=>(∀ y ∈ u,lt x y = true)→ins lt x (s++u) = ins lt x s++u) (by simp) (fun u y ih h=>?_) u
 rw [← List.append_assoc,ins_snoc,if_pos (h y (by simp)),ih fun z hz=>h z (by simp [hz]),List.append_assoc]
@[simp] theorem isort_nil (lt:α→α→Bool):isort lt ([]:List α) = []:=rfl
theorem isort_snoc (lt:α→α→Bool) (l:List α) (x:α):isort lt (l++[x]) = ins lt x (isort lt l):=by simp [isort,List.foldl_append]
theorem ins_length (lt:α→α→Bool) (x:α) (s:List α):(ins lt x s).length = s.length + 1:=by
 refine snoc_ind (P:=fun s=>(ins lt x s).length = s.length + 1) rfl (fun u y ih=>?_) s
 rw [ins_snoc];split <;> simp [ih]
@[simp] theorem isort_length (lt:α→α→Bool) (l:List α):(isort lt l).length = l.length:=by
 refine snoc_ind (P:=fun l=>(isort lt l).length = l.length) rfl (fun u y ih=>?_) l
 rw [isort_snoc,ins_length,ih];simp
theorem ins_perm (lt:α→α→Bool) (x:α) (s:List α):(ins lt x s).Perm (s++[x]):=by
 refine snoc_ind (P:=fun s=>(ins lt x s).Perm (s++[x])) (.refl _) (fun u y ih=>?_) s
 rw [ins_snoc];split
 ·refine (ih.append_right [y]).trans ?_
  rw [List.append_assoc,List.append_assoc]
  exact List.Perm.append_left u (List.Perm.swap y x [])
 ·rw [List.append_assoc];exact .refl _
theorem isort_perm (lt:α→α→Bool) (l:List α):(isort lt l).Perm l:=by
 refine snoc_ind (P:=fun l=>(isort lt l).Perm l) (.refl _) (fun u y ih=>?_) l
 rw [isort_snoc];exact (ins_perm lt y _).trans (ih.append_right [y])
end Wm
namespace Go.Ab
open Wm
section
variable (P:Program) (cmp:Nat→Option (List AS)) (fr:Fr) (h:H) (d:Option Nat) (ty:TypeId) (pos:String) (af:Array Edge) (g:Option (Nat × Bool))
def ifcA (u:TypeDesc) (t:TypeId) (a:AS) (h:H):Option OR:=match u with | .interface _=>none | _=>some (.val (.one (.ifc t a)) h)
@[simp] theorem ifcA_ptr (e t:TypeId) (a:AS):ifcA (.pointer e) t a h = some (.val (.one (.ifc t a)) h):=rfl
@[simp] theorem sop_makeInterface (t:TypeId) (x:Operand):opA P cmp fr h ⟨d,.makeInterface t x,ty,pos,af,g⟩ = (evS fr x).bind fun a=>(P.underlying t).bind fun u=>ifcA u t a h:=by
 simp only [opA,oqE]
 congr 1
def panA (a:AS) (h:H):Option OR:=match a with | .ifc t v=>some (.pan (.ifc t v) h) | _=>none
@[simp] theorem panA_ifc (t:Nat) (v:AS):panA (.ifc t v) h = some (.pan (.ifc t v) h):=rfl
@[simp] theorem sop_panic (x:Operand):opA P cmp fr h ⟨d,.panic x,ty,pos,af,g⟩ = (evS fr x).bind fun a=>panA a h:=by
 simp only [opA,oqE]
 congr 1
end
abbrev rdB (o:Option BL):Blk:=⟨0,[1],true,[bs o]⟩
structure RS (h0 h:H) (q:Nat) (o:Option BL) (kept:List (Nat × Blk)):Prop where
 lt:q < h0.next
 rd:h.f q = some (rdB o)
 room:(ls o).length ≤ 1099511627776
 next:h0.next ≤ h.next
 same:∀ b,b < h0.next→b ≠ q→h.f b = h0.f b
 kp:keptP h kept
 ok:∀ e ∈ kept,e.1 < h.next∧e.1 ≠ q
 dis:kept.Pairwise fun a b=>a.1 ≠ b.1
theorem RS.start {h:H} {q:Nat} {o:Option BL} (hq:q < h.next) (hf:h.f q = some (rdB o)) (hl:(ls o).length ≤ 1099511627776):RS h h q o []:=⟨hq,hf,hl,Nat.le_refl _,fun _ _ _=>rfl,trivial,by simp,.nil⟩
theorem RS.new {h0 h:H} {q:Nat} {o:Option BL} {kept:List (Nat × Blk)} (w:RS h0 h q o kept) (k:Blk):RS h0 (h.new k) q o ((h.next,k)::kept) where
 lt:=w.lt
 rd:=by rw [new_at,if_neg (by have:=w.lt;have:=w.next;omega)];exact w.rd
 room:=w.room
 next:=Nat.le_trans w.next (by simp)
 same b hb hq:=by rw [new_at,if_neg (by have:=w.next;omega)];exact w.same b hb hq
 kp:=⟨by simp,keptP_same (fun e he=>by rw [new_at,if_neg (by have:=(w.ok e he).1;omega)]) w.kp⟩
 ok e he:=by
  rcases List.mem_cons.1 he with rfl | he
  ·have:=w.lt;have:=w.next;exact ⟨by simp,by simp only;omega⟩
  ·have:=w.ok e he;exact ⟨by simp only [new_next];omega,this.2⟩
 dis:=.cons (fun e he=>by have:=(w.ok e he).1;simp only;omega) w.dis
theorem RS.drop {h0 h:H} {q:Nat} {o:Option BL} {kept:List (Nat × Blk)} (w:RS h0 h q o kept):RS h0 h q o []:=⟨w.lt,w.rd,w.room,w.next,w.same,trivial,by simp,.nil⟩
theorem RS.swap {h0 h:H} {q:Nat} {o:Option BL} {e e':Nat × Blk} {kept:List (Nat × Blk)} (w:RS h0 h q o (e::e'::kept)):RS h0 h q o (e'::e::kept) where
 lt:=w.lt
 rd:=w.rd
 room:=w.room
 next:=w.next
 same:=w.same
 kp:=⟨w.kp.2.1,w.kp.1,w.kp.2.2⟩
 ok x hx:=w.ok x (by simp at hx ⊢;rcases hx with h | h | h <;> simp [h])
 dis:=by
  have:=w.dis
  simp only [List.pairwise_cons,List.mem_cons,forall_eq_or_imp] at this ⊢
  exact ⟨⟨Ne.symm this.1.1,this.2.1⟩,this.1.2,this.2.2⟩
theorem RS.trans {h0 h h':H} {q:Nat} {o o':Option BL} {kept:List (Nat × Blk)} (w:RS h0 h q o kept) (v:RS h h' q o' []):RS h0 h' q o' kept where
 lt:=w.lt
 rd:=v.rd
 room:=v.room
 next:=Nat.le_trans w.next v.next
 same b hb hq:=by rw [v.same b (Nat.lt_of_lt_of_le hb w.next) hq,w.same b hb hq]
 kp:=keptP_same (fun e he=>v.same _ (w.ok e he).1 (w.ok e he).2) w.kp
 ok e he:=⟨Nat.lt_of_lt_of_le (w.ok e he).1 v.next,(w.ok e he).2⟩
 dis:=w.dis
def apart1 (x:Nat):List (Nat × Blk)→Prop
 | []=>True
 | e::l=>(¬ x = e.1∧¬ e.1 = x)∧apart1 x l
def apartP:List (Nat × Blk)→Prop
 | []=>True
 | e::l=>apart1 e.1 l∧apartP l
theorem apart1_of {x:Nat}:∀ {l:List (Nat × Blk)},(∀ e ∈ l,x ≠ e.1)→apart1 x l
 | [],_=>trivial
 | e::l,h=>⟨⟨h e (by simp),Ne.symm (h e (by simp))⟩,apart1_of fun a ha=>h a (by simp [ha])⟩
theorem apartP_of:∀ {l:List (Nat × Blk)},l.Pairwise (fun a b=>a.1 ≠ b.1)→apartP l
 | [],_=>trivial
 | e::l,h=>⟨apart1_of (List.pairwise_cons.1 h).1,apartP_of (List.pairwise_cons.1 h).2⟩
def factsP (h:H) (q:Nat) (kept:List (Nat × Blk)):Prop:=keptP h kept∧apart1 h.next kept∧apart1 q kept∧apartP kept
theorem RS.facts {h0 h:H} {q:Nat} {o:Option BL} {kept:List (Nat × Blk)} (w:RS h0 h q o kept):factsP h q kept :=
 ⟨w.kp,apart1_of fun e he=>by have:=(w.ok e he).1;omega,apart1_of fun e he=>Ne.symm (w.ok e he).2,apartP_of w.dis⟩
end Go.Ab
namespace Wm
open Go Go.Ab
def chain {α:Type} (r:α→α→Bool):List α→Bool
 | a::b::l=>r a b && chain r (b::l)
 | _=>true
section
variable {α:Type} {r:α→α→Bool}
@[simp] theorem chain_nil:chain r [] = true:=rfl
@[simp] theorem chain_one (a:α):chain r [a] = true:=rfl
theorem chain_snoc (l:List α) (y x:α):chain r (l++[y,x]) = (chain r (l++[y]) && r y x):=by
 induction l with
 | nil=>simp [chain]
 | cons a l ih =>
  cases l with
  | nil=>simp [chain]
  | cons b l=>simp only [List.cons_append,chain] at ih ⊢;rw [ih,Bool.and_assoc]
theorem chain_mid {l:List α} {y x:α} {q:List α} (h:r y x = false):chain r (l++y::x::q) = false:=by
 induction l with
 | nil=>simp [chain,h]
 | cons a l ih =>
  cases l with
  | nil=>simp [chain,h]
  | cons b l=>simp only [List.cons_append,chain] at ih ⊢;rw [ih,Bool.and_false]
theorem chain_app_left {l q:List α} (h:chain r (l++q) = true):chain r l = true:=by
 induction l with
 | nil=>rfl
 | cons a l ih =>
  cases l with
  | nil=>rfl
  | cons b l =>
   simp only [List.cons_append,chain,Bool.and_eq_true] at h ih ⊢
   exact ⟨h.1,ih h.2⟩
theorem chain_tail {a:α} {l:List α} (h:chain r (a::l) = true):chain r l = true:=by
 cases l with
 | nil=>rfl
 | cons b l=>simp only [chain,Bool.and_eq_true] at h;exact h.2
theorem chain_app_right {l q:List α} (h:chain r (l++q) = true):chain r q = true:=by
 induction l with
 | nil=>exact h
 | cons a l ih=>exact ih (chain_tail h)
theorem chain_all (ht:∀ a b c,r a b = true→r b c = true→r a c = true):∀ {a:α} {l:List α},chain r (a::l) = true→∀ x ∈ l,r a x = true
 | a,[],_,x,hx=>by simp at hx
 | a,b::l,h,x,hx=>by
  simp only [chain,Bool.and_eq_true] at h
  rcases List.mem_cons.1 hx with rfl | hx
  ·exact h.1
  ·exact ht _ _ _ h.1 (chain_all ht h.2 x hx)
theorem chain_map {β:Type} {s:β→β→Bool} {f:α→β} (hf:∀ a b,s (f a) (f b) = r a b):∀ l:List α,chain s (l.map f) = chain r l
 | []=>rfl
 | [_]=>rfl
 | a::b::l=>by
  have:=chain_map hf (b::l)
  simp only [List.map_cons,chain,hf] at this ⊢
  rw [this]
end
theorem snoc_cases {α:Type} (l:List α):l = [] ∨ ∃ a x,l = a++[x]:=by
 cases h:l.reverse with
 | nil=>left;simpa using h
 | cons x a=>right;exact ⟨a.reverse,x,by rw [← List.reverse_reverse l,h];simp⟩
def verB (x:Version):Bool:=!decide (x.time < 0) && (!decide (1099511627776 < x.time) && valOk x.v)
def verLt (a b:Version):Bool:=!decide (a.time ≤ b.time)
def colLt (a b:Column):Bool:=blt a.name b.name
def colB (c:Column):Bool:=nameOk c.name && (decide (1 ≤ (ls c.l).length) && decide ((ls c.l).length ≤ 2)) && ((ls c.l).all verB && chain verLt (ls c.l))
def rowB (o:Row):Bool:=(ls o).all colB && chain colLt (ls o) && decide ((ls o).length ≤ 4)
def valCan (v:Value):Value:=if v.kind = 1 then ⟨1,v.b,0⟩ else if v.kind = 2 then ⟨2,none,canF v.n⟩ else ⟨0,none,0⟩
def verCan (x:Version):Version:=⟨x.time,valCan x.v⟩
def colCan (c:Column):Column:=⟨c.name,nz ((ls c.l).map verCan)⟩
def rowCopy (o:Row):Row:=if rowB o then nz ((ls o).map colCan) else none
theorem canF_idem (b:Nat):canF (canF b) = canF b:=by
 unfold canF
 by_cases h:NumPlain.isN b = true
 ·rw [if_pos h,if_pos (by decide +kernel)]
 ·rw [if_neg h,if_neg h]
theorem valCan_idem (v:Value):valCan (valCan v) = valCan v:=by
 unfold valCan
 by_cases h1:v.kind = 1
 ·simp [h1]
 ·by_cases h2:v.kind = 2
  ·simp [h2,canF_idem]
  ·simp [h1,h2]
theorem valCan_ok {v:Value} (h:valOk v = true):valOk (valCan v) = true:=by
 unfold valOk valCan at *
 by_cases h1:v.kind = 1
 ·simp [h1] at h ⊢;exact h
 ·by_cases h2:v.kind = 2
  ·simp [h2]
  ·simp [h1,h2] at h
theorem verCan_idem (x:Version):verCan (verCan x) = verCan x:=by simp [verCan,valCan_idem]
theorem verCan_ok {x:Version} (h:verB x = true):verB (verCan x) = true:=by
 simp only [verB,Bool.and_eq_true] at h ⊢
 exact ⟨h.1,h.2.1,valCan_ok h.2.2⟩
theorem colCan_idem (c:Column):colCan (colCan c) = colCan c:=by
 simp only [colCan,ls_nz,List.map_map]
 congr 2
 apply List.map_congr_left
 intro x _;exact verCan_idem x
theorem colCan_ok {c:Column} (h:colB c = true):colB (colCan c) = true:=by
 simp only [colB,Bool.and_eq_true,colCan,ls_nz,List.length_map] at h ⊢
 refine ⟨h.1, ?_, ?_⟩
 ·rw [List.all_map,List.all_eq_true]
  intro x hx
  exact verCan_ok (List.all_eq_true.1 h.2.1 x hx)
 ·rw [chain_map (r:=verLt) (f:=verCan) (fun a b=>rfl)];exact h.2.2
theorem rowB_nz (l:List Column):rowB (nz l) = rowB (some l):=by cases l <;> simp [rowB]
theorem rowCopy_ok (o:Row):rowB (rowCopy o) = true:=by
 unfold rowCopy
 split
 ·rename_i h
  rw [rowB_nz]
  simp only [rowB,Bool.and_eq_true,ls_some,List.length_map] at h ⊢
  refine ⟨⟨?_, ?_⟩,h.2⟩
  ·rw [List.all_map,List.all_eq_true]
   intro x hx
   exact colCan_ok (List.all_eq_true.1 h.1.1 x hx)
  ·rw [chain_map (r:=colLt) (f:=colCan) (fun a b=>rfl)];exact h.1.2
 ·rfl
theorem rowCopy_idem (o:Row):rowCopy (rowCopy o) = rowCopy o:=by
 have h:=rowCopy_ok o
 have e:rowCopy (rowCopy o) = nz ((ls (rowCopy o)).map colCan):=by rw [rowCopy.eq_1 (rowCopy o),if_pos h]
 rw [e]
 unfold rowCopy
 split
 ·simp only [ls_nz,List.map_map]
  congr 1
  apply List.map_congr_left
  intro x _;exact colCan_idem x
 ·rfl
def colIx (l:List Column) (n:BL):Nat:=(l.takeWhile fun c=>blt c.name n).length
def colAt (l:List Column) (n:BL):Bool:=match l[colIx l n]? with | some c=>c.name == n | none=>false
def colPut (l:List Version) (t:Int) (v:Value):List Version :=
 let m:=l.filter fun x=>!(x.time == t)
 (m.insertIdx (m.takeWhile fun x=>decide (t < x.time)).length ⟨t,valCan v⟩).take 2
def colSet (l:List Column) (i:Nat) (n:BL) (f:List Version→List Version):List Column:=l.take i++⟨n,some (f (ls ((l[i]?).bind (·.l))))⟩::l.drop (i + 1)
def rowPut (r:Row) (n:BL) (t:Int) (v:Value):Row × Int :=
 if (nameOk n && (!decide (t < 0) && (!decide (1099511627776 < t) && valOk v))) = false then (none,1) else
 let out:=ls (rowCopy r)
 if colAt out n = false∧out.length = 4 then (none,13) else
 let out1:=if colAt out n then out else out.insertIdx (colIx out n) ⟨n,none⟩
 (rowCopy (some (colSet out1 (colIx out n) n fun l=>colPut l t v)),0)
def rowDrop (r:Row) (n:BL) (t:Int):Row :=
 let out:=ls (rowCopy r)
 if colAt out n = false then rowCopy r else
 let l:=(ls ((out[colIx out n]?).bind (·.l))).filter fun x=>!(x.time == t)
 if l = [] then rowCopy (some (out.eraseIdx (colIx out n))) else rowCopy (some (colSet out (colIx out n) n fun _=>l))
def rowDropCol (r:Row) (n:BL):Row :=
 let out:=ls (rowCopy r)
 if colAt out n = false then rowCopy (rowCopy r) else rowCopy (some (out.eraseIdx (colIx out n)))
theorem tw_lt {α:Type} {p:α→Bool}:∀ {l:List α} {k:Nat} (hk:k < (l.takeWhile p).length) (hl:k < l.length),p l[k] = true
 | [],k,hk,_=>by simp at hk
 | a::l,k,hk,hl=>by
  cases ha:p a with
  | false=>simp [ha] at hk
  | true =>
   simp only [List.takeWhile_cons,ha,if_true,List.length_cons] at hk
   cases k with
   | zero=>exact ha
   | succ k=>exact tw_lt (l:=l) (k:=k) (by omega) (by simpa using hl)
theorem tw_at {α:Type} {p:α→Bool}:∀ {l:List α} (h:(l.takeWhile p).length < l.length),p l[(l.takeWhile p).length] = false
 | [],h=>by simp at h
 | a::l,h=>by
  cases ha:p a with
  | false=>simp [ha]
  | true =>
   simp only [List.takeWhile_cons,ha,if_true,List.length_cons] at h ⊢
   have:=tw_at (l:=l) (p:=p) (by omega)
   simpa using this
theorem tw_le {α:Type} (p:α→Bool):∀ l:List α,(l.takeWhile p).length ≤ l.length
 | []=>Nat.le_refl _
 | a::l=>by
  simp only [List.takeWhile_cons]
  split
  ·have:=tw_le p l;simp;exact this
  ·simp
end Wm
namespace Wm
open Go Go.Ab
def zV:Value:=⟨0,none,0⟩
def pickV:Option Version→Value × Bool
 | some x=>(x.v,true)
 | none=>(zV,false)
def valAt (o:Row) (n:BL) (t:Int):Value × Bool :=
 let out:=ls (rowCopy o)
 if colAt out n = false then (zV,false) else
 pickV ((ls ((out[colIx out n]?).bind (·.l))).find? (fun x=>decide (x.time ≤ t)))
def newest (o:Row) (n:BL):Value × Bool:=valAt o n 1099511627776
def sumF (a b:Nat):Nat:=match (FloatKind.format .f64).add a b with | some r=>canF r | none=>9221120237041090561
def valPlus (a b:Value):Value × Int:=if a.kind = 2∧b.kind = 2 then (⟨2,none,sumF a.n b.n⟩,0) else (zV,24)
def keyI (x:Nat):Int:=if andI .u64 (canF x) 9223372036854775808 = 0 then orI .u64 (canF x) 9223372036854775808 else notI .u64 (canF x)
def ordF (a b:Nat):Int:=if keyI a < keyI b then -1 else if keyI b < keyI a then 1 else 0
def cmpI (a b:Int):Int:=if a < b then -1 else if b < a then 1 else 0
def ordV (a b:Value):Int :=
 let x:=valCan a
 let y:=valCan b
 if x.kind ≠ y.kind then cmpI x.kind y.kind else if x.kind = 1 then cmpL (ls x.b) (ls y.b) else if x.kind = 2 then ordF x.n y.n else 0
def chgOne (r:Row) (c:Change):Row × Int :=
 if c.kind = 1 then rowPut r c.col c.time c.v
 else if c.kind = 2 then (rowDrop r c.col c.time,0)
 else if c.kind = 3 then (rowDropCol r c.col,0)
 else if c.kind = 4 then (none,0)
 else
  let w:=newest r c.col
  let p:=valPlus (if w.2 then w.1 else ⟨2,none,9223372036854775808⟩) c.v
  if p.2 = 0 then rowPut r c.col c.time p.1 else (none,p.2)
def chgAll:Row→List Change→Row × Int
 | r,[]=>(r,0)
 | r,c::l=>let p:=chgOne r c;if p.2 = 0 then chgAll p.1 l else (none,p.2)
def applyGo (r:Row) (l:List Change):Option Change→Row × Int
 | some c=>(none,changeWhy c)
 | none=>chgAll (rowCopy r) l
def apply (r:Row) (l:List Change):Row × Int:=if 8 < l.length then (none,3) else applyGo r l (l.find? fun c=>changeWhy c != 0)
def holds (r:Row) (c:Cond):Bool:=!c.has || (if c.want then (newest r c.col).2 && ordV (newest r c.col).1 c.v == 0 else !(newest r c.col).2)
end Wm
namespace Go.Ab
open Wm
def Bx {α:Type} (h:H) (p size:Nat) (enc:α→List AS) (l:List α) (q:Option Nat):Prop:=p < h.next∧∃ s,h.f p = some ⟨0,[1],true,[s]⟩∧Sl h size enc s l∧ownB s = q∧q ≠ some p
section
variable {α:Type} {h h':H} {p size:Nat} {enc:α→List AS} {l:List α} {q:Option Nat}
theorem Bx.keep (a:Bx h p size enc l q) (hn:h.next ≤ h'.next) (hp:h'.f p = h.f p) (hq:∀ b,q = some b→h'.f b = h.f b):Bx h' p size enc l q:=by
 obtain ⟨h1,s,h2,h3,h4,h5⟩:=a
 exact ⟨by omega,s,by rw [hp];exact h2,h3.keep hn fun b hb=>hq b (by rw [← h4];exact hb),h4,h5⟩
theorem Bx.lt (a:Bx h p size enc l q) {b:Nat} (hb:q = some b):b < h.next:=by
 obtain ⟨h1,s,h2,h3,h4,h5⟩:=a
 exact h3.lt (h4.trans hb)
theorem Bx.new (a:Bx h p size enc l q) (k:Blk):Bx (h.new k) p size enc l q:=a.keep (by simp) (new_f (by have:=a.1;omega)) fun b hb=>new_f (by have:=a.lt hb;omega)
end
end Go.Ab
namespace Wm
open Go Go.Ab
theorem cmpL_lt (a b:BL):cmpL a b < 0 ↔ blt a b = true:=by
 unfold cmpL blt
 cases h:Op.bytesLess a b <;> simp
 split <;> simp
theorem cmpL_eq (a b:BL):(cmpL a b == 0) = (a == b):=by
 unfold cmpL
 cases h:Op.bytesLess a b with
 | true =>
  have:(a == b) = false:=by simp;rintro rfl;rw [less_irrefl] at h;cases h
  simp [this]
 | false=>cases h2:(a == b) <;> simp
theorem kix_lt {α:Type} {lt:α→α→Bool} {p:α→Bool} (ht:∀ a b c,lt a b = true→lt b c = true→lt a c = true) (hp:∀ a b,lt a b = true→p b = true→p a = true):∀ {l:List α} (hs:chain lt l = true) (i:Nat) (hi:i < l.length),i < (l.takeWhile p).length ↔ p l[i] = true
 | [],_,i,hi=>by simp at hi
 | c::l,hs,i,hi=>by
  cases hc:p c with
  | true =>
   simp only [List.takeWhile_cons,hc,if_true,List.length_cons]
   cases i with
   | zero=>simp [hc]
   | succ i =>
    have:=kix_lt ht hp (l:=l) (chain_tail hs) i (by simpa using hi)
    simp only [List.getElem_cons_succ]
    rw [← this];omega
  | false =>
   simp only [List.takeWhile_cons,hc,oqF,if_false,List.length_nil,Nat.not_lt_zero,false_iff]
   cases i with
   | zero=>simp [hc]
   | succ i =>
    simp only [List.getElem_cons_succ]
    intro hx
    have h1:=chain_all ht hs _ (List.getElem_mem (by simpa using hi:i < l.length))
    rw [hp _ _ h1 hx] at hc;cases hc
theorem blt_trans (a b c:BL) (h1:blt a b = true) (h2:blt b c = true):blt a c = true:=less_trans h1 h2
def nmLt (a b:Named):Bool:=blt a.name b.name
def tix (l:List Named) (n:BL):Nat:=(l.takeWhile fun c=>blt c.name n).length
def tat (l:List Named) (n:BL):Bool:=match l[tix l n]? with | some c=>c.name == n | none=>false
def cpN (x:Named):Named:=⟨x.name,rowCopy x.r⟩
theorem tix_le (l:List Named) (n:BL):tix l n ≤ l.length:=tw_le _ _
theorem tix_lt {l:List Named} (hs:chain nmLt l = true) (n:BL) (i:Nat) (hi:i < l.length):i < tix l n ↔ cmpL l[i].name n < 0:=by
 rw [cmpL_lt]
 exact kix_lt (lt:=nmLt) (p:=fun c=>blt c.name n) (fun a b c h1 h2=>blt_trans _ _ _ h1 h2) (fun a b h1 h2=>blt_trans _ _ _ h1 h2) hs i hi
theorem tat_inv {l:List Named} {n:BL} (h:tat l n = true):∃ hi:tix l n < l.length,l[tix l n].name = n:=by
 unfold tat at h
 cases hg:l[tix l n]? with
 | none=>rw [hg] at h;cases h
 | some c =>
  obtain ⟨hi,e⟩:=List.getElem?_eq_some_iff.1 hg
  rw [hg] at h
  exact ⟨hi,by rw [e];simpa using h⟩
def tfind (l:List Named) (n:BL):Row × Bool:=if tat l n then (rowCopy ((l[tix l n]?).bind (·.r)),true) else (none,false)
structure TblOk (l:List Named):Prop where
 srt:chain nmLt l = true
 nm:∀ x ∈ l,nameOk x.name = true
 row:∀ x ∈ l,rowCopy x.r = x.r∧x.r ≠ none
 len:l.length ≤ 32
def tset (l:List Named) (n:BL) (r:Row):List Named × Int :=
 if (nameOk n && rowB r) = false then (l,1) else
 if ls r = [] then (if tat l n then l.eraseIdx (tix l n) else l,0) else
 if tat l n then (l.set (tix l n) ⟨n,rowCopy r⟩,0) else
 if 32 ≤ l.length then (l,13) else (l.insertIdx (tix l n) ⟨n,rowCopy r⟩,0)
def trange (l:List Named) (lo hi:BL) (most:Int):List Named × BL :=
 let m:=(max 0 (min most 16)).toNat
 let i:=tix l lo
 let e:=if hi = [] then l.length else tix l hi
 if e ≤ i then ([],[]) else
 let s:=(l.take e).drop i
 if s.length ≤ m then (s,[]) else (s.take m,match s[m]? with | some x=>x.name | none=>[])
end Wm
namespace Wm
open Go Go.Ab
def tjoin (a b:List Named):List Named × Int :=
 if (match a.getLast?,b.head? with | some x,some y=>!blt x.name y.name | _,_=>false) = true then ([],1) else
 if 32 < a.length + b.length then ([],13) else (a++b,0)
structure Tld where
 client:Int
 seq:Int
 b:Option BL
def encTld (t:Tld):List AS:=[ii t.client,ii t.seq,bs t.b]
theorem len_tld (t:Tld):(encTld t).length = 3:=rfl
def clLt (a b:Tld):Bool:=decide (a.client < b.client)
def cix (l:List Tld) (c:Int):Nat:=(l.takeWhile fun x=>decide (x.client < c)).length
def cat_ (l:List Tld) (c:Int):Bool:=match l[cix l c]? with | some x=>x.client == c | none=>false
theorem cix_le (l:List Tld) (c:Int):cix l c ≤ l.length:=tw_le _ _
theorem cix_lt {l:List Tld} (hs:chain clLt l = true) (c:Int) (i:Nat) (hi:i < l.length):i < cix l c ↔ cmpI l[i].client c < 0:=by
 have h1:(cmpI l[i].client c < 0) ↔ (decide (l[i].client < c) = true):=by
  unfold cmpI
  by_cases h:l[i].client < c
  ·simp [h]
  ·rw [if_neg h];split <;> simp [h]
 rw [h1]
 refine kix_lt (lt:=clLt) (p:=fun x=>decide (x.client < c)) (fun a b c h1 h2=>?_) (fun a b h1 h2=>?_) hs i hi
 ·simp only [clLt,decide_eq_true_eq] at *;omega
 ·simp only [clLt,decide_eq_true_eq] at *;omega
theorem cmpI_eq (a b:Int):(cmpI a b == 0) = (a == b):=by
 unfold cmpI
 by_cases h1:a < b
 ·rw [if_pos h1];have:(a == b) = false:=by simp;omega
  rw [this];rfl
 ·rw [if_neg h1]
  by_cases h2:b < a
  ·rw [if_pos h2];have:(a == b) = false:=by simp;omega
   rw [this];rfl
  ·rw [if_neg h2];have:(a == b) = true:=by simp;omega
   rw [this];rfl
theorem cat_inv {l:List Tld} {c:Int} (h:cat_ l c = true):∃ hi:cix l c < l.length,l[cix l c].client = c:=by
 unfold cat_ at h
 cases hg:l[cix l c]? with
 | none=>rw [hg] at h;cases h
 | some x =>
  obtain ⟨hi,e⟩:=List.getElem?_eq_some_iff.1 hg
  rw [hg] at h
  exact ⟨hi,by rw [e];simpa using h⟩
def lookT (l:List Tld) (c s:Int):Option BL × Int :=
 let x:=(l[cix l c]?).getD ⟨0,0,none⟩
 if s < 1 ∨ (cat_ l c = true∧s < x.seq) then (none,3) else if cat_ l c = true∧s = x.seq then (x.b,2) else (none,1)
def rightT (c s:Int) (b:Option BL):Bool:=decide (0 ≤ c) && (decide (c ≤ 255) && (decide (1 ≤ s) && (decide (s ≤ 1073741824) && decide ((ls b).length ≤ 1048576))))
def keepT (l:List Tld) (c s:Int) (b:Option BL):List Tld × Bool :=
 if (lookT l c s).2 ≠ 1 ∨ rightT c s b = false then (l,false) else
 if cat_ l c then (l.set (cix l c) ⟨c,s,b⟩,true) else (l.insertIdx (cix l c) ⟨c,s,b⟩,true)
structure CchOk (l:List Tld):Prop where
 srt:chain clLt l = true
 ok:∀ x ∈ l,rightT x.client x.seq x.b = true
 len:l.length ≤ 256
def addT (l m:List Tld):List Tld:=m.foldl (fun a x=>(keepT a x.client x.seq x.b).1) l
end Wm
