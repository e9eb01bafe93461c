/- Data that are lists; what is written, grown, frozen; the program's own things in plain Lean. No conditions. -/
import Ieee.Arith
import Derived.Test.YtiagcnfmgigllaaGreatAb3
import Derived.Test.YtiagcnfmgigllaaGreatAb4
import Derived.Test.YtiagcnfmgigllaaGreatAb2
import Derived.Test.YtiagcnfmgigllaaGreatAbI
set_option linter.all false
namespace NumPlain
open Ieee
abbrev D:=Ieee.double
def SW:Nat:=9223372036854775808
def BN:Nat:=4503599627370496
def INF:Nat:=9218868437227405312
theorem D0I:D.signWeight = SW:=by decide
theorem F0G:D.binade = BN:=by decide
theorem B0w:D.infRung = INF:=by decide
theorem w0x:D.leastPlace = -1074:=by decide
def M5 (a:Nat):Nat:=a % SW
def neg (a:Nat):Bool:=a / SW % 2 == 1
def isN (a:Nat):Bool:=decide (INF < M5 a)
theorem m0C (a:Nat):D.read a = if M5 a < BN then .number (neg a) (M5 a) (-1074) else if M5 a < INF then .number (neg a) (BN + M5 a % BN) (-1074 + (M5 a / BN - 1:Nat)) else if M5 a = INF then .infinity (neg a) else .nan (neg a) (M5 a - INF):=by
 unfold Format.read
 simp only [D0I,F0G,B0w,w0x,M5,neg]
 rfl
def V (r:Nat):Nat:=if r < BN then r else (BN + r % BN) * 2 ^ (r / BN - 1)
theorem z0t {r q:Nat} (h:r < q):V r < V q:=by
 unfold V
 have hb:0 < BN:=by decide
 by_cases h1:r < BN <;> by_cases h2:q < BN
 ·rw [if_pos h1,if_pos h2];exact h
 ·rw [if_pos h1,if_neg h2]
  have:1 ≤ 2 ^ (q / BN - 1):=Nat.one_le_two_pow
  calc r < BN:=h1
   _ ≤ BN + q % BN:=Nat.le_add_right _ _
   _ = (BN + q % BN) * 1:=(Nat.mul_one _).symm
   _ ≤ _:=Nat.mul_le_mul_left _ this
 ·omega
 ·rw [if_neg h1,if_neg h2]
  have hd:r / BN ≤ q / BN:=Nat.div_le_div_right (by omega)
  have e1:=Nat.div_add_mod r BN
  have e2:=Nat.div_add_mod q BN
  rcases Nat.eq_or_lt_of_le hd with he | hlt
  ·rw [he]
   have:r % BN < q % BN:=by rw [he] at e1;omega
   exact Nat.mul_lt_mul_of_pos_right (by omega) (Nat.two_pow_pos _)
  ·have hr1:1 ≤ r / BN:=Nat.div_pos (by omega) hb |> fun h=>h
   obtain ⟨k,hk⟩:∃ k,q / BN - 1 = (r / BN - 1) + 1 + k:=⟨q / BN - 1 - (r / BN - 1) - 1,by omega⟩
   rw [hk,Nat.pow_add,Nat.pow_add,Nat.pow_one]
   have hm:r % BN < BN:=Nat.mod_lt _ hb
   have hp:0 < 2 ^ (r / BN - 1):=Nat.two_pow_pos _
   have hk1:1 ≤ 2 ^ k:=Nat.one_le_two_pow
   calc (BN + r % BN) * 2 ^ (r / BN - 1) < (BN * 2) * 2 ^ (r / BN - 1):=Nat.mul_lt_mul_of_pos_right (by omega) hp
    _ = BN * (2 ^ (r / BN - 1) * 2):=by rw [Nat.mul_assoc,Nat.mul_comm 2]
    _ ≤ (BN + q % BN) * (2 ^ (r / BN - 1) * 2 * 2 ^ k):=Nat.mul_le_mul (Nat.le_add_right _ _) (by
      calc 2 ^ (r / BN - 1) * 2 = 2 ^ (r / BN - 1) * 2 * 1:=(Nat.mul_one _).symm
       _ ≤ _:=Nat.mul_le_mul_left _ hk1)
theorem G0g {r q:Nat} (h:V r = V q):r = q:=by
 rcases Nat.lt_trichotomy r q with h1 | h1 | h1
 ·have:=z0t h1;omega
 ·exact h1
 ·have:=z0t h1;omega
theorem p0q {r q:Nat}:V r < V q ↔ r < q:=⟨fun h=>by
 rcases Nat.lt_trichotomy r q with h1 | h1 | h1
 ·exact h1
 ·subst h1;omega
 ·have:=z0t h1;omega,z0t⟩
theorem V_zero:V 0 = 0:=by decide
def mag (r:Nat):Nat:=if r < BN then r else BN + r % BN
def sh (r:Nat):Nat:=if r < BN then 0 else r / BN - 1
theorem H0I (r:Nat):V r = mag r * 2 ^ sh r:=by
 unfold V mag sh;split <;> simp
theorem g0E {a:Nat} (h:M5 a < INF):D.read a = .number (neg a) (mag (M5 a)) (-1074 + (sh (M5 a):Nat)):=by
 rw [m0C]
 unfold mag sh
 split
 ·simp
 ·simp [h]
theorem g0I {a:Nat} (h:M5 a = INF):D.read a = .infinity (neg a):=by
 rw [m0C,if_neg (by rw [h];decide),if_neg (by omega),if_pos h]
theorem p0u {a:Nat} (h:INF < M5 a):D.read a = .nan (neg a) (M5 a - INF):=by
 rw [m0C,if_neg (by have:BN < INF:=(by decide);omega),if_neg (by omega),if_neg (by omega)]
def sg (s:Bool) (n:Nat):Int:=if s then -(n:Int) else n
theorem s0X (s:Bool) (m k:Nat):signed s m k = sg s (m * 2 ^ k):=by
 unfold signed sg;simp only [Nat.shiftLeft_eq]
def j0S (a:Nat):Int:=sg (neg a) (M5 a)
theorem t0Y {a b c d:Int} (h1:a < b ↔ c < d) (h2:b < a ↔ d < c):compare a b = compare c d:=by
 rcases Int.lt_trichotomy c d with h | h | h
 ·rw [Int.compare_eq_lt.2 h,Int.compare_eq_lt.2 (h1.2 h)]
 ·have:a = b:=by omega
  rw [Int.compare_eq_eq.2 h,Int.compare_eq_eq.2 this]
 ·rw [Int.compare_eq_gt.2 h,Int.compare_eq_gt.2 (h2.2 h)]
theorem z0T {s t:Bool} {m n:Nat} (p q:Nat) (h1:m < n ↔ p < q) (h2:n < m ↔ q < p) (hm:m = 0 ↔ p = 0) (hn:n = 0 ↔ q = 0):(sg s m < sg t n ↔ sg s p < sg t q):=by
 unfold sg;cases s <;> cases t <;> simp <;> omega
theorem s0w {a b:Nat} (ha:M5 a < INF) (hb:M5 b < INF):D.order a b = some (compare (j0S a) (j0S b)):=by
 unfold Format.order
 rw [g0E ha,g0E hb]
 simp only [Datum.order,s0X]
 have key:∀ (x y:Nat),((x:Int) + (-1074) - min (-1074 + (x:Int)) (-1074 + (y:Int))).toNat = x - min x y:=by intro x y;omega
 have e1:(-1074 + ((sh (M5 a):Nat):Int) - min (-1074 + ((sh (M5 a):Nat):Int)) (-1074 + ((sh (M5 b):Nat):Int))).toNat = sh (M5 a) - min (sh (M5 a)) (sh (M5 b)):=by omega
 have e2:(-1074 + ((sh (M5 b):Nat):Int) - min (-1074 + ((sh (M5 a):Nat):Int)) (-1074 + ((sh (M5 b):Nat):Int))).toNat = sh (M5 b) - min (sh (M5 a)) (sh (M5 b)):=by omega
 rw [e1,e2]
 congr 1
 have hs:∀ (r k:Nat),k ≤ sh r→mag r * 2 ^ (sh r - k) * 2 ^ k = V r:=by
  intro r k hk
  rw [H0I,Nat.mul_assoc,← Nat.pow_add];congr 2;omega
 have h1:=hs (M5 a) (min (sh (M5 a)) (sh (M5 b))) (Nat.min_le_left _ _)
 have h2:=hs (M5 b) (min (sh (M5 a)) (sh (M5 b))) (Nat.min_le_right _ _)
 have hp:0 < 2 ^ min (sh (M5 a)) (sh (M5 b)):=Nat.two_pow_pos _
 generalize 2 ^ min (sh (M5 a)) (sh (M5 b)) = u at *
 generalize mag (M5 a) * 2 ^ (sh (M5 a) - min (sh (M5 a)) (sh (M5 b))) = x at *
 generalize mag (M5 b) * 2 ^ (sh (M5 b) - min (sh (M5 a)) (sh (M5 b))) = y at *
 have g1:x < y ↔ M5 a < M5 b:=by rw [← p0q (r:=M5 a) (q:=M5 b),← h1,← h2];exact (Nat.mul_lt_mul_right hp).symm
 have g2:y < x ↔ M5 b < M5 a:=by rw [← p0q (r:=M5 b) (q:=M5 a),← h1,← h2];exact (Nat.mul_lt_mul_right hp).symm
 have z:∀ (r x:Nat),x * u = V r→(x = 0 ↔ r = 0):=by
  intro r x h
  constructor
  ·intro hx;rw [hx,Nat.zero_mul] at h;exact (G0g (h.symm.trans V_zero.symm))
  ·intro hr;rw [hr,V_zero] at h
   rcases Nat.mul_eq_zero.1 h with h | h
   ·exact h
   ·omega
 exact t0Y (z0T _ _ g1 g2 (z _ _ h1) (z _ _ h2)) (z0T _ _ g2 g1 (z _ _ h2) (z _ _ h1))
theorem j0J {a b:Nat} (ha:M5 a ≤ INF) (hb:M5 b ≤ INF):D.order a b = some (compare (j0S a) (j0S b)):=by
 rcases Nat.eq_or_lt_of_le ha with h1 | h1 <;> rcases Nat.eq_or_lt_of_le hb with h2 | h2
 ·unfold Format.order
  rw [g0I h1,g0I h2]
  simp only [Datum.order,j0S,h1,h2,sg]
  cases neg a <;> cases neg b <;> decide
 ·unfold Format.order
  rw [g0I h1,g0E h2]
  simp only [Datum.order,j0S,h1,sg]
  have:(0:Int) < INF:=by decide
  cases neg a <;> cases neg b <;> simp <;> symm <;> first | (apply Int.compare_eq_gt.2;omega) | (apply Int.compare_eq_lt.2;omega)
 ·unfold Format.order
  rw [g0I h2,g0E h1]
  simp only [Datum.order,j0S,h2,sg]
  have:(0:Int) < INF:=by decide
  cases neg a <;> cases neg b <;> simp <;> symm <;> first | (apply Int.compare_eq_gt.2;omega) | (apply Int.compare_eq_lt.2;omega)
 ·exact s0w h1 h2
theorem m0k {a b:Nat} (h:INF < M5 a ∨ INF < M5 b):D.order a b = none:=by
 unfold Format.order
 rcases h with h | h
 ·rw [p0u h];rfl
 ·rw [p0u h];cases D.read a <;> rfl
theorem u0j (x y:Datum):x.sum y = y.sum x:=by
 cases x <;> cases y <;> simp only [Datum.sum]
 ·rename_i s m i t n j
  simp only [Int.min_comm i j,Int.add_comm (signed s m _) _,Bool.and_comm s t]
 ·rename_i s t
  cases s <;> cases t <;> rfl
theorem add_comm (a b:Nat):D.add a b = D.add b a:=by
 unfold Format.add;rw [u0j]
end NumPlain
namespace Go.Ab
@[simp] theorem p0F:H.empty.next = 0:=rfl
@[simp] theorem H0h (b:Nat):H.empty.f b = none:=rfl
@[simp] theorem A1 (h:H) (k:Blk):(h.new k).next = h.next + 1:=rfl
@[simp] theorem c0O (h:H) (b:Nat) (k:Blk):(h.set b k).next = h.next:=rfl
@[simp] theorem K9 (h:H) (k:Blk) (b:Nat):(h.new k).f b = if b = h.next then some k else h.f b:=rfl
@[simp] theorem p0 (h:H) (b c:Nat) (k:Blk):(h.set b k).f c = if c = b then some k else h.f c:=rfl
@[simp] theorem G0S (h:H) (b:Nat) (k k':Blk):(h.set b k).set b k' = h.set b k':=by
 simp only [H.set];congr 1;funext x;split <;> rfl
@[simp] theorem n0D (h:H) (k k':Blk):(h.new k).set h.next k' = h.new k':=by
 simp only [H.set,H.new];congr 1;funext x;split <;> rfl
@[simp] theorem c0X (h:H) (b v o n:Nat):H4 h (.ptr b v o) n = (h.f b).bind fun k=>(k.ext v).bind fun e=>if o + n ≤ e then sub k.cells o n else none:=rfl
@[simp] theorem G0y (h:H) (cells:List AS) (o n:Nat):H4 h (.rp cells o) n = sub cells o n:=rfl
@[simp] theorem a0M (h:H) (b v o:Nat) (l:List AS):a0G h (.ptr b v o) l = (h.f b).bind fun k=>(k.ext v).bind fun e=>if v = k.ver∧o + l.length ≤ e∧e = k.cells.length then some (h.set b ⟨k.ver,[e],k.fixed,lay k.cells o l⟩) else none:=rfl
attribute [simp] Blk.ext C6
theorem wrap_i64 {x:Int} (h1:-9223372036854775808 ≤ x) (h2:x < 9223372036854775808):IntKind.i64.wrap x = x:=by
 simp only [IntKind.wrap,IntKind.signed,IntKind.bits]
 simp
 omega
theorem n0A {x:Int} (h1:0 ≤ x) (h2:x < 256):IntKind.u8.wrap x = x:=by
 show x % 2 ^ 8 = x
 exact Int.emod_eq_of_lt h1 (by omega)
theorem g0G {x:Int} (h1:0 ≤ x) (h2:x < 4294967296):IntKind.u32.wrap x = x:=by
 show x % 2 ^ 32 = x
 exact Int.emod_eq_of_lt h1 (by omega)
theorem c0m {x:Int} (h1:0 ≤ x) (h2:x < 18446744073709551616):IntKind.u64.wrap x = x:=by
 show x % 2 ^ 64 = x
 exact Int.emod_eq_of_lt h1 (by omega)
theorem o0g (x:Int):IntKind.u8.wrap x = x % 256:=rfl
theorem s0y (x:Int):IntKind.u32.wrap x = x % 4294967296:=rfl
theorem s0z (x:Int):IntKind.u64.wrap x = x % 18446744073709551616:=rfl
section
variable {α:Type}
def ls (o:Option (List α)):List α:=o.getD []
@[simp] theorem H1 (l:List α):ls (some l) = l:=rfl
@[simp] theorem H0j:ls (none:Option (List α)) = []:=rfl
def cat (enc:α→List AS) (l:List α):List AS:=l.flatMap enc
def sl (s:Nat) (enc:α→List AS):Option (List α)→AS
 | none=>.nilslc
 | some l=>.vs l.length s (cat enc l)
@[simp] theorem r0k (s:Nat) (enc:α→List AS) (o:Option (List α)):P5 (sl s enc o) = some (ls o).length:=by cases o <;> rfl
theorem z7 {s:Nat} {enc:α→List AS} (he:∀ x,(enc x).length = s) (l:List α):(cat enc l).length = l.length * s:=by
 unfold cat
 induction l with
 | nil=>simp
 | cons a l ih=>simp [he,ih,Nat.succ_mul];omega
theorem h0m {s:Nat} {enc:α→List AS} (he:∀ x,(enc x).length = s) (h:H) (o:Option (List α)):Sees h s (sl s enc o) (cat enc (ls o)):=by
 cases o with
 | none=>rfl
 | some l=>exact ⟨rfl,rfl,z7 he l⟩
theorem c0k {st:Bool} {enc:α→List AS} (l:List α) (hp:∀ x ∈ l,l0 st (enc x) = true):l0 st (cat enc l) = true:=by
 unfold cat
 induction l with
 | nil=>rfl
 | cons a l ih =>
  rw [List.flatMap_cons,h0v,hp a (by simp),ih fun x hx=>hp x (by simp [hx])];rfl
theorem Y5 {s:Nat} {enc:α→List AS} (hp:∀ x,l0 false (enc x) = true) (o:Option (List α)):c5 false (sl s enc o) = true:=by
 cases o with
 | none=>rfl
 | some l=>simp only [sl,c5,Bool.not_false,Bool.true_or,Bool.true_and];exact c0k l fun x _=>hp x
@[simp] theorem O8 (s:Nat) (enc:α→List AS) (o:Option (List α)) (u:TypeId) (h:H):O7 (sl s enc o) (some (.slice u)) h = some (one (.int .i64 (ls o).length) h):=by cases o <;> rfl
theorem I4 {P:Program} {t u s:Nat} (ht:P.underlying t = some (.slice u)) (hu:A0 P u = some s) (h0:0 < s) {enc:α→List AS} {l:List α} {i:Nat} (hi:i < l.length):S6 P t (sl s enc (some l)) i = some (.rp (cat enc l) (i * s)):=by
 unfold S6
 simp only [ht,hu,oqE,oqS,sl,h0,hi,and_self,if_true]
theorem F3 {s:Nat} {enc:α→List AS} (he:∀ x,(enc x).length = s) (a:List α) (x:α) (b:List α) {o n:Nat} (ho:o + n ≤ s):sub (cat enc (a++x::b)) (a.length * s + o) n = sub (enc x) o n:=by
 unfold sub
 have h1:(cat enc (a++x::b)) = a.flatMap enc++(enc x++b.flatMap enc):=by simp [cat]
 have h2:(a.flatMap enc).length = a.length * s:=z7 he a
 rw [if_pos (by rw [h1,oqa,oqa,h2,he];omega),if_pos (by rw [he];exact ho),h1,← h2]
 rw [List.drop_append]
 rw [show List.drop ((a.flatMap enc).length + o) (a.flatMap enc) = [] from List.drop_eq_nil_of_le (by omega)]
 rw [show (a.flatMap enc).length + o - (a.flatMap enc).length = o by omega,oql,List.drop_append_of_le_length (by rw [he];omega),List.take_append_of_le_length (by rw [List.length_drop,he];omega)]
theorem k0p {s:Nat} {enc:α→List AS} (he:∀ x,(enc x).length = s) (h0:0 < s) (h:H) (o:Option (List α)):B8 h s (ls o).length (sl s enc o) = some (cat enc (ls o)) :=
 k0o (h0m he h o) h0 (z7 he _)
end
abbrev BL:=List UInt8
def bs:Option BL→AS:=sl 1 fun b=>[C9 b]
theorem C4:bs none = .nilslc:=rfl
theorem T6 (l:BL):bs (some l) = .vs l.length 1 (l.map C9):=by
 simp only [bs,sl,cat]
 congr 1
 induction l with
 | nil=>rfl
 | cons a l ih=>simp only [List.flatMap_cons,List.map_cons,ih];rfl
@[simp] theorem y0h (o:Option BL):P5 (bs o) = some (ls o).length:=r0k _ _ _
@[simp] theorem H0s (o:Option BL) (u:TypeId) (h:H):O7 (bs o) (some (.slice u)) h = some (one (.int .i64 (ls o).length) h):=O8 _ _ _ _ _
@[simp] theorem h0y (o:Option BL):c5 false (bs o) = true:=Y5 (fun _=>rfl) o
theorem f0i (l:BL):bytesOf (l.map C9) = some l:=by
 induction l with
 | nil=>rfl
 | cons a l ih =>
  have ha:a.toNat < 256:=a.toNat_lt
  simp only [List.map_cons,C9,bytesOf]
  rw [if_pos (by omega)]
  rw [ih]
  simp
theorem p0k (h:H) (o:Option BL):B8 h 1 (ls o).length (bs o) = some ((ls o).map C9):=by
 have:=k0p (s:=1) (enc:=fun b:UInt8=>[C9 b]) (fun _=>rfl) (by omega) h o
 rw [bs,this]
 congr 1
 unfold cat
 generalize ls o = l
 induction l with
 | nil=>rfl
 | cons a l ih=>simp only [List.flatMap_cons,List.map_cons,ih];rfl
@[simp] theorem H0f (b:Bool) (A B:Prop):onW (some (!b)) A B = onW (some b) B A:=by cases b <;> simp
@[simp] theorem F0S (b:Bool) (A B:Prop):l0o (!b) A B = l0o b B A:=by cases b <;> simp
@[simp] theorem F0t (b:Bool):(b == true) = b:=by cases b <;> rfl
@[simp] theorem D0g (b:Bool):(b == false) = !b:=by cases b <;> rfl
def Wr (h:H) (p:Nat) (q:Option Nat) (l:BL):Prop:=p < h.next∧∃ s,z0 s = q∧q ≠ some p∧h.f p = some ⟨0,[1],true,[s]⟩∧Owns h 1 s (l.map C9)
structure Only (h h':H) (p:Nat) (q q':Option Nat):Prop where
 next:h.next ≤ h'.next
 keep:∀ b,b < h.next→b ≠ p→q ≠ some b→h'.f b = h.f b
 own:q' = q ∨ ∃ b,q' = some b∧h.next ≤ b
theorem Only.refl (h:H) (p:Nat) (q:Option Nat):Only h h p q q:=⟨oqg _,fun _ _ _ _=>rfl,.inl rfl⟩
theorem Only.trans {h h1 h2:H} {p:Nat} {q q1 q2:Option Nat} (a:Only h h1 p q q1) (b:Only h1 h2 p q1 q2):Only h h2 p q q2 where
 next:=Nat.le_trans a.next b.next
 keep x hx hp hq:=by
  rw [b.keep x (oqp hx a.next) hp ?_,a.keep x hx hp hq]
  rcases a.own with e | ⟨y,e,hy⟩
  ·rw [e];exact hq
  ·rw [e];intro h;cases h;omega
 own:=by
  rcases b.own with e | ⟨y,e,hy⟩
  ·rw [e]
   rcases a.own with e | ⟨y,e,hy⟩
   ·exact .inl e
   ·exact .inr ⟨y,e,hy⟩
  ·exact .inr ⟨y,e,Nat.le_trans a.next hy⟩
theorem Wr.own_lt {h:H} {p b:Nat} {q:Option Nat} {l:BL} (w:Wr h p q l) (hb:q = some b):b < h.next:=by
 obtain ⟨_,s,hq,_,_,ho⟩:=w
 rw [hb] at hq
 cases s <;> simp only [z0,Owns,reduceCtorEq] at hq ho
 cases hq
 exact ho.2.2.2.2.1
theorem Wr.new {h:H} {p:Nat} {q:Option Nat} {l:BL} (w:Wr h p q l) (k:Blk):Wr (h.new k) p q l:=by
 obtain ⟨hp,s,hq,hqp,hf,ho⟩:=w
 refine ⟨by simp only [A1];omega,s,hq,hqp, ?_,ho.new k⟩
 rw [K9,if_neg (by omega)];exact hf
def F6 (h:H):List (Nat × Blk)→Prop
 | []=>True
 | e::l=>h.f e.1 = some e.2∧F6 h l
def WS (h0:H) (q0:Option Nat) (h:H) (p:Nat) (l:BL) (kept:List (Nat × Blk)):Prop:=∃ q,Wr h p q l∧Only h0 h p q0 q∧F6 h kept∧∀ e ∈ kept,e.1 < h.next∧e.1 ≠ p∧q ≠ some e.1
theorem WS.start {h:H} {p:Nat} {q:Option Nat} {l:BL} (w:Wr h p q l):WS h q h p l []:=⟨q,w,Only.refl _ _ _,trivial,by simp⟩
theorem WS.drop {h0 h:H} {q0:Option Nat} {p:Nat} {l:BL} {kept:List (Nat × Blk)} (w:WS h0 q0 h p l kept):WS h0 q0 h p l []:=by
 obtain ⟨q,w,g,_⟩:=w;exact ⟨q,w,g,trivial,by simp⟩
theorem S2 {h h':H}:∀ {l:List (Nat × Blk)},(∀ e ∈ l,h'.f e.1 = h.f e.1)→F6 h l→F6 h' l
 | [],_,_=>trivial
 | e::l,hs,hk=>⟨by rw [hs e (by simp)];exact hk.1,S2 (fun x hx=>hs x (by simp [hx])) hk.2⟩
theorem WS.new {h0 h:H} {q0:Option Nat} {p:Nat} {l:BL} {kept:List (Nat × Blk)} (w:WS h0 q0 h p l kept) (k:Blk):WS h0 q0 (h.new k) p l ((h.next,k)::kept):=by
 obtain ⟨q,w,g,hk,hd⟩:=w
 have hp:=w.1
 refine ⟨q,w.new k,⟨Nat.le_trans g.next (by simp),fun b hb h1 h2=>?_,g.own⟩,⟨by simp,S2 (fun e he=>?_) hk⟩, ?_⟩
 ·rw [K9,if_neg (by have:=g.next;omega)];exact g.keep b hb h1 h2
 ·rw [K9,if_neg (by have:=(hd e he).1;omega)]
 ·intro e he
  rcases oqf.1 he with rfl | he
  ·refine ⟨by simp,by simp only;omega,fun hq=>?_⟩
   have:=w.own_lt hq;simp only at this;omega
  ·have:=hd e he
   exact ⟨by simp only [A1];omega,this.2⟩
def a0Q (C:Conf) (f:Nat) (rest:List AV) (ret:AV) (x:BL):Prop :=
 ∀ h p q l,Wr h p q l→l.length + x.length ≤ 1099511627776→∃ h' q',W C f (.one (.ptr p 0 0)::rest) h = some (.ret ret h')∧Wr h' p q' (l++x)∧Only h h' p q q'
theorem B9 {C:Conf} {f:Nat} {rest:List AV} {ret:AV} {x:BL} (hf:a0Q C f rest ret x) {h0 h:H} {q0:Option Nat} {p:Nat} {l:BL} {kept:List (Nat × Blk)} (w:WS h0 q0 h p l kept) (hl:l.length + x.length ≤ 1099511627776)
  {K:AV→H→Prop} {Kp:AS→H→Prop} (hk:∀ h',WS h0 q0 h' p (l++x) kept→F6 h' kept→K ret h'):onR ((W C f (.one (.ptr p 0 0)::rest) h).bind crO) K Kp:=by
 obtain ⟨q,w,g,hkp,hd⟩:=w
 obtain ⟨h',q',e,w',g'⟩:=hf h p q l w hl
 rw [e]
 simp only [oqS,n0v,n0y]
 have hkp':F6 h' kept:=S2 (fun e he=>g'.keep _ (hd e he).1 (hd e he).2.1 (hd e he).2.2) hkp
 refine hk h' ⟨q',w',g.trans g',hkp',fun e he=>⟨oqp (hd e he).1 g'.next,(hd e he).2.1, ?_⟩⟩ hkp'
 rcases g'.own with e1 | ⟨b,e1,hb⟩
 ·rw [e1];exact (hd e he).2.2
 ·rw [e1];intro hc
  have:=(hd e he).1
  simp only [oqI] at hc;omega
theorem Y7 {C:Conf} {f:Nat} {rest:List AV} {ret:AV} {x:BL} (hh:∀ h p q l,Wr h p q l→l.length + x.length ≤ 1099511627776→∃ r,W C f (.one (.ptr p 0 0)::rest) h = some r∧∃ h' kept,r = .ret ret h'∧WS h q h' p (l++x) kept):a0Q C f rest ret x:=by
 intro h p q l w hl
 obtain ⟨r,e,h',kept,rfl,q',w',g',_⟩:=hh h p q l w hl
 exact ⟨h',q',e,w',g'⟩
theorem m0o {P:Program} {t el:Nat} (ht:P.underlying t = some (.slice el)) (h1:P1 P t = some el) (h2:A0 P el = some 1) (h3:A6 P el = some 1) {h:H} {p:Nat} {q:Option Nat} {l:BL} (w:Wr h p q l) {s a:AS} (hs:h.f p = some ⟨0,[1],true,[s]⟩) {x:BL}
  (hln:P5 a = some x.length) (he:B8 h 1 x.length a = some (x.map C9)) (hlen:l.length + x.length ≤ 1099511627776) :
  ∃ s' h2,S5 P t t h s a = some (s',h2)∧h2.f p = some ⟨0,[1],true,[s]⟩∧∃ q',Wr (h2.set p ⟨0,[1],true,[s']⟩) p q' (l++x)∧Only h (h2.set p ⟨0,[1],true,[s']⟩) p q q':=by
 obtain ⟨hpn,s0,hq,hqp,hf,ho⟩:=w
 rw [hf] at hs
 have hss:s0 = s:=by
  simp only [oqI,Blk.mk.injEq,List.cons.injEq,and_true,true_and] at hs
  exact hs
 subst hss
 have happ:=V9 (P:=P) (t:=t) (u:=t) (s:=s0) h1 h2 h3 ht hln he
 have key:∃ s' h2',J3 1 1 x.length (x.map C9) h s0 = some (s',h2')∧Owns h2' 1 s' ((l++x).map C9)∧h.next ≤ h2'.next∧(∀ b,b < h.next→z0 s0 ≠ some b→h2'.f b = h.f b)∧(∀ b,z0 s' = some b→z0 s0 = some b ∨ h.next ≤ b):=by
  by_cases h0:x.length = 0
  ·have:x = []:=List.eq_nil_of_length_eq_zero h0
   subst this
   refine ⟨s0,h, ?_,by simpa using ho,oqg _,fun _ _ _=>rfl,fun b hb=>.inl hb⟩
   cases s0 <;> simp only [Owns] at ho
   ·rfl
   ·obtain ⟨_,rfl,_⟩:=ho
    rfl
  ·obtain ⟨s',h2',e1,e2,e3,e4,e5,_⟩:=j0R (bytes:=1) (m:=x.length) (new:=x.map C9) (n:=l.length) ho (by omega) (by simp) (by omega) (by simp) (by simp only [J6];omega)
   exact ⟨s',h2',e1,by rw [List.map_append];exact e2,e3,e4,e5⟩
 obtain ⟨s',h2',e1,e2,e3,e4,e5⟩:=key
 have hp2:h2'.f p = some ⟨0,[1],true,[s0]⟩:=by rw [e4 p hpn (by rw [hq];exact hqp),hf]
 refine ⟨s',h2',by rw [happ];exact e1,hp2,z0 s', ?_, ?_⟩
 ·have hsp:z0 s' ≠ some p:=by
   intro h
   rcases e5 p h with e | e
   ·rw [hq] at e;exact hqp e
   ·omega
  refine ⟨by simp only [H.set];omega,s',rfl,hsp,by simp [H.set],e2.keep (oqg _) fun b hb=>?_⟩
  have:b ≠ p:=by rintro rfl;exact hsp hb
  simp [H.set,this]
 ·refine ⟨by simp only [H.set];omega,fun b hb hbp hbq=>?_, ?_⟩
  ·simp only [H.set]
   rw [if_neg hbp,e4 b hb (by rw [hq];exact hbq)]
  ·cases hos:z0 s' with
   | none =>
    cases hq0:q with
    | none=>exact .inl rfl
    | some b =>
     exfalso
     rw [hq0] at hq
     cases s' <;> simp only [Owns,z0,reduceCtorEq] at e2 hos
     ·-- nil again: nothing was there
      cases s0 <;> simp only [Owns,z0,reduceCtorEq] at ho hq
      rename_i bb v o n s' c
      obtain ⟨rfl,rfl,rfl,hcl,_⟩:=ho
      have hx0:x = []:=by
       simp only [List.map_eq_nil_iff,List.append_eq_nil_iff] at e2
       exact e2.2
      subst hx0
      simp [J3] at e1
   | some b =>
    rcases e5 b hos with e | e
    ·rw [hq] at e;exact .inl e.symm
    ·exact .inr ⟨b,rfl,e⟩
theorem l0w {P:Program} {t el:Nat} (ht:P.underlying t = some (.slice el)) (h1:P1 P t = some el) (h2:A0 P el = some 1) (h3:A6 P el = some 1) {h0 h:H} {q0:Option Nat} {p:Nat} {l:BL} {kept:List (Nat × Blk)} (w:WS h0 q0 h p l kept) {a:AS} {x:BL}
  (hln:P5 a = some x.length) (he:B8 h 1 x.length a = some (x.map C9)) (hlen:l.length + x.length ≤ 1099511627776) :
  ∃ s s' h2,h.f p = some ⟨0,[1],true,[s]⟩∧S5 P t t h s a = some (s',h2)∧h2.f p = some ⟨0,[1],true,[s]⟩∧WS h0 q0 (h2.set p ⟨0,[1],true,[s']⟩) p (l++x) kept∧F6 (h2.set p ⟨0,[1],true,[s']⟩) kept:=by
 obtain ⟨q,w,g,hkp,hd⟩:=w
 obtain ⟨s,hq,hqp,hf,ho⟩:=w.2
 obtain ⟨s',h2,e1,e2,q',w',g'⟩:=m0o ht h1 h2 h3 w hf hln he hlen
 have hkp':F6 (h2.set p ⟨0,[1],true,[s']⟩) kept:=S2 (fun e he=>g'.keep _ (hd e he).1 (hd e he).2.1 (hd e he).2.2) hkp
 refine ⟨s,s',h2,hf,e1,e2,⟨q',w',g.trans g',hkp',fun e he=>⟨oqp (hd e he).1 g'.next,(hd e he).2.1, ?_⟩⟩,hkp'⟩
 rcases g'.own with e1 | ⟨b,e1,hb⟩
 ·rw [e1];exact (hd e he).2.2
 ·rw [e1];intro hc
  have:=(hd e he).1
  simp only [oqI] at hc;omega
def idx {α:Type} (p:α→Bool) (l:List α):Int:=match l.findIdx? p with | some i=>i | none=>-1
theorem f0u {α:Type} {p:α→Bool} {a:List α} {x:α} {r:List α} (ha:∀ y ∈ a,p y = false) (hx:p x = true):idx p (a++x::r) = a.length:=by
 unfold idx
 have:(a++x::r).findIdx? p = some a.length:=by
  induction a with
  | nil=>simp [List.findIdx?_cons,hx]
  | cons y a ih =>
   rw [oqm,List.findIdx?_cons,ha y (by simp)]
   simp [ih fun z hz=>ha z (by simp [hz])]
 rw [this]
theorem b0w {α:Type} {p:α→Bool} {a:List α} (ha:∀ y ∈ a,p y = false):idx p a = -1:=by
 unfold idx
 have:a.findIdx? p = none:=by
  induction a with
  | nil=>rfl
  | cons y a ih =>
   rw [List.findIdx?_cons,ha y (by simp)]
   simp [ih fun z hz=>ha z (by simp [hz])]
 rw [this]
theorem x0V {α:Type} (p:α→Bool) (l:List α):decide (0 ≤ idx p l) = l.any p:=by
 unfold idx
 cases h:l.findIdx? p with
 | none =>
  rw [List.findIdx?_eq_none_iff] at h
  simp only [Int.reduceNeg,Int.reduceLE,decide_false]
  symm;rw [List.any_eq_false];intro x hx;simp [h x hx]
 | some i =>
  rw [List.findIdx?_eq_some_iff_getElem] at h
  obtain ⟨hi,hp,_⟩:=h
  have:l.any p = true:=List.any_eq_true.2 ⟨l[i],List.getElem_mem hi,hp⟩
  simp [this]
theorem O9 {α:Type} {o:Option (List α)} {a:List α} {x:α} {r:List α} (h:ls o = a++x::r):o = some (a++x::r):=by
 cases o with
 | none=>simp at h
 | some l=>simp only [H1] at h;rw [h]
theorem J9 {α:Type} {a:List α} {x:α}:((a++[x]).length:Int) = (a.length:Int) + 1:=by simp
theorem D3 {n:Nat} (h:n < 9223372036854775807):IntKind.i64.wrap ((n:Int) + 1) = (n:Int) + 1:=wrap_i64 (by omega) (by omega)
theorem Y3 {L:Fr} {F:(Nat→AV)→Fr} {P:Prop} (h:L = F (Fr.get L)) (hp:P):∃ j,L = F j∧P:=⟨_,h,hp⟩
theorem s9 {L:Fr} {F:(Nat→AV)→Fr} (h:L = F (Fr.get L)):∃ j,L = F j:=⟨_,h⟩
theorem D5 {C:Conf} (hp:PrimOk C) {α:Type} {b:Code} {Q:Ex→Fr→H→Prop} (l:List α) (I:List α→List α→Fr→H→Prop)
  (step:∀ a x r fr h,l = a++x::r→I a (x::r) fr h→J5 C b fr h fun e fr' h'=>match e with | .normal=>I (a++[x]) r fr' h' | e=>Q e fr' h')
  (stop:∀ fr h,I l [] fr h→J5 C b fr h fun e fr' h'=>match e with | .normal=>False | e=>Q e fr' h') :
  ∀ fr h,I [] l fr h→J5 C (.loop b) fr h Q:=by
 intro fr h hi
 refine a0L hp (fun n fr h=>∃ a r,l = a++r∧n = r.length∧I a r fr h) ?_ l.length fr h ⟨[],l,rfl,rfl,hi⟩
 rintro n fr h ⟨a,r,hl,hn,hi⟩
 cases r with
 | nil =>
  rw [List.append_nil] at hl
  subst hl
  refine (stop fr h hi).mono fun e fr' h' hx=>?_
  cases e with
  | normal=>exact hx.elim
  | _=>exact hx
 | cons x r =>
  refine (step a x r fr h hl hi).mono fun e fr' h' hx=>?_
  cases e with
  | normal=>exact ⟨r.length,by rw [hn];simp,a++[x],r,by rw [hl];simp,rfl,hx⟩
  | _=>exact hx
theorem N7 {C:Conf} (hp:PrimOk C) {b:Code} {Q:Ex→Fr→H→Prop} (n:Nat) (I:Nat→Fr→H→Prop)
  (step:∀ i fr h,i < n→I i fr h→J5 C b fr h fun e fr' h'=>match e with | .normal=>I (i + 1) fr' h' | e=>Q e fr' h')
  (stop:∀ fr h,I n fr h→J5 C b fr h fun e fr' h'=>match e with | .normal=>False | e=>Q e fr' h') :
  ∀ fr h,I 0 fr h→J5 C (.loop b) fr h Q:=by
 intro fr h hi
 refine a0L hp (fun k fr h=>∃ i,i ≤ n∧k = n - i∧I i fr h) ?_ n fr h ⟨0,by omega,rfl,hi⟩
 rintro k fr h ⟨i,hin,hk,hi⟩
 by_cases hlt:i < n
 ·refine (step i fr h hlt hi).mono fun e fr' h' hx=>?_
  cases e with
  | normal=>exact ⟨n - (i + 1),by omega,i + 1,by omega,rfl,hx⟩
  | _=>exact hx
 ·have:i = n:=by omega
  subst this
  refine (stop fr h hi).mono fun e fr' h' hx=>?_
  cases e with
  | normal=>exact hx.elim
  | _=>exact hx
end Go.Ab
namespace Go.Ab
section
variable {α:Type}
def opt:List α→Option (List α)
 | []=>none
 | a::l=>some (a::l)
@[simp] theorem u0W (l:List α):ls (opt l) = l:=by cases l <;> rfl
@[simp] theorem H0p:opt ([]:List α) = none:=rfl
theorem C0y {l:List α} (h:l ≠ []):opt l = some l:=by cases l with | nil=>exact absurd rfl h | cons a l=>rfl
@[simp] theorem H0u (enc:α→List AS):cat enc [] = []:=rfl
theorem u0Z (enc:α→List AS) (l:List α) (x:α):cat enc (l++[x]) = cat enc l++enc x:=by simp [cat]
theorem U6 (enc:α→List AS) (l:List α) (x:α):cat enc (x::l) = enc x++cat enc l:=rfl
theorem a0m (enc:α→List AS) (l m:List α):cat enc (l++m) = cat enc l++cat enc m:=by simp [cat]
def Grown (h:H) (size:Nat) (enc:α→List AS) (s:AS) (l:List α):Prop:=Owns h size s (cat enc l)∧(l = []→s = .nilslc)
theorem u0f (h:H) (size:Nat) (enc:α→List AS):Grown h size enc .nilslc []:=⟨rfl,fun _=>rfl⟩
theorem Grown.keep {h h':H} {size:Nat} {enc:α→List AS} {s:AS} {l:List α} (g:Grown h size enc s l) (hn:h.next ≤ h'.next) (hf:∀ b,z0 s = some b→h'.f b = h.f b):Grown h' size enc s l:=⟨g.1.keep hn hf,g.2⟩
theorem Grown.new {h:H} {size:Nat} {enc:α→List AS} {s:AS} {l:List α} (g:Grown h size enc s l) (k:Blk):Grown (h.new k) size enc s l:=⟨g.1.new k,g.2⟩
theorem z0G {h:H} {size:Nat} {s:AS} {cells:List AS} (o:Owns h size s cells) {b:Nat} (hb:z0 s = some b):b < h.next:=by
 cases s <;> simp only [Owns,z0,reduceCtorEq] at o hb
 cases hb;exact o.2.2.2.2.1
theorem v0S {P:Program} {t el size bytes:Nat} (ht:P.underlying t = some (.slice el)) (h1:P1 P t = some el) (h2:A0 P el = some size) (h3:A6 P el = some bytes) (h0:0 < size) {enc:α→List AS} (he:∀ x,(enc x).length = size)
  {h:H} {s:AS} {l:List α} (g:Grown h size enc s l) (x:α) (hlim:(l.length + 1 + 600) * bytes + (l.length + 1) ≤ J6) {cells:List AS} (hc:cells = enc x) :
  ∃ s' h2,S5 P t t (h.new ⟨0,[size],true,cells⟩) s (.slc h.next 0 0 1 size none) = some (s',h2)∧Grown h2 size enc s' (l++[x])∧h.next ≤ h2.next∧(∀ b,b < h.next→z0 s ≠ some b→h2.f b = h.f b)∧(∀ b,z0 s' = some b→z0 s = some b ∨ h.next ≤ b):=by
 subst hc
 have go:=g.1.new ⟨0,[size],true,enc x⟩
 have hel:B8 (h.new ⟨0,[size],true,enc x⟩) size 1 (.slc h.next 0 0 1 size none) = some (enc x):=by
  simp [B8]
  unfold sub
  rw [if_pos (by rw [he];omega),List.drop_zero,← he x,List.take_length]
 obtain ⟨s',h2',e1,e2,e3,e4,e5,e6⟩:=j0R (bytes:=bytes) (m:=1) (new:=enc x) (n:=l.length) go h0 (z7 he l) (by omega) (by rw [he];omega) hlim
 refine ⟨s',h2', ?_,⟨by rw [u0Z];exact e2,fun hl=>by simp at hl⟩,by simp at e3;omega,fun b hb hs=>?_,fun b hb=>?_⟩
 ·rw [V9 (x:=.slc h.next 0 0 1 size none) h1 h2 h3 ht rfl hel];exact e1
 ·rw [e4 b (by simp;omega) hs,K9,if_neg (by omega)]
 ·rcases e5 b hb with e | e
  ·exact .inl e
  ·simp at e;exact .inr (by omega)
theorem u0B {st:Bool} {h:H} {size:Nat} {s:AS} {cells:List AS} {n:Nat} (o:Owns h size s cells) (hp:l0 st cells = true):p9 st h (n + 2) s = some (match s with | .slc _ _ _ k _ _=>.vs k size cells | x=>x):=by
 cases s <;> simp only [Owns] at o
 ·simp only [p9,c5,if_true]
 ·rename_i b v oo k s' c
  obtain ⟨rfl,rfl,rfl,hl,hb,B,h1,h2,h3,h4⟩:=o
  have hr:H4 h (.ptr b v 0) (k * s') = some cells:=by
   simp only [H4,h1,h3,oqE,oqS,Nat.zero_add]
   rw [if_pos (by omega)]
   unfold sub
   rw [h4,if_pos (by omega),List.drop_zero,← hl,List.take_length]
  simp only [p9,hr,oqE,oqS,b0p hp]
theorem t0n {st:Bool} {h:H} {size:Nat} {enc:α→List AS} {s:AS} {l:List α} (he:∀ x,(enc x).length = size) (h0:0 < size) (g:Grown h size enc s l) (hp:l0 st (cat enc l) = true):p9 st h 64 s = some (sl size enc (opt l)):=by
 rw [u0B (n:=62) g.1 hp]
 have hl:=z7 he l
 have o:=g.1
 cases s <;> simp only [Owns] at o
 ·have:l = []:=by
   rw [o] at hl
   simp only [oqc] at hl
   rcases Nat.mul_eq_zero.1 hl.symm with e | e
   ·exact List.eq_nil_of_length_eq_zero e
   ·omega
  subst this;rfl
 ·rename_i b v oo k s' c
  have hne:l ≠ []:=fun e=>by have:=g.2 e;cases this
  have hk:k = l.length:=by
   obtain ⟨_,rfl,_,hl2,_⟩:=o
   rw [hl] at hl2
   exact (Nat.eq_of_mul_eq_mul_right h0 hl2).symm
  simp only [C0y hne,sl,hk]
theorem x0s {st:Bool} {enc:α→List AS} (l:List α) (hp:∀ x,l0 st (enc x) = true):l0 st (cat enc l) = true:=c0k l fun x _=>hp x
end
end Go.Ab
namespace Go.Ab
def Byt (h:H) (s:AS) (l:BL):Prop:=Owns h 1 s (l.map C9)∧c5 false s = false
theorem d0x {h:H} {n:Nat}:∀ {l:List AS},l0 false l = true→(∀ a ∈ l,(∀ f x c,a ≠ .fn f x c)∧∀ t v,a ≠ .ifc t v)→l.mapM (J8 h (n + 1)) = some l
 | [],_,_=>rfl
 | a::l,hp,hn=>by
  simp only [l0,oqd] at hp
  have h1:=hn a (by simp)
  simp only [List.mapM_cons,d0j hp.1 h1.1 h1.2,d0x hp.2 (fun b hb=>hn b (by simp [hb])),oqE,oqS,oqP]
structure OS (h:H) (s:AS) (l:BL) (kept:List (Nat × Blk)):Prop where
 byt:Byt h s l
 kp:F6 h kept
 ok:∀ e ∈ kept,e.1 < h.next∧z0 s ≠ some e.1
theorem Byt.new {h:H} {s:AS} {l:BL} (o:Byt h s l) (k:Blk):Byt (h.new k) s l:=⟨o.1.new k,o.2⟩
theorem Byt.lt {h:H} {s:AS} {l:BL} (o:Byt h s l) {b:Nat} (hb:z0 s = some b):b < h.next:=z0G o.1 hb
theorem OS.new {h:H} {s:AS} {l:BL} {kept:List (Nat × Blk)} (w:OS h s l kept) (k:Blk):OS (h.new k) s l ((h.next,k)::kept) where
 byt:=w.byt.new k
 kp:=⟨by simp,S2 (fun e he=>by rw [K9,if_neg (by have:=(w.ok e he).1;omega)]) w.kp⟩
 ok e he:=by
  rcases oqf.1 he with rfl | he
  ·exact ⟨by simp,fun hb=>by have:=w.byt.lt hb;simp only at this;omega⟩
  ·have:=w.ok e he;exact ⟨by simp only [A1];omega,this.2⟩
theorem v0P (h:H) (l:BL) (x:Bool):Byt (h.new (C6 (l.map C9) x)) (.slc h.next 0 0 l.length 1 none) l:=⟨h0Z h 1 l.length _ x (by simp),rfl⟩
theorem OS.made (h:H) (l:BL) (x:Bool) (kept:List (Nat × Blk)) (hk:F6 h kept) (hl:∀ e ∈ kept,e.1 < h.next):OS (h.new (C6 (l.map C9) x)) (.slc h.next 0 0 l.length 1 none) l kept where
 byt:=v0P h l x
 kp:=S2 (fun e he=>by rw [K9,if_neg (by have:=hl e he;omega)]) hk
 ok e he:=⟨by have:=hl e he;simp only [A1];omega,fun hb=>by simp only [z0,oqI] at hb;have:=hl e he;omega⟩
@[simp] theorem G0U (h:H) (o:Option BL) (n:Nat):J8 h (n + 1) (bs o) = some (bs o):=d0j (by simp) (by cases o <;> simp [C4,T6]) (by cases o <;> simp [C4,T6])
end Go.Ab
namespace Go.Ab
def Rets (P:AV→H→Prop):CR→Prop
 | .ret v h=>P v h
 | .pan _ _=>False
theorem Rets.ret {P:AV→H→Prop} {r:CR} (e:Rets P r):∃ v h,r = .ret v h∧P v h:=by
 cases r with
 | ret v h=>exact ⟨v,h,rfl,e⟩
 | pan v h=>exact e.elim
theorem Rets.intro {C:Conf} {f:Nat} {args:List AV} {h:H} {P:AV→H→Prop} (k:∀ P':AV→H→Prop,(∀ v h,P v h→P' v h)→∃ r,W C f args h = some r∧Rets P' r):∃ r,W C f args h = some r∧Rets P r:=k P fun _ _ h=>h
@[simp] theorem D0V (P:AV→H→Prop) (v:AV) (h:H):Rets P (.ret v h) = P v h:=rfl
section
variable (P:Program) (cmp:Nat→Option (List AS)) (fr:Fr) (h:H) (d:Option Nat) (ty:TypeId) (pos:String) (af:Array Edge) (g:Option (Nat × Bool))
def w0P (u:TypeDesc) (a:AS) (n:Nat) (h:H):Option OR:=match u,a with | .string,.str s=>(s[n]?).bind fun b=>some (one (C9 b) h) | _,_=>none
@[simp] theorem C0Y (s:List UInt8) (n:Nat):w0P .string (.str s) n h = (s[n]?).bind fun b=>some (one (C9 b) h):=rfl
@[simp] theorem D0C (t:TypeId) (x i:Operand):opA P cmp fr h ⟨d,.index t x i,ty,pos,af,g⟩ = (P.underlying t).bind fun u=>(evS fr x).bind fun a=>(evS fr i).bind fun j=>(b0D j).bind fun n=>w0P u a n h:=by
 simp only [opA,oqE]
 congr 1;funext u
 cases evS fr x with
 | none=>cases u <;> rfl
 | some a=>cases evS fr i with
  | none=>cases u <;> cases a <;> rfl
  | some j =>
   cases hj:b0D j with
   | none=>cases u <;> cases a <;> simp [hj]
   | some n=>cases u <;> cases a <;> simp [w0P,hj]
end
theorem M8 {l new:List AS} (hl:new.length = l.length):lay l 0 new = new:=by simp [lay,hl]
theorem a0v {l m:List AS} {a k o n:Nat} (h:sub l a k = some m) (ho:o + n ≤ k):sub l (a + o) n = sub m o n:=by
 unfold sub at h ⊢
 split at h
 ·rename_i hle
  simp only [oqI] at h
  subst h
  rw [if_pos (by omega),if_pos (by simp;omega),List.drop_take,List.take_take,List.drop_drop,Nat.min_eq_left (by omega)]
 ·cases h
section
variable {α:Type}
def Arr (h:H) (enc:α→List AS) (b v:Nat) (l:List α) (z:List AS):Prop:=b < h.next∧∃ fx ex,h.f b = some ⟨v,(cat enc l++z).length::ex,fx,cat enc l++z⟩
theorem Arr.keep {h h':H} {enc:α→List AS} {b v:Nat} {l:List α} {z:List AS} (a:Arr h enc b v l z) (hn:h.next ≤ h'.next) (hf:h'.f b = h.f b):Arr h' enc b v l z:=⟨by have:=a.1;omega,by rw [hf];exact a.2⟩
theorem Arr.new {h:H} {enc:α→List AS} {b v:Nat} {l:List α} {z:List AS} (a:Arr h enc b v l z) (k:Blk):Arr (h.new k) enc b v l z:=a.keep (by simp) (by have:=a.1;rw [K9,if_neg (by omega)])
theorem O5 {P:Program} {t u size:Nat} (ht:P.underlying t = some (.slice u)) (hu:A0 P u = some size) (h0:0 < size) {b v n i:Nat} (hi:i < n):S6 P t (.slc b v 0 n size none) i = some (.ptr b v (i * size)):=by
 simp only [S6,ht,hu,oqE,oqS]
 rw [if_pos ⟨trivial,h0,hi⟩,Nat.zero_add]
theorem b0Y {l:List α} {i:Nat} (hi:i < l.length):l = l.take i++l[i]::l.drop (i + 1):=by rw [List.getElem_cons_drop,List.take_append_drop]
theorem x0n {size:Nat} {enc:α→List AS} (he:∀ x,(enc x).length = size) {h:H} {b v:Nat} {l:List α} {z:List AS} (a:Arr h enc b v l z) {i:Nat} (hi:i < l.length):H4 h (.ptr b v (i * size)) size = some (enc l[i]):=by
 obtain ⟨_,fx,ex,hf⟩:=a
 have hl:=z7 he l
 have hle:i * size + size ≤ l.length * size:=by rw [← Nat.succ_mul];exact Nat.mul_le_mul_right _ hi
 simp only [c0X,hf,oqS,Blk.ext,oqg,if_true,Nat.sub_self,List.getElem?_cons_zero]
 rw [if_pos (by rw [oqa,hl];omega)]
 unfold sub
 rw [if_pos (by rw [oqa,hl];omega)]
 have h2:(cat enc (l.take i)).length = i * size:=by rw [z7 he,oqo,Nat.min_eq_left (by omega)]
 have h3:cat enc l++z = cat enc (l.take i)++(enc l[i]++(cat enc (l.drop (i + 1))++z)):=by
  conv=>lhs;rw [b0Y hi,a0m,U6]
  simp
 rw [h3,← h2,List.drop_left,← he l[i],List.take_left]
theorem t0D {size:Nat} {enc:α→List AS} (he:∀ x,(enc x).length = size) {h:H} {b v:Nat} {l:List α} {z:List AS} (a:Arr h enc b v l z) {i:Nat} (hi:i < l.length) (x:α) :
  ∃ k,a0G h (.ptr b v (i * size)) (enc x) = some (h.set b k)∧Arr (h.set b k) enc b v (l.set i x) z:=by
 obtain ⟨hb,fx,ex,hf⟩:=a
 have hl:=z7 he l
 have hle:i * size + size ≤ l.length * size:=by rw [← Nat.succ_mul];exact Nat.mul_le_mul_right _ hi
 have h2:(cat enc (l.take i)).length = i * size:=by rw [z7 he,oqo,Nat.min_eq_left (by omega)]
 have h3:cat enc l++z = cat enc (l.take i)++(enc l[i]++(cat enc (l.drop (i + 1))++z)):=by
  conv=>lhs;rw [b0Y hi,a0m,U6]
  simp
 have h4:lay (cat enc l++z) (i * size) (enc x) = cat enc (l.set i x)++z:=by
  have h5:l.set i x = l.take i++x::l.drop (i + 1):=by rw [List.set_eq_take_append_cons_drop,if_pos hi]
  unfold lay
  rw [h5,a0m,U6,h3,← h2,List.take_left,← List.drop_drop,List.drop_left,he x,← he l[i],List.drop_left]
  simp
 refine ⟨⟨v,[(cat enc l++z).length],fx,lay (cat enc l++z) (i * size) (enc x)⟩, ?_,by simpa using hb,fx,[], ?_⟩
 ·simp only [a0M,hf,oqS,Blk.ext,oqg,if_true,Nat.sub_self,List.getElem?_cons_zero]
  rw [if_pos ⟨trivial,by rw [he,oqa,hl];omega,trivial⟩]
 ·simp only [p0,if_true]
  rw [h4]
  have:(cat enc l++z).length = (cat enc (l.set i x)++z).length:=by simp [z7 he]
  rw [this]
theorem f0F {enc:α→List AS} {h:H} {b v:Nat} {l m:List α} {z:List AS} (a:Arr h enc b v (l++m) z):Arr h enc b v l (cat enc m++z):=by
 obtain ⟨hb,fx,ex,hf⟩:=a
 refine ⟨hb,fx,ex, ?_⟩
 rw [hf,a0m,oqh]
theorem d0T {size:Nat} {enc:α→List AS} (he:∀ x,(enc x).length = size) {h:H} {b v:Nat} {l:List α} {z c:List AS} (a:Arr h enc b v l z) (hc:c.length ≤ z.length) :
  ∃ k,a0G h (.ptr b v (l.length * size)) c = some (h.set b k)∧Arr (h.set b k) enc b v l (c++z.drop c.length):=by
 obtain ⟨hb,fx,ex,hf⟩:=a
 have hl:=z7 he l
 have h4:lay (cat enc l++z) (l.length * size) c = cat enc l++(c++z.drop c.length):=by
  unfold lay
  rw [← hl,List.take_left,← List.drop_drop,List.drop_left]
 refine ⟨⟨v,[(cat enc l++z).length],fx,lay (cat enc l++z) (l.length * size) c⟩, ?_,by simpa using hb,fx,[], ?_⟩
 ·simp only [a0M,hf,oqS,Blk.ext,oqg,if_true,Nat.sub_self,List.getElem?_cons_zero]
  rw [if_pos ⟨trivial,by rw [oqa,hl];omega,trivial⟩]
 ·simp only [p0,if_true]
  rw [h4]
  have:(cat enc l++z).length = (cat enc l++(c++z.drop c.length)).length:=by simp;omega
  rw [this]
theorem S0 {size:Nat} {enc:α→List AS} (he:∀ x,(enc x).length = size) {h:H} {b v:Nat} {l m:List α} {z:List AS} (a:Arr h enc b v (l++m) z):H4 h (.ptr b v (l.length * size)) (m.length * size) = some (cat enc m):=by
 obtain ⟨_,fx,ex,hf⟩:=a
 have hl:=z7 he l
 have hm:=z7 he m
 simp only [c0X,hf,oqS,Blk.ext,oqg,if_true,Nat.sub_self,List.getElem?_cons_zero,a0m]
 rw [if_pos (by simp [hl,hm] <;> omega)]
 unfold sub
 rw [if_pos (by simp [hl,hm] <;> omega),oqh,← hl,List.drop_left,← hm,List.take_left]
theorem Arr.cells {size:Nat} {enc:α→List AS} (he:∀ x,(enc x).length = size) {h:H} {b v:Nat} {l:List α} {z:List AS} (a:Arr h enc b v l z):∃ fx ex M,h.f b = some ⟨v,M.length::ex,fx,M⟩∧M = cat enc l++z∧l.length * size ≤ M.length ∧
  (∀ i (hi:i < l.length),i * size + size ≤ M.length∧sub M (i * size) size = some (enc l[i])) ∧
  (∀ h' i x,i < l.length→b < h'.next→h'.f b = some ⟨v,[M.length],fx,lay M (i * size) (enc x)⟩→Arr h' enc b v (l.set i x) z):=by
 have a0:=a
 obtain ⟨hb,fx,ex,hf⟩:=a
 have hl:=z7 he l
 have hle:∀ i,i < l.length→i * size + size ≤ (cat enc l++z).length:=by
  intro i hi
  have:i * size + size ≤ l.length * size:=by rw [← Nat.succ_mul];exact Nat.mul_le_mul_right _ hi
  rw [oqa,hl];omega
 refine ⟨fx,ex,_,hf,rfl,by rw [oqa,hl];omega,fun i hi=>⟨hle i hi, ?_⟩,fun h' i x hi hb' hf'=>⟨hb',fx,[], ?_⟩⟩
 ·have:=x0n he a0 hi
  simp only [c0X,hf,oqS,Blk.ext,oqg,if_true,Nat.sub_self,List.getElem?_cons_zero] at this
  rwa [if_pos (hle i hi)] at this
 ·obtain ⟨k,hw,h1,fx',ex',ha⟩:=t0D he a0 hi x
  simp only [a0M,hf,oqS,Blk.ext,oqg,if_true,Nat.sub_self,List.getElem?_cons_zero] at hw
  rw [if_pos ⟨trivial,by rw [he];exact hle i hi,trivial⟩] at hw
  simp only [oqI] at hw
  have h2:(h.set b k).f b = some ⟨v,[(cat enc l++z).length],fx,lay (cat enc l++z) (i * size) (enc x)⟩:=by rw [← hw];simp
  rw [hf',← h2,ha]
  have h3:=h2
  rw [ha] at h3
  simp only [oqI,Blk.mk.injEq,List.cons.injEq,true_and] at h3
  rw [h3.1.2,h3.2.1]
def Sl (h:H) (size:Nat) (enc:α→List AS) (s:AS) (l:List α):Prop:=(s = .nilslc∧l = []) ∨ ∃ b v z,s = .slc b v 0 l.length size none∧Arr h enc b v l z
theorem Sl.keep {h h':H} {size:Nat} {enc:α→List AS} {s:AS} {l:List α} (a:Sl h size enc s l) (hn:h.next ≤ h'.next) (hf:∀ b,z0 s = some b→h'.f b = h.f b):Sl h' size enc s l:=by
 rcases a with ⟨rfl,rfl⟩ | ⟨b,v,z,rfl,a⟩
 ·exact .inl ⟨rfl,rfl⟩
 ·exact .inr ⟨b,v,z,rfl,a.keep hn (hf b rfl)⟩
theorem Sl.lt {h:H} {size:Nat} {enc:α→List AS} {s:AS} {l:List α} (a:Sl h size enc s l) {b:Nat} (hb:z0 s = some b):b < h.next:=by
 rcases a with ⟨rfl,rfl⟩ | ⟨b,v,z,rfl,a⟩
 ·cases hb
 ·cases hb;exact a.1
theorem Sl.sees {h:H} {size:Nat} {enc:α→List AS} (he:∀ x,(enc x).length = size) {s:AS} {l:List α} (a:Sl h size enc s l):Sees h size s (cat enc l):=by
 rcases a with ⟨rfl,rfl⟩ | ⟨b,v,z,rfl,a⟩
 ·rfl
 ·refine ⟨rfl, ?_⟩
  have:=S0 (l:=[]) he a
  simpa using this
theorem Sl.len {h:H} {size:Nat} {enc:α→List AS} {s:AS} {l:List α} (a:Sl h size enc s l):P5 s = some l.length:=by
 rcases a with ⟨rfl,rfl⟩ | ⟨b,v,z,rfl,a⟩ <;> rfl
theorem N9 {P:Program} {t el size bytes:Nat} (ht:P.underlying t = some (.slice el)) (h1:P1 P t = some el) (h2:A0 P el = some size) (h3:A6 P el = some bytes) (h0:0 < size) {enc:α→List AS} (he:∀ x,(enc x).length = size)
  {h:H} {s a:AS} {l m:List α} (w:Sl h size enc s l) (hs:P5 a = some m.length) (hel:B8 h size m.length a = some (cat enc m)) (hm:m ≠ []) (hlim:(l.length + m.length + 600) * bytes + (l.length + m.length) ≤ J6) :
  ∃ s' h',S5 P t t h s a = some (s',h')∧(∃ b v z,s' = .slc b v 0 (l++m).length size none∧Arr h' enc b v (l++m) z)∧h.next ≤ h'.next∧(∀ b,b < h.next→z0 s ≠ some b→h'.f b = h.f b)∧(∀ b,z0 s' = some b→z0 s = some b ∨ h.next ≤ b):=by
 rw [V9 (x:=a) h1 h2 h3 ht hs hel]
 have hml:=z7 he m
 have hll:=z7 he l
 have hm0:m.length ≠ 0:=fun e=>hm (List.eq_nil_of_length_eq_zero e)
 have hmp:0 < m.length * size:=Nat.mul_pos (by omega) h0
 have hne:¬ ((cat enc m).length ≠ m.length * size ∨ size = 0):=by omega
 have made:Arr (h.new (C6 (cat enc l++cat enc m) false)) enc h.next 0 (l++m) []:=by
  refine ⟨by simp,false,[], ?_⟩
  simp [C6,a0m]
 have frame:∀ b,b < h.next→(h.new (C6 (cat enc l++cat enc m) false)).f b = h.f b:=fun b hb=>u4 (by omega)
 rcases w with ⟨rfl,rfl⟩ | ⟨b,v,z,rfl,w⟩
 ·refine ⟨.slc h.next 0 0 m.length size none,h.new (C6 (cat enc m) false), ?_,⟨h.next,0,[],by simp,by simpa using made⟩,by simp,fun b hb _=>by simpa using frame b hb,fun b hb=>?_⟩
  ·simp only [J3,if_neg hne,if_neg hm0]
   rw [if_pos (by simpa using hlim)]
  ·simp only [z0,oqI] at hb;right;omega
 ·obtain ⟨hb,fx,ex,hf⟩:=w
  have hrd:H4 h (.ptr b v 0) (l.length * size) = some (cat enc l):=by
   have:=S0 (l:=[]) he (⟨hb,fx,ex,hf⟩:Arr h enc b v ([]++l) z)
   simpa using this
  have hlim':¬ J6 < (l.length + m.length + 600) * bytes + (l.length + m.length):=by omega
  have hext:(⟨v,(cat enc l++z).length::ex,fx,cat enc l++z⟩:Blk).ext v = some (cat enc l++z).length:=by simp [Blk.ext]
  have hvr:¬ ((v:Nat) ≠ v ∨ (cat enc l++z).length ≠ (cat enc l++z).length):=by simp
  by_cases hfit:l.length * size + (cat enc m).length ≤ (cat enc l++z).length
  ·obtain ⟨k,hw,ha⟩:=d0T he (⟨hb,fx,ex,hf⟩:Arr h enc b v l z) (c:=cat enc m) (by rw [oqa,hll] at hfit;omega)
   refine ⟨.slc b v 0 (l.length + m.length) size none,h.set b k, ?_,⟨b,v,z.drop (cat enc m).length,by simp, ?_⟩,by simp,fun b' _ hb'=>?_,fun b' hb'=>.inl hb'⟩
   ·simp only [J3,if_neg hne,if_neg hm0,if_neg hlim',hf,hext,hrd,oqE,oqS,Nat.zero_add,ne_eq,not_true_eq_false,if_false,hvr]
    rw [if_neg (by simp),if_pos hfit,hw];rfl
   ·obtain ⟨q1,q2,q3,q4⟩:=ha
    refine ⟨q1,q2,q3, ?_⟩
    rw [q4,a0m,oqh]
   ·rw [p0,if_neg (by rintro rfl;exact hb' rfl)]
  ·by_cases hx:fx = true
   ·refine ⟨.slc h.next 0 0 (l.length + m.length) size none,h.new (C6 (cat enc l++cat enc m) false), ?_,⟨h.next,0,[],by simp,made⟩,by simp,fun b hb _=>frame b hb,fun b hb=>?_⟩
    ·simp only [J3,if_neg hne,if_neg hm0,if_neg hlim',hf,hext,hrd,oqE,oqS,Nat.zero_add,ne_eq,not_true_eq_false,if_false,hvr]
     rw [if_neg (by simp),if_neg hfit,if_pos hx]
    ·simp only [z0,oqI] at hb;right;omega
   ·by_cases hz:z = []
    ·subst hz
     refine ⟨.slc b (v + 1) 0 (l.length + m.length) size none,h.set b ⟨v + 1,((cat enc l++[]).length + (cat enc m).length)::((cat enc l++[]).length::ex),false,(cat enc l++[])++cat enc m⟩, ?_,⟨b,v + 1,[],by simp,by simpa using hb,false,(cat enc l++[]).length::ex, ?_⟩,by simp,fun b' _ hb'=>?_,fun b' hb'=>.inl hb'⟩
     ·simp only [J3,if_neg hne,if_neg hm0,if_neg hlim',hf,hext,hrd,oqE,oqS,Nat.zero_add,ne_eq,not_true_eq_false,if_false,hvr]
      rw [if_neg (by simp),if_neg hfit,if_neg hx,if_pos trivial,if_pos (by simp [hll])]
     ·simp only [p0,if_true,List.append_nil,a0m,oqa]
     ·rw [p0,if_neg (by rintro rfl;exact hb' rfl)]
    ·have hz0:z.length ≠ 0:=fun e=>hz (List.eq_nil_of_length_eq_zero e)
     refine ⟨.slc b (v + 1) 0 (l.length + m.length) size none,h.set b ⟨v + 1,[l.length * size + (cat enc m).length],false,(cat enc l++z).take (l.length * size)++cat enc m⟩, ?_,⟨b,v + 1,[],by simp,by simpa using hb,false,[], ?_⟩,by simp,fun b' _ hb'=>?_,fun b' hb'=>.inl hb'⟩
     ·simp only [J3,if_neg hne,if_neg hm0,if_neg hlim',hf,hext,hrd,oqE,oqS,Nat.zero_add,ne_eq,not_true_eq_false,if_false,hvr]
      rw [if_neg (by simp),if_neg hfit,if_neg hx,if_pos trivial,if_neg (by simp [hll];omega)]
     ·simp only [p0,if_true,List.append_nil,a0m,oqa]
      rw [← hll,List.take_left]
     ·rw [p0,if_neg (by rintro rfl;exact hb' rfl)]
theorem m0c {P:Program} {t el size bytes:Nat} (ht:P.underlying t = some (.slice el)) (h1:P1 P t = some el) (h2:A0 P el = some size) (h3:A6 P el = some bytes) (h0:0 < size) {enc:α→List AS} (he:∀ x,(enc x).length = size)
  {h:H} {b v:Nat} {l:List α} {z:List AS} (w:Arr h enc b v l z) {i:Nat} (hi:i < l.length) (hlim:(l.length + 600) * bytes + l.length ≤ J6) :
  ∃ h' z',S5 P t t h (.slc b v 0 i size none) (.slc b v ((i + 1) * size) (l.length - (i + 1)) size none) = some (.slc b v 0 (l.length - 1) size none,h')∧Arr h' enc b v (l.eraseIdx i) z'∧z'.length = size + z.length∧h'.next = h.next∧∀ x,x ≠ b→h'.f x = h.f x:=by
 obtain ⟨a,x,r,rfl,rfl⟩:∃ a x r,l = a++x::r∧a.length = i:=⟨l.take i,l[i],l.drop (i + 1),b0Y hi,by simp;omega⟩
 have hn:(a++x::r).length - (a.length + 1) = r.length:=by simp <;> omega
 have hn1:(a++x::r).length - 1 = a.length + r.length:=by simp <;> omega
 have hll:(a++x::r).length = a.length + r.length + 1:=by simp <;> omega
 have her:(a++x::r).eraseIdx a.length = a++r:=by rw [List.eraseIdx_append_of_length_le (oqg _)];simp
 rw [hn,hn1,her]
 rw [hll] at hlim
 have hw2:Arr h enc b v ((a++[x])++r) z:=by simpa using w
 have hel:B8 h size r.length (.slc b v ((a.length + 1) * size) r.length size none) = some (cat enc r):=by
  have:=S0 he hw2
  rw [oqa] at this
  simp only [B8,oqg,and_self,if_true]
  exact this
 rw [V9 (x:=.slc b v ((a.length + 1) * size) r.length size none) h1 h2 h3 ht rfl hel]
 have ha:=z7 he a
 have hr:=z7 he r
 have hcut:Arr h enc b v a (cat enc (x::r)++z):=f0F w
 have hne:¬ ((cat enc r).length ≠ r.length * size ∨ size = 0):=by omega
 by_cases hr0:r = []
 ·subst hr0
  refine ⟨h,cat enc [x]++z, ?_,by simpa using hcut,by rw [oqa,z7 he];simp,rfl,fun _ _=>rfl⟩
  simp only [J3,if_neg hne]
  simp
 ·have hrl:r.length ≠ 0:=fun e=>hr0 (List.eq_nil_of_length_eq_zero e)
  obtain ⟨kb,hwr,har⟩:=d0T he hcut (c:=cat enc r) (by rw [U6];simp;omega)
  have hcut2:=hcut
  obtain ⟨hb,fx,ex,hf⟩:=hcut
  have hrd:H4 h (.ptr b v 0) (a.length * size) = some (cat enc a):=by
   have:=S0 (l:=[]) (m:=a) he (by simpa using hcut2)
   simpa using this
  have hext:(⟨v,(cat enc a++(cat enc (x::r)++z)).length::ex,fx,cat enc a++(cat enc (x::r)++z)⟩:Blk).ext v = some (cat enc a++(cat enc (x::r)++z)).length:=by simp [Blk.ext]
  have hfit:a.length * size + (cat enc r).length ≤ (cat enc a++(cat enc (x::r)++z)).length:=by rw [U6];simp only [oqa];omega
  have hvr:¬ ((v:Nat) ≠ v ∨ (cat enc a++(cat enc (x::r)++z)).length ≠ (cat enc a++(cat enc (x::r)++z)).length):=by simp
  have hb1:(a.length + r.length + 600) * bytes ≤ (a.length + r.length + 1 + 600) * bytes:=Nat.mul_le_mul_right _ (by omega)
  have hlim':¬ J6 < (a.length + r.length + 600) * bytes + (a.length + r.length):=by omega
  refine ⟨h.set b kb,(cat enc (x::r)++z).drop (cat enc r).length, ?_, ?_, ?_,rfl,fun y hy=>by rw [p0,if_neg hy]⟩
  ·simp only [J3,if_neg hne,if_neg hrl,if_neg hlim',hf,hext,hrd,oqE,oqS,Nat.zero_add,ne_eq,not_true_eq_false,if_false,hvr]
   rw [if_neg (by simp),if_pos hfit,hwr];rfl
  ·obtain ⟨q1,q2,q3,q4⟩:=har
   refine ⟨q1,q2,q3, ?_⟩
   rw [q4,a0m,oqh]
  ·have hx:=he x
   rw [List.length_drop,U6]
   simp only [oqa,hx]
   omega
end
end Go.Ab
namespace Go.Ab
theorem s0H {α:Type} (p:α→Bool) (l:List α):((∀ x ∈ l,p x = false)∧idx p l = -1) ∨ ∃ a x r,l = a++x::r∧(∀ y ∈ a,p y = false)∧p x = true:=by
 induction l with
 | nil=>left;exact ⟨by simp,rfl⟩
 | cons y l ih =>
  cases hy:p y
  ·rcases ih with ⟨h1,h2⟩ | ⟨a,x,r,h1,h2,h3⟩
   ·left
    have:∀ x ∈ y::l,p x = false:=by
     intro x hx
     rcases oqf.1 hx with rfl | hx
     ·exact hy
     ·exact h1 x hx
    exact ⟨this,b0w this⟩
   ·right
    refine ⟨y::a,x,r,by rw [h1];rfl, ?_,h3⟩
    intro z hz
    rcases oqf.1 hz with rfl | hz
    ·exact hy
    ·exact h2 z hz
  ·right;exact ⟨[],y,l,rfl,by simp,hy⟩
end Go.Ab
namespace Go.Ab
abbrev n0U:=Unit
abbrev j0L:=(Nat→List AV→H→Option CR)→List AV→H→Option CR
def D0K (_:Program) (_:Nat) (_:n0U):Prop:=False
def F0l (_:Conf) (_:n0U):j0L:=fun _ _ _=>none
structure SeatK where
 P:Program
 ext:List (Nat × Ext)
 cmp:List Nat
 rd:Option (Nat × RdFn)
 lay:Option (Nat × n0U)
 frz:List Nat
 own:List Nat
def w0K:List (Nat × Ext)→Nat→Option Ext
 | [],_=>none
 | a::l,f=>bif Nat.beq f a.1 then some a.2 else w0K l f
def A8:List Nat→Nat→Bool
 | [],_=>false
 | a::l,t=>bif Nat.beq t a then true else A8 l t
def i0p (S:SeatK):Conf:={ P:=S.P,ext:=w0K S.ext,prim:=fun _=>none,frz:=fun _=>false,cmp:=fun t=>bif A8 S.cmp t then b0W S.P 8 t else none }
noncomputable def primR (S:SeatK) (f:Nat):Option j0L:=match S.rd with | some q=>bif Nat.beq f q.1 then some (f0f (i0p S) q.2) else none | none=>none
noncomputable def primY (S:SeatK) (f:Nat):Option j0L:=match S.lay with | some q=>bif Nat.beq f q.1 then some (F0l (i0p S) q.2) else none | none=>none
noncomputable def primK (S:SeatK) (f:Nat):Option j0L:=match primR S f with | some g=>some g | none=>primY S f
noncomputable def confK (S:SeatK):Conf:={ P:=S.P,ext:=w0K S.ext,prim:=primK S,frz:=A8 S.frz,cmp:=fun t=>bif A8 S.cmp t then b0W S.P 8 t else none,own:=A8 S.own }
structure SeatKOk (S:SeatK):Prop where
 okT:OkT S.P
 mixed:S.P.follows .mixedOrders = true
 names:∀ (f:Nat) (fn:Func),S.P.funcs[f]? = some fn→fn.body.isSome = true→(fn.name == "runtime.NumGoroutine") = false
 ext:∀ q ∈ S.ext,ExtT S.P q.1 q.2
 cmp:∀ t ∈ S.cmp,(∃ fs,S.P.underlying t = some (.struct fs))∧S.P.eqGuardType S.P.depth t = false
 read:∀ q,S.rd = some q→ReadOk S.P q.1 q.2
 lay:∀ q,S.lay = some q→D0K S.P q.1 q.2
section
variable {S:SeatK}
theorem r0r:∀ {l:List (Nat × Ext)} {f:Nat} {x:Ext},w0K l f = some x→(f,x) ∈ l
 | [],f,x,h=>by cases h
 | a::l,f,x,h=>by
  rw [w0K] at h
  cases hb:Nat.beq f a.1 with
  | true =>
   rw [hb] at h
   simp only [cond_true,oqI] at h
   have:=oqN hb
   subst h;subst this;simp
  | false=>rw [hb] at h;exact List.mem_cons_of_mem _ (r0r h)
theorem s0o:∀ {l:List Nat} {t:Nat},A8 l t = true→t ∈ l
 | [],t,h=>by cases h
 | a::l,t,h=>by
  rw [A8] at h
  cases hb:Nat.beq t a with
  | true=>have:=oqN hb;subst this;simp
  | false=>rw [hb] at h;exact List.mem_cons_of_mem _ (s0o h)
theorem m0X {α:Type} {b:Bool} {x y:α} (h:(bif b then some x else none) = some y):b = true∧x = y:=by
 cases b with
 | true=>simp only [cond_true,oqI] at h;exact ⟨rfl,h⟩
 | false=>cases h
theorem f0j {f:Nat} {g:j0L} (h:primK S f = some g):(∃ q,S.rd = some q∧f = q.1∧g = f0f (i0p S) q.2) ∨ ∃ q,S.lay = some q∧f = q.1∧g = F0l (i0p S) q.2:=by
 unfold primK at h
 split at h
 ·rename_i g' hg
  simp only [oqI] at h;subst h
  unfold primR at hg
  split at hg
  ·rename_i q hq
   obtain ⟨h1,rfl⟩:=m0X hg
   exact .inl ⟨q,hq,oqN h1,rfl⟩
  ·cases hg
 ·unfold primY at h
  split at h
  ·rename_i q hq
   obtain ⟨h1,rfl⟩:=m0X h
   exact .inr ⟨q,hq,oqN h1,rfl⟩
  ·cases h
theorem d0c:PrimOk (confK S):=by
 refine ⟨fun f g h c d hl args hh r hr=>?_,fun f g h c w hm hw args hh r hr=>?_⟩
 ·rcases f0j h with ⟨q,_,_,rfl⟩ | ⟨q,_,_,rfl⟩
  ·exact q0c hl hr
  ·cases hr
 ·rcases f0j h with ⟨q,_,_,rfl⟩ | ⟨q,_,_,rfl⟩
  ·exact z0i hm hw hr
  ·cases hr
theorem c0Z (h:SeatKOk S):∀ t z,(confK S).cmp t = some z→CmpT S.P t z:=by
 intro t z hz
 have hz':(bif A8 S.cmp t then b0W S.P 8 t else none) = some z:=hz
 cases hb:A8 S.cmp t with
 | false=>rw [hb] at hz';cases hz'
 | true =>
  rw [hb,cond_true] at hz'
  obtain ⟨⟨fs,h3⟩,h4⟩:=h.cmp t (s0o hb)
  exact C0x hz' h3 h4
theorem k0X (h:SeatKOk S):OkC (confK S):=by
 refine ⟨h.names,fun f x hx args hh r hr φ w cargs R ha=>?_,fun f g hg calls hc args hh r hr φ w cargs R ha=>?_⟩
 ·exact C0d (h.ext _ (r0r hx)) hr R ha
 ·rcases f0j hg with ⟨q,hq,rfl,rfl⟩ | ⟨q,hq,rfl,rfl⟩
  ·exact u0r (C:=i0p S) h.okT (c0Z h) (h.read q hq) hc hr R ha
  ·exact (h.lay q hq).elim
theorem G0K (h:SeatKOk S):F4 S.P (W (confK S)):=C0h (C:=confK S) h.okT (c0Z h) (k0X h) d0c h.mixed
end
theorem G0J {a:AV} (h:i0c (false,[.int .i64]) a):∃ n:Int,-9223372036854775808 ≤ n∧n < 9223372036854775808∧a = .one (.int .i64 n):=by
 obtain ⟨x,c,h1,rfl,h2⟩:∃ x c,[CS.int .i64] = [c]∧a = .one x∧Fit c x:=by simpa [i0c] using h
 cases h1
 cases h2 with
 | int k n h3 h4 =>
  have h3':(-9223372036854775808:Int) ≤ n:=h3
  have h4':n ≤ 9223372036854775807:=h4
  exact ⟨n,h3',by omega,rfl⟩
theorem B0T {a:AV} (h:i0c (false,[.int .u8]) a):∃ b:UInt8,a = .one (C9 b):=by
 obtain ⟨x,c,h1,rfl,h2⟩:∃ x c,[CS.int .u8] = [c]∧a = .one x∧Fit c x:=by simpa [i0c] using h
 cases h1
 cases h2 with
 | int k n h3 h4 =>
  have h3':(0:Int) ≤ n:=h3
  have h4':n ≤ 255:=h4
  refine ⟨UInt8.ofNat n.toNat, ?_⟩
  simp only [C9]
  congr 2
  rw [UInt8.toNat_ofNat',Nat.mod_eq_of_lt (by omega)];omega
theorem o0W {p:Bool × List CS} {ps:List (Bool × List CS)} {xs:List AV} (h:FitAL (p::ps) xs):∃ a xs',xs = a::xs'∧i0c p a∧FitAL ps xs':=by
 cases h with | cons _ a _ xs' h1 h2=>exact ⟨a,xs',rfl,h1,h2⟩
theorem z0J {xs:List AV} (h:FitAL [] xs):xs = []:=by cases h;rfl
theorem K7 {c:CS} {cs:List CS} {l:List AS} (h:FitL (c::cs) l):∃ a r,l = a::r∧Fit c a∧FitL cs r:=by
 cases h with | cons _ a _ l h1 h2=>exact ⟨a,l,rfl,h1,h2⟩
theorem k0m {l:List AS} (h:FitL [] l):l = []:=by cases h;rfl
theorem H0t {s:List CS} {a:AV} (h:i0c (true,s) a):∃ l,a = .agg l∧FitL s l:=by simpa [i0c] using h
theorem r0l {c:CS} {a:AV} (h:i0c (false,[c]) a):∃ x,a = .one x∧Fit c x:=by
 obtain ⟨x,c',h1,rfl,h2⟩:∃ x c',[c] = [c']∧a = .one x∧Fit c' x:=by simpa [i0c] using h
 cases h1;exact ⟨x,rfl,h2⟩
theorem b0t {x:AS} (h:Fit (.int .i64) x):∃ n:Int,(-9223372036854775808 ≤ n∧n < 9223372036854775808)∧x = .int .i64 n:=by
 cases h with
 | int k n h3 h4 =>
  have h3':(-9223372036854775808:Int) ≤ n:=h3
  have h4':n ≤ 9223372036854775807:=h4
  exact ⟨n,⟨h3',by omega⟩,rfl⟩
theorem h0i {x:AS} (h:Fit .bool x):∃ b,x = .bool b:=by cases h;exact ⟨_,rfl⟩
theorem s0d {x:AS} (h:Fit .flt x):∃ n:Nat,n < 2 ^ 64∧x = .flt n:=by cases h with | flt b h=>exact ⟨b,h,rfl⟩
theorem H0n {x:AS} (h:Fit .str x):∃ s:List UInt8,s.length ≤ maxLen∧x = .str s:=by cases h with | str s h=>exact ⟨s,h,rfl⟩
theorem m0Y {α:Type} {s:List CS} {enc:α→List AS} {ok:α→Prop} (hx:∀ l,FitL s l→∃ x,ok x∧l = enc x) {a:AS} (h:Fit (.slc s) a):∃ o:Option (List α),(ls o).length ≤ maxLen∧(∀ x ∈ ls o,ok x)∧a = sl s.length enc o:=by
 cases h with
 | nil=>exact ⟨none,Nat.zero_le _,by simp,rfl⟩
 | slc _ n k cells hk hn hc =>
  have key:∀ n cells,FitN s n cells→∃ l:List α,l.length = n∧(∀ x ∈ l,ok x)∧cells = cat enc l:=by
   intro n
   induction n with
   | zero=>intro cells hc;cases hc;exact ⟨[],rfl,by simp,rfl⟩
   | succ n ih =>
    intro cells hc
    cases hc with
    | succ _ _ a l h1 h2 =>
     obtain ⟨x,hx1,rfl⟩:=hx a h1
     obtain ⟨q,h3,h4,rfl⟩:=ih l h2
     refine ⟨x::q,by simp [h3], ?_,by simp [cat]⟩
     intro y hy
     rcases oqf.1 hy with rfl | hy
     ·exact hx1
     ·exact h4 y hy
  obtain ⟨l,h1,h2,rfl⟩:=key n cells hc
  refine ⟨some l,by simpa [h1] using hn,h2, ?_⟩
  simp only [sl,h1,hk]
theorem v0l {a:AS} (h:Fit (.slc [.int .u8]) a):∃ o:Option BL,(ls o).length ≤ maxLen∧a = bs o:=by
 have hx:∀ l,FitL [.int .u8] l→∃ x:UInt8,True∧l = [C9 x]:=by
  intro l hl
  obtain ⟨a,r,rfl,h1,h2⟩:=K7 hl
  cases k0m h2
  obtain ⟨b,hb⟩:=B0T (a:=.one a) (by show (if false = true then _ else _);rw [if_neg (by simp)];exact ⟨a,_,rfl,rfl,h1⟩)
  cases hb
  exact ⟨b,trivial,rfl⟩
 obtain ⟨o,h1,_,h3⟩:=m0Y (enc:=fun b:UInt8=>[C9 b]) hx h
 exact ⟨o,h1,h3⟩
end Go.Ab
namespace Go.Ab
def r0I:List (Nat × InsFn)→Nat→Option InsFn
 | [],_=>none
 | a::l,f=>bif Nat.beq f a.1 then some a.2 else r0I l f
theorem p0v:∀ {l:List (Nat × InsFn)} {f:Nat} {x:InsFn},r0I l f = some x→(f,x) ∈ l
 | [],f,x,h=>by cases h
 | a::l,f,x,h=>by
  rw [r0I] at h
  cases hb:Nat.beq f a.1 with
  | true =>
   rw [hb] at h
   simp only [cond_true,oqI] at h
   have:=oqN hb
   subst h;subst this;simp
  | false=>rw [hb] at h;exact List.mem_cons_of_mem _ (p0v h)
def t0O (F:InsFn):j0L:=fun _ args h=>q0D F args h
def Conf.insK (C:Conf) (l:List (Nat × InsFn)):Conf:={ C with prim:=fun g=>match r0I l g with | some F=>some (t0O F) | none=>C.prim g }
section
variable {C:Conf} {l:List (Nat × InsFn)}
theorem g0C {g:Nat} {p:j0L} (h:(C.insK l).prim g = some p):(∃ F,(g,F) ∈ l∧p = t0O F) ∨ C.prim g = some p:=by
 simp only [Conf.insK] at h
 split at h
 ·rename_i F hF;cases h;exact .inl ⟨F,p0v hF,rfl⟩
 ·exact .inr h
theorem h0I (hp:PrimOk C):PrimOk (C.insK l):=by
 refine ⟨fun g p h c d hl args hh r hr=>?_,fun g p h c w hm hw args hh r hr=>?_⟩
 ·rcases g0C h with ⟨F,_,rfl⟩ | h
  ·exact hr
  ·exact hp.mono g p h c d hl args hh r hr
 ·rcases g0C h with ⟨F,_,rfl⟩ | h
  ·exact ⟨0,hr⟩
  ·exact hp.cont g p h c w hm hw args hh r hr
def s0t (P:Program) (l:List (Nat × InsFn)):Prop:=∀ q ∈ l,∃ ρ el info,InsLay P ρ q.1 el info∧el < P.types.size∧q.2 = ⟨info.size,info.bytes⟩
theorem r0X (hP:OkT C.P) (hO:OkC C) (hl:s0t C.P l):OkC (C.insK l):=by
 refine ⟨hO.names,hO.ext,fun g p h calls hc args hh r hr φ w cargs R ha=>?_⟩
 rcases g0C h with ⟨F,hm,rfl⟩ | h
 ·obtain ⟨ρ,el,info,h1,h2,h3⟩:=hl _ hm
  exact y0Z hP h1 h2 h3 hr R ha
 ·exact hO.prim g p h calls hc args hh r hr φ w cargs R ha
end
def H0G (a b:List Nat) (f:Nat):Option Bool:=bif A8 a f then some true else bif A8 b f then some false else none
end Go.Ab
namespace Go.Ab
noncomputable def viaP (w2:B4) (f:Nat):j0L:=fun _ args h=>(w2 f args h).bind (iceR true h)
noncomputable def Conf.via (C:Conf) (fs:List Nat) (w2:B4):Conf:={ C with prim:=fun g=>match C.prim g with | some p=>some p | none=>bif A8 fs g then some (viaP w2 g) else none }
section
variable {C:Conf} {fs:List Nat} {w2:B4}
theorem i0d {g:Nat} {p:j0L} (h:(C.via fs w2).prim g = some p):p = viaP w2 g ∨ C.prim g = some p:=by
 simp only [Conf.via] at h
 split at h
 ·rename_i q hq;cases h;exact .inr hq
 ·exact .inl (m0X h).2.symm
theorem v0g (hp:PrimOk C):PrimOk (C.via fs w2):=by
 refine ⟨fun g p h c d hl args hh r hr=>?_,fun g p h c w hm hw args hh r hr=>?_⟩
 ·rcases i0d h with rfl | h
  ·exact hr
  ·exact hp.mono g p h c d hl args hh r hr
 ·rcases i0d h with rfl | h
  ·exact ⟨0,hr⟩
  ·exact hp.cont g p h c w hm hw args hh r hr
theorem A0Q (hO:OkC C) (hw:F4 C.P w2):OkC (C.via fs w2):=by
 refine ⟨hO.names,hO.ext,fun g p h calls hc args hh r hr φ w cargs R ha=>?_⟩
 rcases i0d h with rfl | h
 ·simp only [viaP,oqB] at hr
  obtain ⟨r0,h1,h2⟩:=hr
  exact l0s R h2 (hw g args hh r0 h1 φ w cargs R ha)
 ·exact hO.prim g p h calls hc args hh r hr φ w cargs R ha
end
theorem j0D {C:Conf} (hp:PrimOk C) {f:Nat} {g:j0L} (hq:C.prim f = some g) (args:List AV) (h:H):W C f args h = g (W C) args h:=by
 rw [t0e hp];unfold callF;rw [hq]
theorem m0x {h:H}:∀ {l:List (Bool × List AS)},(l.all fun p=>l0 false p.2) = true→H8 false h l = some l
 | [],_=>rfl
 | p::l,hp=>by
  simp only [List.all_cons,oqd] at hp
  simp only [H8,mapM_frz64 hp.1,m0x hp.2,oqE,oqS]
where
 mapM_frz64 {h:H} {l:List AS} (hp:l0 false l = true):l.mapM (p9 false h 64) = some l:=b0p hp
theorem q0J {h:H} {v:AV} (hv:a0J v = true):u5 false h v = some v:=by
 cases v with
 | one a=>simp only [u5,s8 (n:=63) hv,oqE,oqS]
 | agg l=>simp only [u5,b0p (n:=63) (h:=h) (l:=l) hv,oqE,oqS]
 | tup ps=>simp only [u5,m0x hv,oqE,oqS]
 | opq=>rfl
 | undef=>cases hv
theorem b0g (h:H):Kept h h:=⟨oqg _,fun _ _=>rfl⟩
theorem b0N {h h1:H} {v:AV} (hk:Kept h h1) (hv:a0J v = true):iceR true h (.ret v h1) = some (.ret v h):=f0B hk (q0J hv)
end Go.Ab
namespace Go.Ab
theorem k0s {S:SeatK} {ins:List (Nat × InsFn)} {via:List Nat} {w2:B4} {ice:Nat→Option Bool}:PrimOk ((((confK S).insK ins).via via w2).ice ice):=x0l (v0g (h0I d0c))
theorem z0g {S:SeatK} {ins:List (Nat × InsFn)} {via:List Nat} {w2:B4} {ice:Nat→Option Bool} (h:SeatKOk S) (hi:s0t S.P ins) (hw:F4 S.P w2):F4 S.P (W ((((confK S).insK ins).via via w2).ice ice)) :=
 C0h (C:=(((confK S).insK ins).via via w2).ice ice) h.okT (c0Z h) (z0q (C:=((confK S).insK ins).via via w2) h.okT (c0Z h) h.mixed (A0Q (C:=(confK S).insK ins) (r0X (C:=confK S) h.okT (k0X h) hi) hw)) k0s h.mixed
theorem y0S {S:SeatK} {ins:List (Nat × InsFn)} (h:SeatKOk S) (hi:s0t S.P ins):F4 S.P (W ((confK S).insK ins)) :=
 C0h (C:=(confK S).insK ins) h.okT (c0Z h) (r0X (C:=confK S) h.okT (k0X h) hi) (h0I d0c) h.mixed
end Go.Ab
namespace Go.Ab
section
variable (P:Program) (d:Option Nat) (ty:TypeId) (pos:String) (af:Array Edge) (g:Option (Nat × Bool))
@[simp] theorem G0B (args:Array Operand) (ts:Array TypeId):H9 P ⟨d,.call ⟨.builtin .min,args,ts⟩,ty,pos,af,g⟩ = .pure:=rfl
@[simp] theorem G0O (args:Array Operand) (ts:Array TypeId):H9 P ⟨d,.call ⟨.builtin .max,args,ts⟩,ty,pos,af,g⟩ = .pure:=rfl
end
@[simp] theorem nx2 (n:Nat):(n = n + 1 + 1) = False:=eq_false (by omega)
@[simp] theorem ny2 (n:Nat):(n + 1 + 1 = n) = False:=eq_false (by omega)
@[simp] theorem nx3 (n:Nat):(n = n + 1 + 1 + 1) = False:=eq_false (by omega)
@[simp] theorem ny3 (n:Nat):(n + 1 + 1 + 1 = n) = False:=eq_false (by omega)
@[simp] theorem nx4 (n:Nat):(n = n + 1 + 1 + 1 + 1) = False:=eq_false (by omega)
@[simp] theorem ny4 (n:Nat):(n + 1 + 1 + 1 + 1 = n) = False:=eq_false (by omega)
@[simp] theorem nx5 (n:Nat):(n = n + 1 + 1 + 1 + 1 + 1) = False:=eq_false (by omega)
@[simp] theorem ny5 (n:Nat):(n + 1 + 1 + 1 + 1 + 1 = n) = False:=eq_false (by omega)
@[simp] theorem nx6 (n:Nat):(n = n + 1 + 1 + 1 + 1 + 1 + 1) = False:=eq_false (by omega)
@[simp] theorem ny6 (n:Nat):(n + 1 + 1 + 1 + 1 + 1 + 1 = n) = False:=eq_false (by omega)
@[simp] theorem nx7 (n:Nat):(n = n + 1 + 1 + 1 + 1 + 1 + 1 + 1) = False:=eq_false (by omega)
@[simp] theorem ny7 (n:Nat):(n + 1 + 1 + 1 + 1 + 1 + 1 + 1 = n) = False:=eq_false (by omega)
@[simp] theorem nx8 (n:Nat):(n = n + 1 + 1 + 1 + 1 + 1 + 1 + 1 + 1) = False:=eq_false (by omega)
@[simp] theorem ny8 (n:Nat):(n + 1 + 1 + 1 + 1 + 1 + 1 + 1 + 1 = n) = False:=eq_false (by omega)
@[simp] theorem nx9 (n:Nat):(n = n + 1 + 1 + 1 + 1 + 1 + 1 + 1 + 1 + 1) = False:=eq_false (by omega)
@[simp] theorem ny9 (n:Nat):(n + 1 + 1 + 1 + 1 + 1 + 1 + 1 + 1 + 1 = n) = False:=eq_false (by omega)
theorem A0T {b n:Nat} (hb:b < n):(b = n) = False:=eq_false (by omega)
theorem B0r {b n:Nat} (hb:b < n):(b = n + 1) = False:=eq_false (by omega)
theorem F0m {b n:Nat} (hb:b < n):(b = n + 1 + 1) = False:=eq_false (by omega)
def g0M (m:Bool) (h:H) (Q:CR→Prop) (r:CR):Prop:=∃ r',iceR m h r = some r'∧Q r'
theorem N4 {C:Conf} {fs:Nat→Option Bool} (hi:PrimOk (C.ice fs)) {f:Nat} {fn:Func} {c:Code} {m:Bool} (h0:C.prim f = none) (hf:fs f = some m) (h2:C.ext f = none) (h3:C.frz f = false) (h4:C.P.funcs[f]? = some fn) (h5:fn.body = some c) {args:List AV} {h:H} {K:CR→Prop} (h6:args.length ≤ fn.ntmps)
  (hq:J5 (C.ice fs) c (args++List.replicate (fn.ntmps - args.length) .undef) h (u0m (C.ice fs) fn.results.toList (g0M m h K))):∃ r,W (C.ice fs) f args h = some r∧K r:=by
 have key:∃ r,callF C (W (C.ice fs)) (X (C.ice fs)) f args h = some r∧g0M m h K r:=by
  unfold callF
  rw [h0,h2]
  obtain ⟨x,fr',h',e,hx⟩:=hq
  have h3':¬ C.frz f = true:=by rw [h3];simp
  simp only [h4,oqE,oqS,h5,if_neg (Nat.not_lt.2 h6),if_neg h3',e]
  have hR:∀ fr hh rs,K4 (C.ice fs) fr hh rs = K4 C fr hh rs:=fun fr hh rs=>by
   have h1:∀ r,b0z (C.ice fs) fr hh r = b0z C fr hh r:=fun r=>by cases r <;> rfl
   have h2:∀ l,S4 (C.ice fs) fr hh l = S4 C fr hh l:=fun l=>by
    induction l with
    | nil=>rfl
    | cons a l ih=>simp only [S4,h1,ih]
   cases rs with
   | nil=>simp only [K4,h2]
   | cons a l =>
    cases l with
    | nil=>simp only [K4,h1]
    | cons b l=>simp only [K4,h2]
  cases x with
  | normal=>obtain ⟨v,hv,hk⟩:=hx;rw [hR] at hv;exact ⟨_,by simp [hv],hk⟩
  | ret=>obtain ⟨v,hv,hk⟩:=hx;rw [hR] at hv;exact ⟨_,by simp [hv],hk⟩
  | pan v=>exact ⟨_,rfl,hx⟩
  | exit i=>exact hx.elim
 obtain ⟨r,e,r',h7,h8⟩:=key
 exact ⟨r',by rw [F0C hi h0 hf,e];exact h7,h8⟩
theorem p0f {h h1:H} {v:AV} {Q:CR→Prop} (hv:a0J v = true) (hq:Q (.ret v h1)):g0M false h Q (.ret v h1):=⟨_,s0L hv,hq⟩
theorem k0j {h h1:H} {v v':AV} {Q:CR→Prop} (hk:Kept h h1) (hv:u5 false (h1.over h.next) v = some v') (hq:Q (.ret v' h)):g0M true h Q (.ret v h1):=⟨_,f0B hk hv,hq⟩
theorem u0z {h:H} {n:Nat} {l:List AS} (hp:l0 false l = true):l.mapM (p9 false h (n + 1)) = some l:=b0p hp
section
variable {α:Type}
def nz (l:List α):Option (List α):=match l with | []=>none | a::l=>some (a::l)
@[simp] theorem a0d (l:List α):ls (nz l) = l:=by cases l <;> rfl
@[simp] theorem v0f:nz ([]:List α) = none:=rfl
@[simp] theorem z0w (a:α) (l:List α):nz (a::l) = some (a::l):=rfl
theorem f0Z {l:List α} (h:l ≠ []):nz l = some l:=by cases l;exact absurd rfl h;rfl
theorem m0O {h h1:H} {size:Nat} {enc:α→List AS} (he:∀ x,(enc x).length = size) (hp:∀ x,l0 false (enc x) = true) {s:AS} {l:List α} (a:Sl h1 size enc s l) (hb:∀ b,z0 s = some b→h.next ≤ b) (n:Nat) :
  ∃ o,ls o = l∧(l ≠ []→o = some l)∧(s = .nilslc→o = none)∧(s ≠ .nilslc→o = some l)∧p9 false (h1.over h.next) (n + 2) s = some (sl size enc o):=by
 rcases a with ⟨rfl,rfl⟩ | ⟨b,v,z,rfl,a⟩
 ·exact ⟨none,rfl,fun h=>absurd rfl h,fun _=>rfl,fun h=>absurd rfl h,by simp [p9,c5,sl]⟩
 ·refine ⟨some l,rfl,fun _=>rfl,(by simp),fun _=>rfl, ?_⟩
  have hr:=S0 (l:=[]) he a
  simp only [oql,oqc,Nat.zero_mul] at hr
  have hbb:=hb b rfl
  have hr':H4 (h1.over h.next) (.ptr b v 0) (l.length * size) = some (cat enc l):=by
   simp only [H4] at hr ⊢
   rw [show (h1.over h.next).f b = h1.f b by simp only [H.over,if_pos hbb]]
   exact hr
  simp only [p9,hr',oqE,oqS,u0z (c0k (st:=false) l fun x _=>hp x),sl]
theorem n0l {h h1:H} {size:Nat} {enc:α→List AS} (he:∀ x,(enc x).length = size) (hp:∀ x,l0 false (enc x) = true) {s:AS} {l:List α} (a:Sl h1 size enc s l) (hb:∀ b,z0 s = some b→h.next ≤ b) (hs:s = .nilslc ∨ l ≠ []) (hk:Kept h h1) {Q:CR→Prop} (hq:Q (.ret (.one (sl size enc (nz l))) h)):g0M true h Q (.ret (.one s) h1):=by
 obtain ⟨o,ho,h2,h3,h4,h5⟩:=m0O (h:=h) he hp a hb 62
 have hn':o = nz l:=by
  rcases hs with hs | hs
  ·rw [h3 hs];rw [h3 hs] at ho;rw [← ho];rfl
  ·rw [h2 hs,f0Z hs]
 exact k0j hk (v':=.one (sl size enc (nz l))) (by rw [hn'] at h5;simp only [u5,h5,oqE,oqS]) hq
end
end Go.Ab
namespace Go.Ab
section
variable {α:Type}
theorem a0E {l:List α} {i:Nat} (hi:i ≤ l.length) (x:α):l.insertIdx i x = l.take i++x::l.drop i:=by
 induction l generalizing i with
 | nil=>simp at hi;subst hi;rfl
 | cons a l ih =>
  cases i with
  | zero=>rfl
  | succ i=>simp at hi;simp [ih hi]
theorem p0a {h:H} {size n:Nat} {cells:List AS} (hl:cells.length = n * size):B8 h size n (.vs n size cells) = some cells:=by
 simp only [B8,oqg,and_self,if_true,sub]
 rw [if_pos (by omega)]
 simp [← hl]
theorem i0Y {P:Program} {t el size bytes:Nat} (ht:P.underlying t = some (.slice el)) (h1:P1 P t = some el) (h2:A0 P el = some size) (h3:A6 P el = some bytes) (h0:0 < size) {enc:α→List AS} (he:∀ x,(enc x).length = size)
  {h:H} {s:AS} {l:List α} (w:Sl h size enc s l) (i:Nat) (hi:i ≤ l.length) (x:α) {bv:Nat} (hv:h.f bv = some ⟨0,[size],true,enc x⟩) (hne:z0 s ≠ some bv) (hlim:(l.length + 602) * bytes + (l.length + 2) ≤ J6) (hl2:l.length ≤ 17592186044416) :
  ∃ s' h',q0D ⟨size,bytes⟩ [.one s,.one (.int .i64 i),.one (.slc bv 0 0 1 size none)] h = some (.ret (.one s') h')∧(∃ b v z,s' = .slc b v 0 (l.insertIdx i x).length size none∧Arr h' enc b v (l.insertIdx i x) z)∧h.next ≤ h'.next∧(∀ b,b < h.next→z0 s ≠ some b→h'.f b = h.f b)∧(∀ b,z0 s' = some b→z0 s = some b ∨ h.next ≤ b):=by
 have hev:B8 h size 1 (.slc bv 0 0 1 size none) = some (enc x):=by
  simp only [B8,oqg,and_self,if_true,Nat.one_mul,H4,hv,oqE,oqS,Blk.ext,Nat.sub_zero,List.getElem?_cons_zero,Nat.zero_add]
  unfold sub
  rw [if_pos (by rw [he];omega)]
  simp only [List.drop_zero,oqI]
  exact List.take_of_length_le (by rw [he];omega)
 have hx1:cat enc [x] = enc x:=by simp [cat]
 by_cases hil:i = l.length
 ·subst hil
  have hins:l.insertIdx l.length x = l++[x]:=by rw [a0E (oqg _)];simp
  rw [hins]
  have hb1:(l.length + 1 + 600) * bytes ≤ (l.length + 602) * bytes:=Nat.mul_le_mul_right _ (by omega)
  obtain ⟨s',h',e,q1,q2,q3,q4⟩:=N9 (P:=P) ht h1 h2 h3 h0 he (a:=.slc bv 0 0 1 size none) (m:=[x]) w rfl (by rw [hx1];exact hev) (by simp) (by simp only [oqb,oqc,Nat.zero_add];omega)
  rw [V9 (x:=.slc bv 0 0 1 size none) h1 h2 h3 ht rfl hev] at e
  refine ⟨s',h', ?_,q1,q2,q3,q4⟩
  rcases w with ⟨rfl,rfl⟩ | ⟨b,v,z,rfl,w⟩
  ·simp only [q0D,hev,oqS]
   simp [o0k,e]
  ·simp only [q0D,hev,oqS]
   simp [o0k,e]
 ·have hlt:i < l.length:=by omega
  rcases w with ⟨rfl,rfl⟩ | ⟨b,v,z,rfl,w⟩
  ·simp at hlt
  have hbv:¬ bv = b:=fun e=>hne (by rw [e];rfl)
  have hll:(l.drop i).length = l.length - i:=by simp
  have hw:Arr h enc b v (l.take i++l.drop i) z:=by rw [List.take_append_drop];exact w
  have hrest:H4 h (.ptr b v (0 + i * size)) ((l.length - i) * size) = some (cat enc (l.drop i)):=by
   have:=S0 he hw
   rw [oqo,Nat.min_eq_left (by omega),hll] at this
   rw [Nat.zero_add];exact this
  have hcut:=f0F hw
  have hm:cat enc (x::l.drop i) = enc x++cat enc (l.drop i):=U6 ..
  have hlm:(cat enc (x::l.drop i)).length = (x::l.drop i).length * size:=z7 he _
  have htk:(l.take i).length = i:=by simp;omega
  have hll2:(x::l.drop i).length = 1 + (l.length - i):=by simp;omega
  have hb1:(i + (1 + (l.length - i)) + 600) * bytes ≤ (l.length + 602) * bytes:=Nat.mul_le_mul_right _ (by omega)
  obtain ⟨s',h',e,q1,q2,q3,q4⟩:=N9 (P:=P) ht h1 h2 h3 h0 he (s:=.slc b v 0 (l.take i).length size none) (a:=.vs (x::l.drop i).length size (cat enc (x::l.drop i))) (l:=l.take i) (m:=x::l.drop i) (.inr ⟨b,v,_,rfl,hcut⟩) rfl (p0a hlm) (by simp) (by rw [htk,hll2];omega)
  rw [V9 (x:=.vs (x::l.drop i).length size (cat enc (x::l.drop i))) h1 h2 h3 ht rfl (p0a hlm),htk,hll2,hm] at e
  rw [a0E hi]
  refine ⟨s',h', ?_,q1,q2,fun b' hb' hx=>q3 b' hb' hx,q4⟩
  have hi2:¬ ((i:Int) = (l.length:Int)):=by omega
  simp only [q0D,hev,oqS,if_neg hi2,hv]
  rw [if_pos ⟨by omega,by omega,hbv,trivial,trivial,h0,hl2⟩]
  simp only [Int.toNat_natCast,hrest,oqS,e,o0k,Option.map_some]
end
end Go.Ab
namespace Go.Ab
theorem c0J {α:Type} {size:Nat} {enc:α→List AS} (he:∀ x,(enc x).length = size) (l:List α) {i:Nat} (hi:i < l.length):((cat enc l).drop (i * size)).take size = enc l[i]:=by
 have h2:(cat enc (l.take i)).length = i * size:=by rw [z7 he,oqo,Nat.min_eq_left (by omega)]
 have h3:cat enc l = cat enc (l.take i)++(enc l[i]++cat enc (l.drop (i + 1))):=by
  conv=>lhs;rw [b0Y hi,a0m,U6]
 rw [h3,← h2,List.drop_left,← he l[i],List.take_left]
end Go.Ab
namespace Go.Ab
theorem C0a {α:Type} {s:Nat} {enc:α→List AS} (he:∀ x,(enc x).length = s) (l:List α) {i:Nat} (hi:i < l.length) {o n:Nat} (ho:o + n ≤ s):sub (cat enc l) (i * s + o) n = sub (enc l[i]) o n:=by
 have:=F3 he (l.take i) l[i] (l.drop (i + 1)) (o:=o) (n:=n) ho
 rw [oqo,Nat.min_eq_left (by omega)] at this
 have e:l.take i++l[i]::l.drop (i + 1) = l:=(b0Y hi).symm
 rw [e] at this;exact this
end Go.Ab
namespace Go.Ab
theorem j0h {α:Type} {size:Nat} {enc:α→List AS} (he:∀ x,(enc x).length = size) {h:H} {b v:Nat} {l:List α} {z:List AS} (a:Arr h enc b v l z) {i e:Nat} (hi:i ≤ e) (hu:e ≤ l.length):H4 h (.ptr b v (i * size)) ((e - i) * size) = some (cat enc ((l.take e).drop i)):=by
 have h1:l = ((l.take e).take i++(l.take e).drop i)++l.drop e:=by rw [List.take_append_drop,List.take_append_drop]
 rw [h1] at a
 have:=S0 he (f0F a)
 rw [oqo,oqo,Nat.min_eq_left (by omega:e ≤ l.length),Nat.min_eq_left hi,List.length_drop,oqo,Nat.min_eq_left hu] at this
 exact this
end Go.Ab
namespace Wm
open Go Go.Ab
structure Value where
 kind:Int
 b:Option BL
 n:Nat
structure Version where
 time:Int
 v:Value
structure Column where
 name:BL
 l:Option (List Version)
abbrev Row:=Option (List Column)
structure Change where
 kind:Int
 col:BL
 time:Int
 v:Value
structure Cond where
 has:Bool
 want:Bool
 col:BL
 v:Value
structure Op where
 kind:Int
 row:BL
 hi:BL
 cond:Cond
 l:Option (List Change)
 most:Int
structure Named where
 name:BL
 r:Row
structure Span where
 lo:BL
 hi:BL
 deriving DecidableEq
structure Tablet where
 span:Span
 group:Int
 gen:Int
 deriving DecidableEq
structure Command where
 kind:Int
 op:Op
 span:Span
 gen:Int
 at_:BL
 to:Int
 do_:Int
 state:Option BL
structure Answer where
 code:Int
 rows:Option (List Named)
 span:Span
 group:Int
 gen:Int
 old:Int
 to:Int
 do_:Int
 at_:BL
 state:Option BL
structure Vote where
 slot:Int
 ballot:Int
 v:Option BL
structure Message where
 kind:Int
 group:Int
 frm:Int
 to:Int
 ballot:Int
 slot:Int
 client:Int
 seq:Int
 b:Option BL
 l:Option (List Vote)
structure Event where
 kind:Int
 group:Int
 slot:Int
 client:Int
 seq:Int
 b:Option BL
 a:Option BL
structure Item where
 kind:Int
 group:Int
 n:Int
 client:Int
 bytes:Option BL
structure Config where
 groups:Int
 n:Int
 clients:Int
structure KV where
 text:Bool
 n:Int
 x:Nat
 b:Option BL
structure KC where
 kind:Int
 col:Int
 time:Int
 v:KV
structure KO where
 kind:Int
 row:Int
 hi:Int
 most:Int
 col:Int
 has:Bool
 want:Bool
 v:KV
 l:Option (List KC)
structure KP where
 do_:Int
 at_:Int
 to:Int
abbrev ii (n:Int):AS:=.int .i64 n
def V3 (v:Value):List AS:=[ii v.kind,bs v.b,.flt v.n]
def c9 (v:Version):List AS:=[ii v.time,ii v.v.kind,bs v.v.b,.flt v.v.n]
def j9 (c:Column):List AS:=[.str c.name,sl 4 c9 c.l]
def D6 (r:Row):List AS:=[sl 2 j9 r]
def l7 (c:Change):List AS:=[ii c.kind,.str c.col,ii c.time,ii c.v.kind,bs c.v.b,.flt c.v.n]
def k0x (o:Op):List AS:=[ii o.kind,.str o.row,.str o.hi,.bool o.cond.has,.bool o.cond.want,.str o.cond.col,ii o.cond.v.kind,bs o.cond.v.b,.flt o.cond.v.n,sl 6 l7 o.l,ii o.most]
def c8 (n:Named):List AS:=[.str n.name,sl 2 j9 n.r]
def H7 (s:Span):List AS:=[.str s.lo,.str s.hi]
def M7 (t:Tablet):List AS:=[.str t.span.lo,.str t.span.hi,ii t.group,ii t.gen]
def l8 (a:Answer):List AS:=[ii a.code,sl 2 c8 a.rows,.str a.span.lo,.str a.span.hi,ii a.group,ii a.gen,ii a.old,ii a.to,ii a.do_,.str a.at_,bs a.state]
def j0b (v:Vote):List AS:=[ii v.slot,ii v.ballot,bs v.v]
def g0d (m:Message):List AS:=[ii m.kind,ii m.group,ii m.frm,ii m.to,ii m.ballot,ii m.slot,ii m.client,ii m.seq,bs m.b,sl 3 j0b m.l]
def n0t (i:Item):List AS:=[ii i.kind,ii i.group,ii i.n,ii i.client,bs i.bytes]
def d0z (c:KC):List AS:=[ii c.kind,ii c.col,ii c.time,.bool c.v.text,ii c.v.n,.flt c.v.x,bs c.v.b]
def a0N (o:KO):List AS:=[ii o.kind,ii o.row,ii o.hi,ii o.most,ii o.col,.bool o.has,.bool o.want,.bool o.v.text,ii o.v.n,.flt o.v.x,bs o.v.b,sl 7 d0z o.l]
theorem C3 (v:Version):(c9 v).length = 4:=rfl
theorem N6 (v:Column):(j9 v).length = 2:=rfl
theorem Z8 (v:Change):(l7 v).length = 6:=rfl
theorem z9 (v:Named):(c8 v).length = 2:=rfl
theorem a0y (v:Span):(H7 v).length = 2:=rfl
theorem l0a (v:Tablet):(M7 v).length = 4:=rfl
theorem w0h (v:KC):(d0z v).length = 7:=rfl
@[simp] theorem n0m (v:Version):l0 false (c9 v) = true:=by simp [c9,l0,c5]
@[simp] theorem x0I (o:Option (List Version)):c5 false (sl 4 c9 o) = true:=Y5 n0m o
@[simp] theorem o0f (v:Column):l0 false (j9 v) = true:=by simp [j9,l0,c5]
@[simp] theorem h0e (o:Option (List Column)):c5 false (sl 2 j9 o) = true:=Y5 o0f o
@[simp] theorem i0y (v:Change):l0 false (l7 v) = true:=by simp [l7,l0,c5]
@[simp] theorem y0A (o:Option (List Change)):c5 false (sl 6 l7 o) = true:=Y5 i0y o
@[simp] theorem b0X (v:Named):l0 false (c8 v) = true:=by simp [c8,l0,c5]
@[simp] theorem a0f (o:Option (List Named)):c5 false (sl 2 c8 o) = true:=Y5 b0X o
@[simp] theorem s0Z (v:Span):l0 false (H7 v) = true:=by simp [H7,l0,c5]
@[simp] theorem C0J (o:Option (List Span)):c5 false (sl 2 H7 o) = true:=Y5 s0Z o
@[simp] theorem i0r (v:Tablet):l0 false (M7 v) = true:=by simp [M7,l0,c5]
@[simp] theorem y0f (o:Option (List Tablet)):c5 false (sl 4 M7 o) = true:=Y5 i0r o
@[simp] theorem s0D (v:Vote):l0 false (j0b v) = true:=by simp [j0b,l0,c5]
@[simp] theorem B0V (o:Option (List Vote)):c5 false (sl 3 j0b o) = true:=Y5 s0D o
@[simp] theorem n0x (v:Message):l0 false (g0d v) = true:=by simp [g0d,l0,c5]
@[simp] theorem x0H (o:Option (List Message)):c5 false (sl 10 g0d o) = true:=Y5 n0x o
@[simp] theorem t0V (v:Item):l0 false (n0t v) = true:=by simp [n0t,l0,c5]
@[simp] theorem C0i (o:Option (List Item)):c5 false (sl 5 n0t o) = true:=Y5 t0V o
@[simp] theorem y0C (v:KC):l0 false (d0z v) = true:=by simp [d0z,l0,c5]
@[simp] theorem G0f (o:Option (List KC)):c5 false (sl 7 d0z o) = true:=Y5 y0C o
end Wm
namespace Go.Ab
open Wm
abbrev RC:=BL × AS
abbrev a0P (r:RC):List AS:=[.str r.1,r.2]
theorem c0R (r:RC):(a0P r).length = 2:=rfl
theorem d0g {st:Bool} (v:Version):l0 false (c9 v) = true:=by simp [c9,l0,c5]
theorem c0K (t:Version):∀ a ∈ c9 t,(∀ f y c,a ≠ .fn f y c)∧∀ t v,a ≠ .ifc t v:=by
 intro a ha
 simp only [c9,oqf,List.not_mem_nil,or_false] at ha
 rcases ha with rfl | rfl | rfl | rfl
 ·simp
 ·simp
 ·cases t.v.b <;> simp [bs,sl]
 ·simp
def Z6 (rs:List RC):List Nat:=rs.filterMap fun r=>z0 r.2
@[simp] theorem F0O:Z6 [] = []:=rfl
theorem g0H (a b:List RC):Z6 (a++b) = Z6 a++Z6 b:=by simp [Z6]
def ColAt (h:H) (lo:Nat) (r:RC) (c:Column):Prop:=r.1 = c.name∧Sl h 4 c9 r.2 (ls c.l)∧(r.2 = .nilslc ↔ c.l = none)∧∀ b,z0 r.2 = some b→lo ≤ b∧b < h.next
theorem ColAt.keep {h h':H} {lo:Nat} {r:RC} {c:Column} (a:ColAt h lo r c) (hn:h.next ≤ h'.next) (hf:∀ b,z0 r.2 = some b→h'.f b = h.f b):ColAt h' lo r c :=
 ⟨a.1,a.2.1.keep hn hf,a.2.2.1,fun b hb=>⟨(a.2.2.2 b hb).1,by have:=(a.2.2.2 b hb).2;omega⟩⟩
def NestL (h:H) (lo:Nat):List RC→List Column→Prop
 | [],[]=>True
 | r::rs,c::cs=>ColAt h lo r c∧NestL h lo rs cs
 | _,_=>False
theorem NestL.len {h:H} {lo:Nat}:∀ {rs:List RC} {cs:List Column},NestL h lo rs cs→rs.length = cs.length
 | [],[],_=>rfl
 | r::rs,c::cs,a=>by simp [NestL.len a.2]
theorem h0d {r:RC} {rs:List RC} {b:Nat} (hr:r ∈ rs) (hb:z0 r.2 = some b):b ∈ Z6 rs:=List.mem_filterMap.2 ⟨r,hr,hb⟩
theorem NestL.keep {h h':H} {lo:Nat} (hn:h.next ≤ h'.next):∀ {rs:List RC} {cs:List Column},NestL h lo rs cs→(∀ b ∈ Z6 rs,h'.f b = h.f b)→NestL h' lo rs cs
 | [],[],_,_=>trivial
 | r::rs,c::cs,a,hf=>⟨a.1.keep hn fun b hb=>hf b (h0d (by simp) hb),a.2.keep hn fun b hb=>hf b (by
   obtain ⟨x,hx,e⟩:=List.mem_filterMap.1 hb
   exact h0d (List.mem_cons_of_mem _ hx) e)⟩
theorem NestL.app {h:H} {lo:Nat}:∀ {a:List RC} {x:List Column} {b:List RC} {y:List Column},NestL h lo a x→NestL h lo b y→NestL h lo (a++b) (x++y)
 | [],[],_,_,_,q=>q
 | r::a,c::x,b,y,p,q=>⟨p.1,NestL.app p.2 q⟩
theorem NestL.split {h:H} {lo:Nat}:∀ {a b:List RC} {cs:List Column},NestL h lo (a++b) cs→NestL h lo a (cs.take a.length)∧NestL h lo b (cs.drop a.length)
 | [],b,cs,p=>⟨by simp [NestL],by simpa using p⟩
 | r::a,b,[],p=>p.elim
 | r::a,b,c::cs,p=>by
  obtain ⟨q1,q2⟩:=NestL.split (a:=a) p.2
  exact ⟨⟨p.1,q1⟩,q2⟩
theorem NestL.lt {h:H} {lo:Nat}:∀ {rs:List RC} {cs:List Column},NestL h lo rs cs→∀ b ∈ Z6 rs,lo ≤ b∧b < h.next
 | [],[],_,b,hb=>by simp at hb
 | r::rs,c::cs,a,b,hb=>by
  obtain ⟨x,hx,e⟩:=List.mem_filterMap.1 hb
  rcases oqf.1 hx with rfl | hx
  ·exact a.1.2.2.2 b e
  ·exact NestL.lt a.2 b (h0d hx e)
theorem NestL.at {h:H} {lo:Nat} {rs:List RC} {cs:List Column} (a:NestL h lo rs cs) (i:Nat) (hi:i < rs.length):ColAt h lo rs[i] (cs[i]'(a.len ▸ hi)):=by
 induction rs generalizing cs i with
 | nil=>simp at hi
 | cons r rs ih =>
  cases cs with
  | nil=>exact a.elim
  | cons c cs =>
   cases i with
   | zero=>exact a.1
   | succ i=>exact ih a.2 i (by simpa using hi)
theorem y0w {h h1:H} {lo:Nat} (hlo:h.next ≤ lo) {r:RC} {c:Column} (a:ColAt h1 lo r c) (n:Nat):(a0P r).mapM (p9 false (h1.over h.next) (n + 2)) = some (j9 c):=by
 obtain ⟨o,ho,h2,h3,h4,h5⟩:=m0O (h:=h) C3 (fun v=>d0g (st:=false) v) a.2.1 (fun b hb=>Nat.le_trans hlo (a.2.2.2 b hb).1) n
 have ho':o = c.l:=by
  by_cases hs:r.2 = .nilslc
  ·rw [h3 hs,a.2.2.1.1 hs]
  ·rw [h4 hs]
   cases hc:c.l with
   | none=>exact absurd (a.2.2.1.2 hc) hs
   | some l=>rfl
 have hx:∀ s,p9 false (h1.over h.next) (n + 2) (.str s) = some (.str s):=fun s=>by simp [p9,c5]
 simp only [a0P,List.mapM_cons,List.mapM_nil,hx,h5,ho',oqE,oqS,oqP,j9,a.1]
theorem u0L {h:H} {lo:Nat} {r:RC} {c:Column} (a:ColAt h lo r c) (n:Nat):(a0P r).mapM (J8 h (n + 2)) = some (j9 c):=by
 have hv:J8 h (n + 2) r.2 = some (sl 4 c9 c.l):=by
  rcases a.2.1 with ⟨e1,e2⟩ | ⟨b,v,z,e1,ar⟩
  ·rw [e1,a.2.2.1.1 e1];rfl
  ·cases hc:c.l with
   | none=>rw [a.2.2.1.2 hc] at e1;cases e1
   | some l =>
    rw [hc,H1] at e1 ar
    have hr:=S0 (l:=[]) C3 ar
    simp only [oql,oqc,Nat.zero_mul] at hr
    have h2:l0 false (cat c9 l) = true:=c0k _ fun x _=>d0g (st:=false) x
    have h3:∀ a ∈ cat c9 l,(∀ f x c,a ≠ .fn f x c)∧∀ t v,a ≠ .ifc t v:=by
     intro a ha
     obtain ⟨t,_,ht⟩:=List.mem_flatMap.1 ha
     exact c0K t a ht
    simp only [e1,J8,hr,oqE,oqS,d0x h2 h3,sl]
 have hx:∀ s,J8 h (n + 2) (.str s) = some (.str s):=fun s=>by simp [J8,c5]
 simp only [a0P,List.mapM_cons,List.mapM_nil,hx,hv,oqE,oqS,oqP,j9,a.1]
theorem j0Z {f:AS→Option AS}:∀ {a b x y:List AS},a.mapM f = some x→b.mapM f = some y→(a++b).mapM f = some (x++y)
 | [],b,x,y,h1,h2=>by simp at h1;subst h1;simpa using h2
 | c::a,b,x,y,h1,h2=>by
  simp only [List.mapM_cons,oqE,oqB,oqP,oqI] at h1
  obtain ⟨c',e1,a',e2,rfl⟩:=h1
  simp only [oqm,List.mapM_cons,e1,j0Z e2 h2,oqE,oqS,oqP]
theorem o0O {h h1:H} {lo:Nat} (hlo:h.next ≤ lo) (n:Nat):∀ {rs:List RC} {cs:List Column},NestL h1 lo rs cs→(cat a0P rs).mapM (p9 false (h1.over h.next) (n + 2)) = some (cat j9 cs)
 | [],[],_=>rfl
 | r::rs,c::cs,a=>by rw [U6,U6];exact j0Z (y0w hlo a.1 n) (o0O hlo n a.2)
theorem m0b {h:H} {lo:Nat} (n:Nat):∀ {rs:List RC} {cs:List Column},NestL h lo rs cs→(cat a0P rs).mapM (J8 h (n + 2)) = some (cat j9 cs)
 | [],[],_=>rfl
 | r::rs,c::cs,a=>by rw [U6,U6];exact j0Z (u0L a.1 n) (m0b n a.2)
structure RowAt (h:H) (lo:Nat) (s:AS) (rs:List RC) (o:Row):Prop where
 arr:Sl h 2 a0P s rs
 nil:s = .nilslc ↔ o = none
 own:∀ b,z0 s = some b→lo ≤ b∧b ∉ Z6 rs
 col:NestL h lo rs (ls o)
 dis:(Z6 rs).Nodup
theorem RowAt.frz {h h1:H} {lo:Nat} (hlo:h.next ≤ lo) {s:AS} {rs:List RC} {o:Row} (a:RowAt h1 lo s rs o) (n:Nat):p9 false (h1.over h.next) (n + 3) s = some (sl 2 j9 o):=by
 have hl:=a.col.len
 rcases a.arr with ⟨e1,e2⟩ | ⟨b,v,z,e1,ar⟩
 ·rw [e1,a.nil.1 e1];simp [p9,c5,sl]
 ·cases o with
  | none=>rw [a.nil.2 rfl] at e1;cases e1
  | some cs =>
   have hr:=S0 (l:=[]) c0R ar
   simp only [oql,oqc,Nat.zero_mul] at hr
   have hbb:=Nat.le_trans hlo (a.own b (by rw [e1];rfl)).1
   have hr':H4 (h1.over h.next) (.ptr b v 0) (rs.length * 2) = some (cat a0P rs):=by
    simp only [H4] at hr ⊢
    rw [show (h1.over h.next).f b = h1.f b by simp only [H.over,if_pos hbb]]
    exact hr
   simp only [e1,p9,hr',oqE,oqS,o0O hlo n a.col,sl]
   rw [hl];rfl
theorem RowAt.view {h:H} {lo:Nat} {s:AS} {rs:List RC} {o:Row} (a:RowAt h lo s rs o) (n:Nat):J8 h (n + 3) s = some (sl 2 j9 o):=by
 have hl:=a.col.len
 rcases a.arr with ⟨e1,e2⟩ | ⟨b,v,z,e1,ar⟩
 ·rw [e1,a.nil.1 e1];rfl
 ·cases o with
  | none=>rw [a.nil.2 rfl] at e1;cases e1
  | some cs =>
   have hr:=S0 (l:=[]) c0R ar
   simp only [oql,oqc,Nat.zero_mul] at hr
   simp only [e1,J8,hr,oqE,oqS,m0b n a.col,sl]
   rw [hl];rfl
theorem RowAt.keep {h h':H} {lo:Nat} {s:AS} {rs:List RC} {o:Row} (a:RowAt h lo s rs o) (hn:h.next ≤ h'.next) (hf:∀ b,b < h.next→z0 s = some b ∨ b ∈ Z6 rs→h'.f b = h.f b):RowAt h' lo s rs o :=
 ⟨a.arr.keep hn fun b hb=>hf b (a.arr.lt hb) (.inl hb),a.nil,a.own,a.col.keep hn fun b hb=>hf b (a.col.lt b hb).2 (.inr hb),a.dis⟩
theorem RowAt.new {h:H} {lo:Nat} {s:AS} {rs:List RC} {o:Row} (a:RowAt h lo s rs o) (k:Blk):RowAt (h.new k) lo s rs o:=a.keep (by simp) fun b hb _=>by rw [K9,if_neg (by omega)]
theorem RowAt.push {P:Program} {t el bytes:Nat} (ht:P.underlying t = some (.slice el)) (h1:P1 P t = some el) (h2:A0 P el = some 2) (h3:A6 P el = some bytes) {h g:H} {lo:Nat} {s:AS} {rs:List RC} {o:Row} (a:RowAt h lo s rs o) (hlo:lo ≤ h.next) (hn:h.next ≤ g.next) (hf:∀ b,b < h.next→z0 s = some b ∨ b ∈ Z6 rs→g.f b = h.f b)
  {n:BL} {s2:AS} {c:Column} (cc:ColAt g h.next (n,s2) c) (hlim:(rs.length + 601) * bytes + (rs.length + 1) ≤ J6) :
  ∃ s4 h4,S5 P t t (g.new ⟨0,[2],true,[.str n,s2]⟩) s (.slc g.next 0 0 1 2 none) = some (s4,h4)∧RowAt h4 lo s4 (rs++[(n,s2)]) (some (ls o++[c]))∧g.next < h4.next∧(∀ b,b ≤ g.next→z0 s ≠ some b→h4.f b = (g.new ⟨0,[2],true,[.str n,s2]⟩).f b)∧(∀ b,z0 s4 = some b→z0 s = some b ∨ g.next < b):=by
 have a0:=a.keep hn hf
 have a1:=a0.new ⟨0,[2],true,[.str n,s2]⟩
 have hc1:cat a0P [(n,s2)] = [.str n,s2]:=rfl
 obtain ⟨s4,h4,e,⟨b4,v4,z4,rfl,ar⟩,q2,q3,q4⟩:=N9 (P:=P) ht h1 h2 h3 (by omega) c0R (a:=.slc g.next 0 0 1 2 none) (m:=[(n,s2)]) a1.arr rfl (by simp [B8,hc1]) (by simp) (by simp only [oqb,oqc,Nat.zero_add];omega)
 simp only [A1] at q2 q3 q4
 have hlt:=a.col.lt
 refine ⟨_,h4,e,⟨.inr ⟨b4,v4,z4,rfl,ar⟩,by simp,fun b hb=>?_, ?_, ?_⟩,by omega,fun b hb hx=>q3 b (by omega) hx,fun b hb=>by
  rcases q4 b hb with h | h
  ·exact .inl h
  ·exact .inr (by omega)⟩
 ·rw [g0H]
  have hs2:∀ x ∈ Z6 [(n,s2)],h.next ≤ x∧x < g.next:=by
   intro x hx
   obtain ⟨r,hr,e⟩:=List.mem_filterMap.1 hx
   rw [List.mem_singleton.1 hr] at e
   exact cc.2.2.2 x e
  rcases q4 b hb with h | h
  ·have h6:=a.own b h
   have h7:=a.arr.lt h
   refine ⟨h6.1,fun hm=>?_⟩
   rcases oqe.1 hm with hm | hm
   ·exact h6.2 hm
   ·have:=(hs2 b hm).1;omega
  ·refine ⟨by omega,fun hm=>?_⟩
   rcases oqe.1 hm with hm | hm
   ·have:=(hlt b hm).2;omega
   ·have:=(hs2 b hm).2;omega
 ·refine NestL.app (a1.col.keep (by simpa using (by omega:g.next + 1 ≤ h4.next)) fun b hb=>?_) ⟨?_,trivial⟩
  ·have h8:=(a0.col.lt b hb).2
   refine q3 b (by omega) fun e=>(a.own b e).2 hb
  ·have c1:ColAt (g.new ⟨0,[2],true,[.str n,s2]⟩) h.next (n,s2) c:=cc.keep (by simp) fun b hb=>by
    have:=(cc.2.2.2 b hb).2
    rw [K9,if_neg (by omega)]
   have c2:ColAt h4 h.next (n,s2) c:=c1.keep (by simpa using (by omega:g.next + 1 ≤ h4.next)) fun b hb=>by
    have h8:=cc.2.2.2 b hb
    refine q3 b (by omega) fun e=>?_
    have:=a.arr.lt e;omega
   exact ⟨c2.1,c2.2.1,c2.2.2.1,fun b hb=>⟨by have:=(c2.2.2.2 b hb).1;omega,(c2.2.2.2 b hb).2⟩⟩
 ·rw [g0H]
  refine List.nodup_append.2 ⟨a.dis, ?_,fun x hx y hy e=>?_⟩
  ·unfold Z6
   cases hs:z0 s2 <;> simp [hs]
  ·obtain ⟨r,hr,e2⟩:=List.mem_filterMap.1 hy
   rw [List.mem_singleton.1 hr] at e2
   have:=(cc.2.2.2 y e2).1
   have:=(hlt x hx).2
   omega
theorem NestL.weaken {h:H} {lo lo':Nat} (hl:lo' ≤ lo):∀ {rs:List RC} {cs:List Column},NestL h lo rs cs→NestL h lo' rs cs
 | [],[],_=>trivial
 | r::rs,c::cs,a=>⟨⟨a.1.1,a.1.2.1,a.1.2.2.1,fun b hb=>⟨by have:=(a.1.2.2.2 b hb).1;omega,(a.1.2.2.2 b hb).2⟩⟩,a.2.weaken hl⟩
theorem RowAt.weaken {h:H} {lo lo':Nat} {s:AS} {rs:List RC} {o:Row} (a:RowAt h lo s rs o) (hl:lo' ≤ lo):RowAt h lo' s rs o :=
 ⟨a.arr,a.nil,fun b hb=>⟨by have:=(a.own b hb).1;omega,(a.own b hb).2⟩,a.col.weaken hl,a.dis⟩
theorem p0h {M:List AS} {o:Nat} {x y s5:AS} (hs:sub M o 2 = some [x,y]):lay M (o + 1) [s5] = lay M o [x,s5]:=by
 unfold sub at hs
 split at hs
 ·rename_i hle
  simp only [oqI] at hs
  have h1:M.drop o = x::M.drop (o + 1):=by
   have:M.drop o = M[o]::M.drop (o + 1):=List.drop_eq_getElem_cons (by omega)
   rw [this] at hs ⊢
   simp only [List.take_succ_cons,List.cons.injEq] at hs
   rw [hs.1]
  have h2:M.take (o + 1) = M.take o++[x]:=by
   rw [List.take_add,h1];simp
  unfold lay
  rw [h2]
  simp only [oqb,oqc,oqh,List.singleton_append,oqm,oql,Nat.zero_add,Nat.add_assoc]
 ·cases hs
theorem NestL.set {h:H} {lo:Nat}:∀ {rs:List RC} {cs:List Column} {i:Nat} {r:RC} {c:Column},NestL h lo rs cs→ColAt h lo r c→NestL h lo (rs.set i r) (cs.set i c)
 | [],[],_,_,_,_,_=>trivial
 | _::_,_::_,0,_,_,a,cc=>⟨cc,a.2⟩
 | _::_,_::_,i + 1,_,_,a,cc=>⟨a.1,NestL.set a.2 cc⟩
theorem d0q {rs:List RC} {b:Nat} (h:b ∈ Z6 rs):∃ i,∃ hi:i < rs.length,z0 rs[i].2 = some b:=by
 obtain ⟨r,hr,e⟩:=List.mem_filterMap.1 h
 obtain ⟨i,hi,e2⟩:=List.getElem_of_mem hr
 exact ⟨i,hi,by rw [e2];exact e⟩
theorem o0N {rs:List RC} {i:Nat} (hi:i < rs.length) {r:RC} {b:Nat} (h:b ∈ Z6 (rs.set i r)):z0 r.2 = some b ∨ ∃ j,∃ hj:j < rs.length,j ≠ i∧z0 rs[j].2 = some b:=by
 obtain ⟨j,hj,e⟩:=d0q h
 rw [List.length_set] at hj
 rw [List.getElem_set] at e
 split at e
 ·exact .inl e
 ·exact .inr ⟨j,hj,by omega,e⟩
theorem b0G {rs:List RC} {i:Nat} (hi:i < rs.length) {b:Nat} (h:z0 rs[i].2 = some b):b ∈ Z6 rs:=h0d (List.getElem_mem hi) h
theorem g0m {rs:List RC} (hd:(Z6 rs).Nodup) {i j:Nat} (hi:i < rs.length) (hj:j < rs.length) {b:Nat} (h1:z0 rs[i].2 = some b) (h2:z0 rs[j].2 = some b):i = j:=by
 induction rs generalizing i j with
 | nil=>simp at hi
 | cons r rs ih =>
  have hd':(Z6 rs).Nodup:=by
   unfold Z6 at hd ⊢
   cases hr:z0 r.2 with
   | none=>simpa [hr] using hd
   | some x=>simp only [List.filterMap_cons,hr] at hd;exact (List.nodup_cons.1 hd).2
  cases i with
  | zero =>
   cases j with
   | zero=>rfl
   | succ j =>
    simp only [List.getElem_cons_zero] at h1
    simp only [List.getElem_cons_succ] at h2
    unfold Z6 at hd
    simp only [List.filterMap_cons,h1] at hd
    exact absurd (b0G (by simpa using hj) h2) (List.nodup_cons.1 hd).1
  | succ i =>
   cases j with
   | zero =>
    simp only [List.getElem_cons_zero] at h2
    simp only [List.getElem_cons_succ] at h1
    unfold Z6 at hd
    simp only [List.filterMap_cons,h2] at hd
    exact absurd (b0G (by simpa using hi) h1) (List.nodup_cons.1 hd).1
   | succ j =>
    simp only [List.getElem_cons_succ] at h1 h2
    rw [ih hd' (by simpa using hi) (by simpa using hj) h1 h2]
theorem l0c {rs:List RC} (hd:(Z6 rs).Nodup) {i:Nat} (hi:i < rs.length) {r:RC} (hr:∀ b,z0 r.2 = some b→∀ j,∀ hj:j < rs.length,j ≠ i→z0 rs[j].2 ≠ some b):(Z6 (rs.set i r)).Nodup:=by
 induction rs generalizing i with
 | nil=>simp at hi
 | cons q rs ih =>
  have hd':(Z6 rs).Nodup:=by
   unfold Z6 at hd ⊢
   cases hq:z0 q.2 with
   | none=>simpa [hq] using hd
   | some x=>simp only [List.filterMap_cons,hq] at hd;exact (List.nodup_cons.1 hd).2
  cases i with
  | zero =>
   simp only [List.set_cons_zero]
   unfold Z6
   cases hb:z0 r.2 with
   | none=>simp only [List.filterMap_cons,hb];exact hd'
   | some b =>
    simp only [List.filterMap_cons,hb]
    refine List.nodup_cons.2 ⟨fun hm=>?_,hd'⟩
    obtain ⟨j,hj,e⟩:=d0q hm
    exact hr b hb (j + 1) (by simpa using hj) (by omega) (by simpa using e)
  | succ i =>
   simp only [List.set_cons_succ]
   have hrec:=ih hd' (by simpa using hi) (fun b hb j hj hne=>by
    have:=hr b hb (j + 1) (by simpa using hj) (by omega)
    simpa using this)
   unfold Z6
   cases hq:z0 q.2 with
   | none=>simp only [List.filterMap_cons,hq];exact hrec
   | some x =>
    simp only [List.filterMap_cons,hq]
    refine List.nodup_cons.2 ⟨fun hm=>?_,hrec⟩
    rcases o0N (by simpa using hi) hm with e | ⟨j,hj,_,e⟩
    ·exact hr x e 0 (by simp) (by omega) (by simpa using hq)
    ·have:=g0m hd (i:=0) (j:=j + 1) (by simp) (by simpa using hj) (b:=x) (by simpa using hq) (by simpa using e)
     omega
theorem RowAt.setAt {h h':H} {lo:Nat} {b v:Nat} {rs:List RC} {cs:List Column} (a:RowAt h lo (.slc b v 0 rs.length 2 none) rs (some cs)) {i:Nat} (hi:i < rs.length) (hn:h.next ≤ h'.next) (hf:∀ x,x < h.next→z0 rs[i].2 ≠ some x→h'.f x = h.f x)
  {s5:AS} {c:Column} (cc:ColAt h' lo (rs[i].1,s5) c) (ho:∀ x,z0 s5 = some x→z0 rs[i].2 = some x ∨ h.next ≤ x) :
  ∃ fx ex M,h'.f b = some ⟨v,M.length::ex,fx,M⟩∧i * 2 + 2 ≤ M.length∧sub M (i * 2) 2 = some (a0P rs[i])∧RowAt (h'.set b ⟨v,[M.length],fx,lay M (i * 2 + 1) [s5]⟩) lo (.slc b v 0 rs.length 2 none) (rs.set i (rs[i].1,s5)) (some (cs.set i c)):=by
 obtain ⟨ar,hnil,own,col,dis⟩:=a
 obtain ⟨hbl,hbn⟩:=own b rfl
 rcases ar with ⟨e,_⟩ | ⟨b',v',z,e,ar⟩
 ·cases e
 cases e
 have hbb:z0 rs[i].2 ≠ some b:=fun e=>hbn (b0G hi e)
 have ar':Arr h' a0P b v rs z:=ar.keep hn (hf b ar.1 hbb)
 obtain ⟨fx,ex,M,hfb,hM,_,hrd,hwr⟩:=ar'.cells c0R
 obtain ⟨h1,h2⟩:=hrd i hi
 have hs5:∀ x,z0 s5 = some x→x ≠ b:=by
  rintro x hx rfl
  rcases ho _ hx with e | e
  ·exact hbb e
  ·have:=ar.1;omega
 have hlt:∀ j (hj:j < rs.length) x,z0 rs[j].2 = some x→x < h.next:=fun j hj x hx=>(col.lt x (b0G hj hx)).2
 refine ⟨fx,ex,M,hfb,h1,h2, ?_⟩
 have hl:lay M (i * 2 + 1) [s5] = lay M (i * 2) (a0P (rs[i].1,s5)):=p0h h2
 rw [hl]
 have har:=hwr (h'.set b ⟨v,[M.length],fx,lay M (i * 2) (a0P (rs[i].1,s5))⟩) i (rs[i].1,s5) hi (by simpa using ar'.1) (by simp)
 have hkeep:∀ j (hj:j < rs.length),j ≠ i→∀ x,z0 rs[j].2 = some x→(h'.set b ⟨v,[M.length],fx,lay M (i * 2) (a0P (rs[i].1,s5))⟩).f x = h.f x:=fun j hj hji x hx=>by
  have hxb:x ≠ b:=by rintro rfl;exact hbn (b0G hj hx)
  rw [p0,if_neg hxb,hf x (hlt j hj x hx) fun e=>hji (g0m dis hj hi hx e)]
 refine ⟨.inr ⟨b,v,z,by simp,har⟩,by simp,fun x hx=>?_, ?_, ?_⟩
 ·cases hx
  refine ⟨hbl,fun hm=>?_⟩
  rcases o0N hi hm with e | ⟨j,hj,_,e⟩
  ·exact hs5 _ e rfl
  ·exact hbn (b0G hj e)
 ·-- each column
  have hcc:ColAt (h'.set b ⟨v,[M.length],fx,lay M (i * 2) (a0P (rs[i].1,s5))⟩) lo (rs[i].1,s5) c:=cc.keep (by simp) fun x hx=>by rw [p0,if_neg (hs5 x hx)]
  have key:∀ (rs':List RC) (cs':List Column) (k:Nat),NestL h lo rs' cs'→(∀ j (hj:j < rs'.length),j ≠ k→∀ x,z0 rs'[j].2 = some x→(h'.set b ⟨v,[M.length],fx,lay M (i * 2) (a0P (rs[i].1,s5))⟩).f x = h.f x)→NestL (h'.set b ⟨v,[M.length],fx,lay M (i * 2) (a0P (rs[i].1,s5))⟩) lo (rs'.set k (rs[i].1,s5)) (cs'.set k c):=by
   intro rs'
   induction rs' with
   | nil =>
    intro cs' k hN _
    cases cs' with
    | nil=>trivial
    | cons _ _=>exact hN.elim
   | cons r rs' ih =>
    intro cs' k hN hk
    cases cs' with
    | nil=>exact hN.elim
    | cons c' cs' =>
     cases k with
     | zero =>
      refine ⟨hcc,hN.2.keep (by simpa using hn) fun x hx=>?_⟩
      obtain ⟨j,hj,e⟩:=d0q hx
      exact hk (j + 1) (by simpa using hj) (by omega) x (by simpa using e)
     | succ k =>
      refine ⟨hN.1.keep (by simpa using hn) fun x hx=>hk 0 (by simp) (by omega) x (by simpa using hx),ih cs' k hN.2 fun j hj hjk x hx=>hk (j + 1) (by simpa using hj) (by omega) x (by simpa using hx)⟩
  simpa using key rs cs i col hkeep
 ·refine l0c dis hi fun x hx j hj hji e=>?_
  rcases ho x hx with e2 | e2
  ·exact hji (g0m dis hj hi e e2)
  ·have:=hlt j hj x e;omega
end Go.Ab
namespace Go.Ab
open Wm
theorem t0b (h:H):h.over 0 = h:=by
 unfold H.over
 congr 1
theorem RowAt.frz0 {h:H} {lo:Nat} {s:AS} {rs:List RC} {o:Row} (a:RowAt h lo s rs o) (n:Nat):p9 false h (n + 3) s = some (sl 2 j9 o):=by
 have:=RowAt.frz (h:=H.empty) (Nat.zero_le _) a n
 rwa [show H.empty.next = 0 from rfl,t0b] at this
theorem NestL.ins {h:H} {lo:Nat}:∀ {rs:List RC} {cs:List Column} {i:Nat} {r:RC} {c:Column},NestL h lo rs cs→ColAt h lo r c→i ≤ rs.length→NestL h lo (rs.insertIdx i r) (cs.insertIdx i c)
 | rs,cs,0,r,c,a,cc,_=>by cases rs <;> cases cs <;> first | exact ⟨cc,a⟩ | exact a.elim
 | r'::rs,c'::cs,i + 1,r,c,a,cc,hi=>by
  simp only [List.insertIdx_succ_cons]
  exact ⟨a.1,NestL.ins a.2 cc (by simpa using hi)⟩
 | [],cs,i + 1,_,_,a,_,hi=>by simp at hi
 | _::_,[],i + 1,_,_,a,_,_=>a.elim
theorem h0n {rs:List RC} {i:Nat} (hi:i ≤ rs.length) (n:BL):Z6 (rs.insertIdx i (n,.nilslc)) = Z6 rs:=by
 rw [a0E hi,g0H]
 have:Z6 ((n,AS.nilslc)::rs.drop i) = Z6 (rs.drop i):=by simp [Z6,z0]
 rw [this,← g0H,List.take_append_drop]
theorem RowAt.insNil {h h':H} {lo:Nat} {s:AS} {rs:List RC} {o:Row} (a:RowAt h lo s rs o) (hlo:lo ≤ h.next) {i:Nat} (hi:i ≤ rs.length) {n:BL} {s':AS} {b v:Nat} {z:List AS} (hs':s' = .slc b v 0 (rs.insertIdx i (n,.nilslc)).length 2 none) (ar:Arr h' a0P b v (rs.insertIdx i (n,.nilslc)) z)
  (hn:h.next ≤ h'.next) (hf:∀ x,x < h.next→z0 s ≠ some x→h'.f x = h.f x) (ho:∀ x,z0 s' = some x→z0 s = some x ∨ h.next ≤ x):RowAt h' lo s' (rs.insertIdx i (n,.nilslc)) (some ((ls o).insertIdx i ⟨n,none⟩)) where
 arr:=.inr ⟨b,v,z,hs',ar⟩
 nil:=by rw [hs'];simp
 own x hx:=by
  rw [h0n hi]
  rcases ho x hx with e | e
  ·exact a.own x e
  ·exact ⟨by omega,fun hm=>by have:=(a.col.lt x hm).2;omega⟩
 col:=NestL.ins (a.col.keep hn fun x hx=>hf x (a.col.lt x hx).2 fun e=>(a.own x e).2 hx) ⟨rfl,.inl ⟨rfl,rfl⟩,by simp,fun x hx=>by cases hx⟩ hi
 dis:=by rw [h0n hi];exact a.dis
end Go.Ab
namespace Go.Ab
theorem N3 (a:AS) (l:List AS) (x:AS) (new:List AS):lay (a::l) 0 (x::new) = x::lay l 0 new:=by simp [lay,Nat.add_comm]
theorem N5 (l:List AS):lay l 0 [] = l:=by simp [lay]
theorem U8 (a:AS) (l:List AS) (o:Nat) (new:List AS):lay (a::l) (o + 1) new = a::lay l o new:=by
 simp only [lay,List.take_succ_cons,oqm,List.cons.injEq,true_and]
 congr 2
 rw [Nat.add_right_comm,List.drop_succ_cons]
end Go.Ab
namespace Go.Ab
open Wm
theorem NestL.erase {h:H} {lo:Nat}:∀ {rs:List RC} {cs:List Column} (i:Nat),NestL h lo rs cs→NestL h lo (rs.eraseIdx i) (cs.eraseIdx i)
 | [],[],_,_=>trivial
 | _::_,_::_,0,a=>a.2
 | _::_,_::_,i + 1,a=>⟨a.1,NestL.erase i a.2⟩
theorem RowAt.eraseAt {h h':H} {lo:Nat} {b v:Nat} {rs:List RC} {cs:List Column} (a:RowAt h lo (.slc b v 0 rs.length 2 none) rs (some cs)) {i:Nat} (hi:i < rs.length) (hn:h'.next = h.next) (hf:∀ y,y ≠ b→h'.f y = h.f y) {z':List AS} (ar:Arr h' a0P b v (rs.eraseIdx i) z') :
  RowAt h' lo (.slc b v 0 (rs.length - 1) 2 none) (rs.eraseIdx i) (some (cs.eraseIdx i)) where
 arr:=.inr ⟨b,v,z',by rw [List.length_eraseIdx,if_pos hi],ar⟩
 nil:=by simp
 own x hx:=by
  cases hx
  refine ⟨(a.own b rfl).1,fun hm=>(a.own b rfl).2 ?_⟩
  exact ((List.eraseIdx_sublist rs i).filterMap _).subset hm
 col:=(NestL.erase i a.col).keep (by omega) fun x hx=>hf x (by
  rintro rfl
  exact (a.own _ rfl).2 (((List.eraseIdx_sublist rs i).filterMap _).subset hx))
 dis:=a.dis.sublist ((List.eraseIdx_sublist rs i).filterMap _)
end Go.Ab
namespace Wm
open Go Go.Ab
def blt (a b:BL):Bool:=Op.bytesLess a b
abbrev d0E (o:Option BL):Nat:=(ls o).length
def I6 (s:BL):Bool:=decide (0 < s.length) && decide (s.length ≤ 16)
def Q0 (v:Value):Bool:=(v.kind == 1 && decide (d0E v.b ≤ 16)) || v.kind == 2
def l0p (k:Int):Bool × Bool × Bool × Bool :=
 if k = 1 ∨ k = 5 then (true,true,true,true) else if k = 2 then (true,true,false,true) else if k = 3 then (true,false,false,true) else if k = 4 then (false,false,false,true) else (false,false,false,false)
def F0 (c:Change):Int :=
 let a:=l0p c.kind
 if a.2.2.2 = false then 24
 else if (a.1 && !I6 c.col) || (a.2.1 && (decide (c.time < 0) || decide (1099511627776 < c.time))) || (a.2.2.1 && !Q0 c.v) then 1
 else if c.kind = 5∧c.v.kind ≠ 2 then 24 else 0
def h0D (c:Cond):Bool:=!c.has || (I6 c.col && (!c.want || Q0 c.v))
def H5 (s:Span):Bool:=decide (s.lo.length ≤ 16) && decide (s.hi.length ≤ 16) && (s.hi == [] || blt s.lo s.hi)
def K8 (s:Span) (n:BL):Bool:=!blt n s.lo && (s.hi == [] || blt n s.hi)
def b0s (s:Span) (at_:BL):Bool:=H5 s && (blt s.lo at_ && ((s.hi == [] || blt at_ s.hi) && H5 ⟨s.lo,at_⟩))
def g0N (o:Op):Bool :=
 if o.kind = 1 then I6 o.row
 else if o.kind = 2 then I6 o.row && (h0D o.cond && (decide (0 < (ls o.l).length) && (decide ((ls o.l).length ≤ 8) && (ls o.l).all fun c=>F0 c == 0)))
 else if o.kind = 3 then H5 ⟨o.row,o.hi⟩ && (decide (1 ≤ o.most) && decide (o.most ≤ 16))
 else false
def g0X (n:Int):Bool:=decide (1 ≤ n) && decide (n ≤ 1073741824)
def h0T (n m:Int):Bool:=decide (0 ≤ n) && decide (n ≤ m)
def g0U (c:Command):Bool :=
 if c.kind = 1 then g0N c.op
 else if c.kind = 2 ∨ c.kind = 4 then H5 c.span && g0X c.gen
 else if c.kind = 3 then H5 c.span && (g0X c.gen && decide (d0E c.state ≤ 1048576))
 else if c.kind = 5 ∨ c.kind = 6 then b0s c.span c.at_ && g0X c.gen
 else if c.kind = 7 then decide (c.at_.length ≤ 16)
 else if c.kind = 8 then c.do_ == 0 || (decide (1 ≤ c.do_) && (decide (c.do_ ≤ 3) && (decide (c.at_.length ≤ 16) && h0T c.to 255)))
 else if c.kind = 9 then g0X c.gen && (c.to == 0 || c.to == -1)
 else c.kind == 10
theorem f0J (a b:UInt8):a < b ↔ a.toNat < b.toNat:=Iff.rfl
theorem t0i (a b:UInt8):a = b ↔ a.toNat = b.toNat:=⟨fun h=>by rw [h],fun h=>UInt8.toNat_inj.1 h⟩
theorem X9:∀ a:BL,Op.bytesLess a a = false
 | []=>rfl
 | a::x=>by simp [Op.bytesLess,X9 x]
theorem b0j:∀ {a b:BL},Op.bytesLess a b = true→Op.bytesLess b a = false
 | [],[],h=>by cases h
 | [],_::_,_=>rfl
 | _::_,[],h=>by cases h
 | a::x,b::y,h=>by
  simp only [Op.bytesLess,Bool.or_eq_true,oqj,oqd,beq_iff_eq] at h
  simp only [Op.bytesLess,Bool.or_eq_false_iff,decide_eq_false_iff_not,Bool.and_eq_false_iff]
  rcases h with h | ⟨rfl,h⟩
  ·rw [f0J] at *
   refine ⟨by omega,.inl ?_⟩
   simp;rintro rfl;omega
  ·exact ⟨by rw [f0J];omega,.inr (b0j h)⟩
theorem a0F:∀ {a b:BL},Op.bytesLess a b = false→Op.bytesLess b a = false→a = b
 | [],[],_,_=>rfl
 | [],_::_,h,_=>by cases h
 | _::_,[],_,h=>by cases h
 | a::x,b::y,h,k=>by
  simp only [Op.bytesLess,Bool.or_eq_false_iff,decide_eq_false_iff_not,Bool.and_eq_false_iff,beq_eq_false_iff_ne] at h k
  have hab:a = b:=by
   rw [t0i]
   have h1:=h.1;have k1:=k.1
   rw [f0J] at h1 k1;omega
  subst hab
  have h2:Op.bytesLess x y = false:=by rcases h.2 with h | h;exact absurd rfl h;exact h
  have k2:Op.bytesLess y x = false:=by rcases k.2 with h | h;exact absurd rfl h;exact h
  rw [a0F h2 k2]
theorem g0f:∀ {a b c:BL},Op.bytesLess a b = true→Op.bytesLess b c = true→Op.bytesLess a c = true
 | [],[],_,h,_=>by cases h
 | _::_,[],_,h,_=>by cases h
 | _,_::_,[],_,h=>by cases h
 | [],_::_,_::_,_,_=>rfl
 | a::x,b::y,c::z,h,k=>by
  simp only [Op.bytesLess,Bool.or_eq_true,oqj,oqd,beq_iff_eq] at h k ⊢
  rcases h with h | ⟨rfl,h⟩
  ·rcases k with k | ⟨rfl,k⟩
   ·left;rw [f0J] at *;omega
   ·exact .inl h
  ·rcases k with k | ⟨rfl,k⟩
   ·exact .inl k
   ·exact .inr ⟨rfl,g0f h k⟩
@[simp] theorem C0G (a b:BL):(Op.bytesLess a b || a == b) = !Op.bytesLess b a:=by
 cases h:Op.bytesLess a b
 ·cases k:Op.bytesLess b a
  ·simp [a0F h k]
  ·simp;rintro rfl;rw [X9] at k;cases k
 ·simp [b0j h]
@[simp ↓] theorem H0T (n:Nat):decide ((n:Int) ≤ 8) = decide (n ≤ 8):=by rw [decide_eq_decide];omega
@[simp ↓] theorem H0R (n:Nat):decide ((8:Int) < n) = decide (8 < n):=by rw [decide_eq_decide];omega
@[simp] theorem H0V (n:Nat):((n:Int) ≤ 8) = (n ≤ 8):=by apply propext;omega
@[simp] theorem H0W (n:Nat):((8:Int) < n) = (8 < n):=by apply propext;omega
@[simp ↓] theorem H0A (n:Nat):decide ((n:Int) ≤ 16) = decide (n ≤ 16):=by rw [decide_eq_decide];omega
@[simp ↓] theorem H0E (n:Nat):decide ((16:Int) < n) = decide (16 < n):=by rw [decide_eq_decide];omega
@[simp] theorem H0U (n:Nat):((n:Int) ≤ 16) = (n ≤ 16):=by apply propext;omega
@[simp] theorem H0S (n:Nat):((16:Int) < n) = (16 < n):=by apply propext;omega
@[simp ↓] theorem H0e (n:Nat):decide ((n:Int) ≤ 255) = decide (n ≤ 255):=by rw [decide_eq_decide];omega
@[simp ↓] theorem G0P (n:Nat):decide ((255:Int) < n) = decide (255 < n):=by rw [decide_eq_decide];omega
@[simp] theorem H0F (n:Nat):((n:Int) ≤ 255) = (n ≤ 255):=by apply propext;omega
@[simp] theorem H0D (n:Nat):((255:Int) < n) = (255 < n):=by apply propext;omega
@[simp ↓] theorem z0P (n:Nat):decide ((n:Int) ≤ 1048576) = decide (n ≤ 1048576):=by rw [decide_eq_decide];omega
@[simp ↓] theorem z0U (n:Nat):decide ((1048576:Int) < n) = decide (1048576 < n):=by rw [decide_eq_decide];omega
@[simp] theorem C0q (n:Nat):((n:Int) ≤ 1048576) = (n ≤ 1048576):=by apply propext;omega
@[simp] theorem C0b (n:Nat):((1048576:Int) < n) = (1048576 < n):=by apply propext;omega
@[simp ↓] theorem D0c (n:Nat):decide ((n:Int) ≤ 65535) = decide (n ≤ 65535):=by rw [decide_eq_decide];omega
@[simp ↓] theorem C0L (n:Nat):decide ((65535:Int) < n) = decide (65535 < n):=by rw [decide_eq_decide];omega
@[simp] theorem F0T (n:Nat):((n:Int) ≤ 65535) = (n ≤ 65535):=by apply propext;omega
@[simp] theorem F0J (n:Nat):((65535:Int) < n) = (65535 < n):=by apply propext;omega
@[simp ↓] theorem H0o (n:Nat):decide ((n:Int) ≤ 256) = decide (n ≤ 256):=by rw [decide_eq_decide];omega
@[simp ↓] theorem G0Z (n:Nat):decide ((256:Int) < n) = decide (256 < n):=by rw [decide_eq_decide];omega
@[simp] theorem H0M (n:Nat):((n:Int) ≤ 256) = (n ≤ 256):=by apply propext;omega
@[simp] theorem H0B (n:Nat):((256:Int) < n) = (256 < n):=by apply propext;omega
def be:Nat→Nat→BL
 | 0,_=>[]
 | k + 1,n=>UInt8.ofNat (n / 256 ^ k)::be k n
theorem g9:∀ k n,(be k n).length = k
 | 0,_=>rfl
 | k + 1,n=>by simp [be,g9 k n]
def u8 (n:Int):UInt8:=UInt8.ofNat (n % 256).toNat
def u32 (n:Int):Nat:=(n % 4294967296).toNat
def u64 (n:Int):Nat:=(n % 18446744073709551616).toNat
def D7 (b:BL):BL:=be 4 b.length++b
def L7 (n:Int):BL:=be 4 (u32 n)
def a0Z (n:Int):BL:=be 8 (u64 n)
def b0n (b:Nat):Nat:=if NumPlain.isN b then 9221120237041090561 else b
def a0r (v:Value):BL:=if v.kind = 1 then 1::D7 (ls v.b) else if v.kind = 2 then 2::be 8 (b0n v.n) else [0]
def I9 (s:Span):BL:=D7 s.lo++D7 s.hi
end Wm
namespace Wm
open Go Go.Ab
def Y1 (n lo hi:Int):Int:=if lo ≤ n∧n ≤ hi then n else lo + (if n.tmod (hi - lo + 1) < 0 then n.tmod (hi - lo + 1) + hi - lo + 1 else n.tmod (hi - lo + 1))
theorem f0c {n lo hi:Int} (h:lo ≤ hi):lo ≤ Y1 n lo hi∧Y1 n lo hi ≤ hi:=by
 unfold Y1
 split
 ·assumption
 ·have hd:0 < hi - lo + 1:=by omega
  have h1:=Int.tmod_lt_of_pos n hd
  have h2:-(hi - lo + 1) < n.tmod (hi - lo + 1):=by
   rcases Int.le_total 0 n with h | h
   ·have:=Int.tmod_nonneg (hi - lo + 1) h;omega
   ·have h3:=Int.tmod_lt_of_pos (-n) hd
    rw [Int.neg_tmod] at h3;omega
  split <;> omega
def m20 (n:Int):Int:=Y1 n 0 1048576
theorem a0D (n:Int):0 ≤ m20 n∧m20 n ≤ 1048576:=f0c (by omega)
def c0g:List BL:=[[97],[98],[109],[110],[122],[109,97],[122,122],[48]]
def c0f:List BL:=[[120],[121],[119],[118],[108,111,110,103,46,110,97,109,101,46,49,54,46,98,121,116]]
def k0r (l:List BL) (n:Int):BL:=(l[(m20 n % l.length).toNat]?).getD []
def Z4 (n:Int):BL:=k0r c0g n
def a0i (n:Int):BL:=k0r c0f n
def l0n (o:Option BL) (n:Nat):Option BL:=if n < (ls o).length then some ((ls o).take n) else o
def d0K (n:Int) (x:Nat):Nat :=
 let m:=m20 n % 9
 if m = 0 then 0 else if m = 1 then 9223372036854775808 else if m = 2 then 9218868437227405312 else if m = 3 then 18442240474082181120 else if m = 4 then 9221120237041090561
 else if m = 5 then 18444492273895866659 else if m = 6 then FloatKind.nearest .f64 (m20 n % 20 - 9) else x
def b0O (v:KV):Value:=if v.text then ⟨1,l0n v.b 16,0⟩ else ⟨2,none,d0K v.n v.x⟩
def a0h (c:KC):Change :=
 let k:=1 + m20 c.kind % 5
 if k = 5 then ⟨5,a0i c.col,Y1 c.time 0 30,⟨2,none,d0K c.v.n c.v.x⟩⟩
 else if k = 2 then ⟨2,a0i c.col,Y1 c.time 0 30,⟨0,none,0⟩⟩
 else if k = 3 then ⟨3,a0i c.col,0,⟨0,none,0⟩⟩
 else if k = 4 then ⟨4,[],0,⟨0,none,0⟩⟩
 else ⟨k,a0i c.col,Y1 c.time 0 30,b0O c.v⟩
def P0 (o:Option (List KC)):Option (List Change):=opt (((ls o).take 4).map a0h)
def a0e:Cond:=⟨false,false,[],⟨0,none,0⟩⟩
def kOp (o:KO):Op :=
 if m20 o.kind % 6 = 0 then ⟨1,Z4 o.row,[],a0e,none,0⟩
 else if m20 o.kind % 6 = 1 then
  let r:=if o.has then [] else Z4 o.row
  ⟨3,r,if Op.bytesLess r (Z4 o.hi) then Z4 o.hi else [],a0e,none,1 + m20 o.most % 16⟩
 else ⟨2,Z4 o.row,[],if o.has then ⟨true,o.want,a0i o.col,if o.want then b0O o.v else ⟨0,none,0⟩⟩ else a0e,
  if ls (P0 o.l) = [] then some [⟨5,[120],5,⟨2,none,4607182418800017408⟩⟩] else P0 o.l,0⟩
@[simp] theorem G0m (a:BL):Op.bytesLess a [] = false:=by cases a <;> rfl
@[simp] theorem F0f (a:BL):Op.bytesLess [] a = !a.isEmpty:=by cases a <;> rfl
@[simp] theorem sl_none {α:Type} (s:Nat) (enc:α→List AS):sl s enc none = .nilslc:=rfl
end Wm
namespace Wm
open Go Go.Ab
theorem m0h {l:List BL} (hl:l ≠ []) (n:Int):k0r l n ∈ l:=by
 unfold k0r
 have hp:0 < l.length:=List.length_pos_iff.2 hl
 have h0:=Int.emod_nonneg (m20 n) (show (l.length:Int) ≠ 0 by omega)
 have h1:=Int.emod_lt_of_pos (m20 n) (show (0:Int) < l.length by omega)
 have hk:(m20 n % l.length).toNat < l.length:=by omega
 rw [List.getElem?_eq_getElem hk,Option.getD_some]
 exact List.getElem_mem hk
theorem g0s (n:Int):I6 (Z4 n) = true:=by
 have h:∀ s ∈ c0g,I6 s = true:=by decide
 exact h _ (m0h (by decide) n)
theorem w0c (n:Int):I6 (a0i n) = true:=by
 have h:∀ s ∈ c0f,I6 s = true:=by decide
 exact h _ (m0h (by decide) n)
theorem a0B {s:BL} (h:I6 s = true):s.length ≤ 16:=by
 unfold I6 at h;simp only [oqd,oqj] at h;exact h.2
theorem z0A (o:Option BL) (n:Nat):(ls (l0n o n)).length ≤ n:=by
 unfold l0n;split
 ·simp;omega
 ·omega
theorem n0X (v:KV):Q0 (b0O v) = true∧(ls (b0O v).b).length ≤ 16:=by
 unfold b0O
 have:=z0A v.b 16
 split <;> simp [Q0,d0E,this]
theorem t0E (c:KC):F0 (a0h c) = 0∧(a0h c).col.length ≤ 16∧(ls (a0h c).v.b).length ≤ 16:=by
 have hb:=a0D c.kind
 have hc:=w0c c.col
 have hl:=a0B hc
 have hv:=n0X c.v
 have ht:=@f0c c.time 0 30 (by omega)
 obtain ⟨k,hk⟩:∃ k,1 + m20 c.kind % 5 = k:=⟨_,rfl⟩
 have hk5:k = 1 ∨ k = 2 ∨ k = 3 ∨ k = 4 ∨ k = 5:=by omega
 have e1:decide (Y1 c.time 0 30 < 0) = false:=by simp;omega
 have e2:decide (1099511627776 < Y1 c.time 0 30) = false:=by simp;omega
 have e3:Q0 ⟨2,none,d0K c.v.n c.v.x⟩ = true:=by simp [Q0]
 unfold a0h
 rcases hk5 with rfl | rfl | rfl | rfl | rfl <;> simp only [hk] <;> simp [F0,l0p,hc,hl,hv,e1,e2,e3]
theorem p0Q (o:Option (List KC)):(∀ c ∈ ls (P0 o),F0 c = 0∧c.col.length ≤ 16∧(ls c.v.b).length ≤ 16)∧(ls (P0 o)).length ≤ 4:=by
 unfold P0
 rw [u0W]
 refine ⟨fun c hc=>?_,by simp;omega⟩
 obtain ⟨x,_,rfl⟩:=List.mem_map.1 hc
 exact t0E x
structure OpIs (o:Op):Prop where
 ok:g0N o = true
 row:o.row.length ≤ 16
 hi:o.hi.length ≤ 16
 col:o.cond.col.length ≤ 16
 cv:(ls o.cond.v.b).length ≤ 16
 l:∀ c ∈ ls o.l,c.col.length ≤ 16∧(ls c.v.b).length ≤ 16
 n:(ls o.l).length ≤ 4
theorem w0r {p:Prop} [Decidable p] {s t:BL} (hs:s.length ≤ 16) (ht:t.length ≤ 16):(if p then s else t).length ≤ 16:=by split <;> assumption
theorem v0W (o:KO):OpIs (kOp o):=by
 have hr:=g0s o.row
 have hh:=g0s o.hi
 have hc:=w0c o.col
 have hv:=n0X o.v
 have hb:=a0D o.most
 obtain ⟨h1,h2⟩:=p0Q o.l
 unfold kOp
 split
 ·exact ⟨by simp [g0N,hr],a0B hr,by simp,by simp [a0e],by simp [a0e],by simp,by simp⟩
 split
 ·have hl:(if o.has then [] else Z4 o.row:BL).length ≤ 16:=w0r (by simp) (a0B hr)
  have hl2:(if Op.bytesLess (if o.has then [] else Z4 o.row) (Z4 o.hi) then Z4 o.hi else []:BL).length ≤ 16:=w0r (a0B hh) (by simp)
  refine ⟨?_,hl,hl2,by simp [a0e],by simp [a0e],by simp,by simp⟩
  have h3:decide (1 ≤ 1 + m20 o.most % 16) = true:=by simp;omega
  have h4:decide (1 + m20 o.most % 16 ≤ 16) = true:=by simp;omega
  simp only [g0N,H5,blt]
  simp only [hl,hl2,h3,h4,decide_true,Bool.true_and,Bool.and_true]
  by_cases hq:Op.bytesLess (if o.has then [] else Z4 o.row) (Z4 o.hi) = true
  ·simp [hq]
  ·simp [hq]
 ·have hcl:(∀ c ∈ ls (if ls (P0 o.l) = [] then some [⟨5,[120],5,⟨2,none,4607182418800017408⟩⟩] else P0 o.l:Option (List Change)),F0 c = 0∧c.col.length ≤ 16∧(ls c.v.b).length ≤ 16)∧0 < (ls (if ls (P0 o.l) = [] then some [⟨5,[120],5,⟨2,none,4607182418800017408⟩⟩] else P0 o.l:Option (List Change))).length∧(ls (if ls (P0 o.l) = [] then some [⟨5,[120],5,⟨2,none,4607182418800017408⟩⟩] else P0 o.l:Option (List Change))).length ≤ 4:=by
   split
   ·refine ⟨fun c hc=>?_,by simp,by simp⟩
    simp at hc;subst hc
    simp [F0,l0p,I6,Q0]
   ·rename_i hne
    exact ⟨h1,List.length_pos_iff.2 hne,h2⟩
  obtain ⟨g1,g2,g3⟩:=hcl
  have hcd:∀ cd:Cond,cd = (if o.has then ⟨true,o.want,a0i o.col,if o.want then b0O o.v else ⟨0,none,0⟩⟩ else a0e)→h0D cd = true∧cd.col.length ≤ 16∧(ls cd.v.b).length ≤ 16:=by
   rintro cd rfl
   have hl:=a0B hc
   by_cases q1:o.has = true <;> by_cases q2:o.want = true <;> simp [q1,q2,h0D,a0e,hc,hl,hv]
  obtain ⟨c1,c2,c3⟩:=hcd _ rfl
  refine ⟨?_,a0B hr,by simp,c2,c3,fun c hc=>(g1 c hc).2,g3⟩
  have g4:(ls (if ls (P0 o.l) = [] then some [⟨5,[120],5,⟨2,none,4607182418800017408⟩⟩] else P0 o.l:Option (List Change))).all (fun c=>F0 c == 0) = true:=by
   rw [oqn];intro c hc;simp [(g1 c hc).1]
  simp only [g0N,hr,c1,g4,g2,decide_true,Bool.true_and,Bool.and_true]
  simp;omega
end Wm
namespace Wm
open Go Go.Ab
def f0N (l:BL):Nat:=l.foldl (fun a b=>a * 256 + b.toNat) 0
@[simp] theorem D0Y:f0N [] = 0:=rfl
theorem h0R (l:BL) (b:UInt8):f0N (l++[b]) = f0N l * 256 + b.toNat:=by simp [f0N,List.foldl_append]
theorem u0k (b:UInt8):f0N [b] = b.toNat:=by simp [f0N]
theorem y0J (l:BL):∀ (a n:Nat),a < 256 ^ n→l.foldl (fun a b=>a * 256 + b.toNat) a < 256 ^ (n + l.length):=by
 induction l with
 | nil=>intro a n h;simpa using h
 | cons b l ih =>
  intro a n h
  simp only [List.foldl_cons,oqb]
  have hb:b.toNat < 256:=b.toNat_lt
  have h2:a * 256 + b.toNat < 256 ^ (n + 1):=by rw [Nat.pow_succ];omega
  have:=ih _ _ h2
  rwa [show n + 1 + l.length = n + (l.length + 1) by omega] at this
theorem r0u (l:BL):f0N l < 256 ^ l.length:=by
 have:=y0J l 0 0 (by simp)
 simpa [f0N] using this
theorem s0f:∀ (k a n:Nat),(be k n).foldl (fun a b=>a * 256 + b.toNat) a = a * 256 ^ k + n % 256 ^ k
 | 0,a,n=>by simp [be,Nat.mod_one]
 | k + 1,a,n=>by
  simp only [be,List.foldl_cons,s0f k]
  rw [UInt8.toNat_ofNat']
  have e:n / 256 ^ k % 2 ^ 8 = n / 256 ^ k % 256:=rfl
  have e2:n % 256 ^ (k + 1) = n % 256 ^ k + 256 ^ k * (n / 256 ^ k % 256):=by rw [Nat.pow_succ,Nat.mod_mul]
  rw [e,e2,Nat.pow_succ,Nat.add_mul,Nat.mul_assoc,Nat.mul_comm 256,Nat.mul_comm (n / 256 ^ k % 256)]
  omega
theorem z0x {k n:Nat} (h:n < 256 ^ k):f0N (be k n) = n:=by
 unfold f0N;rw [s0f,Nat.mod_eq_of_lt h];omega
theorem y0o {a b:Nat} (ha:a < 72057594037927936) (hb:b < 256):orI .u64 ((a * 256:Nat):Int) (b:Nat) = ((a * 256 + b:Nat):Int):=by
 unfold orI
 have h1:(BitVec.ofInt IntKind.u64.bits ((a * 256:Nat):Int) ||| BitVec.ofInt IntKind.u64.bits (b:Nat)).toNat = a * 256 + b:=by
  rw [BitVec.ofInt_natCast,BitVec.ofInt_natCast,BitVec.toNat_or,BitVec.toNat_ofNat,BitVec.toNat_ofNat]
  have e:IntKind.u64.bits = 64:=rfl
  rw [e,Nat.mod_eq_of_lt (by omega),Nat.mod_eq_of_lt (by omega)]
  have:=Nat.shiftLeft_add_eq_or_of_lt (i:=8) (b:=b) (by omega) a
  rw [Nat.shiftLeft_eq] at this
  exact this.symm
 rw [h1,c0m (by omega) (by omega)]
theorem w0w {a:Nat} (ha:a < 72057594037927936):a0b .shl .u64 (a:Nat) 8 = some (.int .u64 ((a * 256:Nat):Int)):=by
 unfold a0b
 rw [if_neg (by omega)]
 have e:(2:Int) ^ min (8:Int).toNat IntKind.u64.bits = 256:=rfl
 simp only [e]
 rw [c0m (by omega) (by omega)]
 simp
end Wm
namespace Wm
variable {α:Type}
theorem f0a {P:List α→Prop} (h0:P []) (h1:∀ l x,P l→P (l++[x])) (l:List α):P l:=by
 have:∀ n (l:List α),l.length = n→P l:=by
  intro n
  induction n with
  | zero=>intro l h;rw [List.eq_nil_of_length_eq_zero h];exact h0
  | succ n ih =>
   intro l h
   have hne:l ≠ []:=by rintro rfl;simp at h
   rw [← List.dropLast_concat_getLast hne]
   exact h1 _ _ (ih _ (by simp [h]))
 exact this _ l rfl
def B0l (lt:α→α→Bool) (x:α):List α→List α
 | []=>[x]
 | y::r=>if lt x y then y::B0l lt x r else x::y::r
def ins (lt:α→α→Bool) (x:α) (s:List α):List α:=(B0l lt x s.reverse).reverse
def X0 (lt:α→α→Bool) (l:List α):List α:=l.foldl (fun s x=>ins lt x s) []
@[simp] theorem G0A (lt:α→α→Bool) (x:α):ins lt x [] = [x]:=rfl
theorem d0N (lt:α→α→Bool) (x y:α) (s:List α):ins lt x (s++[y]) = if lt x y then ins lt x s++[y] else s++[y,x]:=by
 simp only [ins,List.reverse_append,List.reverse_cons,List.reverse_nil,oql,oqm,B0l]
 split <;> simp
theorem n0s (lt:α→α→Bool) (x:α) (s u:List α):(∀ y ∈ u,lt x y = true)→ins lt x (s++u) = ins lt x s++u:=by
 refine f0a (P:=fun u=>(∀ y ∈ u,lt x y = true)→ins lt x (s++u) = ins lt x s++u) (by simp) (fun u y ih h=>?_) u
 rw [← oqh,d0N,if_pos (h y (by simp)),ih fun z hz=>h z (by simp [hz]),oqh]
@[simp] theorem D0q (lt:α→α→Bool):X0 lt ([]:List α) = []:=rfl
theorem b0Q (lt:α→α→Bool) (l:List α) (x:α):X0 lt (l++[x]) = ins lt x (X0 lt l):=by simp [X0,List.foldl_append]
theorem q0s (lt:α→α→Bool) (x:α) (s:List α):(ins lt x s).length = s.length + 1:=by
 refine f0a (P:=fun s=>(ins lt x s).length = s.length + 1) rfl (fun u y ih=>?_) s
 rw [d0N];split <;> simp [ih]
@[simp] theorem m0U (lt:α→α→Bool) (l:List α):(X0 lt l).length = l.length:=by
 refine f0a (P:=fun l=>(X0 lt l).length = l.length) rfl (fun u y ih=>?_) l
 rw [b0Q,q0s,ih];simp
theorem u0J (lt:α→α→Bool) (x:α) (s:List α):(ins lt x s).Perm (s++[x]):=by
 refine f0a (P:=fun s=>(ins lt x s).Perm (s++[x])) (.refl _) (fun u y ih=>?_) s
 rw [d0N];split
 ·refine (ih.append_right [y]).trans ?_
  rw [oqh,oqh]
  exact List.Perm.append_left u (List.Perm.swap y x [])
 ·rw [oqh];exact .refl _
theorem k0S (lt:α→α→Bool) (l:List α):(X0 lt l).Perm l:=by
 refine f0a (P:=fun l=>(X0 lt l).Perm l) (.refl _) (fun u y ih=>?_) l
 rw [b0Q];exact (u0J lt y _).trans (ih.append_right [y])
end Wm
namespace Go.Ab
open Wm
section
variable (P:Program) (cmp:Nat→Option (List AS)) (fr:Fr) (h:H) (d:Option Nat) (ty:TypeId) (pos:String) (af:Array Edge) (g:Option (Nat × Bool))
def F0F (u:TypeDesc) (t:TypeId) (a:AS) (h:H):Option OR:=match u with | .interface _=>none | _=>some (.val (.one (.ifc t a)) h)
@[simp] theorem D0W (e t:TypeId) (a:AS):F0F (.pointer e) t a h = some (.val (.one (.ifc t a)) h):=rfl
@[simp] theorem r0Z (t:TypeId) (x:Operand):opA P cmp fr h ⟨d,.makeInterface t x,ty,pos,af,g⟩ = (evS fr x).bind fun a=>(P.underlying t).bind fun u=>F0F u t a h:=by
 simp only [opA,oqE]
 congr 1
def F0p (a:AS) (h:H):Option OR:=match a with | .ifc t v=>some (.pan (.ifc t v) h) | _=>none
@[simp] theorem D0F (t:Nat) (v:AS):F0p (.ifc t v) h = some (.pan (.ifc t v) h):=rfl
@[simp] theorem D0f (x:Operand):opA P cmp fr h ⟨d,.panic x,ty,pos,af,g⟩ = (evS fr x).bind fun a=>F0p a h:=by
 simp only [opA,oqE]
 congr 1
end
abbrev rdB (o:Option BL):Blk:=⟨0,[1],true,[bs o]⟩
structure RS (h0 h:H) (q:Nat) (o:Option BL) (kept:List (Nat × Blk)):Prop where
 lt:q < h0.next
 rd:h.f q = some (rdB o)
 room:(ls o).length ≤ 1099511627776
 next:h0.next ≤ h.next
 same:∀ b,b < h0.next→b ≠ q→h.f b = h0.f b
 kp:F6 h kept
 ok:∀ e ∈ kept,e.1 < h.next∧e.1 ≠ q
 dis:kept.Pairwise fun a b=>a.1 ≠ b.1
theorem RS.start {h:H} {q:Nat} {o:Option BL} (hq:q < h.next) (hf:h.f q = some (rdB o)) (hl:(ls o).length ≤ 1099511627776):RS h h q o []:=⟨hq,hf,hl,oqg _,fun _ _ _=>rfl,trivial,by simp,.nil⟩
theorem RS.new {h0 h:H} {q:Nat} {o:Option BL} {kept:List (Nat × Blk)} (w:RS h0 h q o kept) (k:Blk):RS h0 (h.new k) q o ((h.next,k)::kept) where
 lt:=w.lt
 rd:=by rw [K9,if_neg (by have:=w.lt;have:=w.next;omega)];exact w.rd
 room:=w.room
 next:=Nat.le_trans w.next (by simp)
 same b hb hq:=by rw [K9,if_neg (by have:=w.next;omega)];exact w.same b hb hq
 kp:=⟨by simp,S2 (fun e he=>by rw [K9,if_neg (by have:=(w.ok e he).1;omega)]) w.kp⟩
 ok e he:=by
  rcases oqf.1 he with rfl | he
  ·have:=w.lt;have:=w.next;exact ⟨by simp,by simp only;omega⟩
  ·have:=w.ok e he;exact ⟨by simp only [A1];omega,this.2⟩
 dis:=.cons (fun e he=>by have:=(w.ok e he).1;simp only;omega) w.dis
theorem RS.drop {h0 h:H} {q:Nat} {o:Option BL} {kept:List (Nat × Blk)} (w:RS h0 h q o kept):RS h0 h q o []:=⟨w.lt,w.rd,w.room,w.next,w.same,trivial,by simp,.nil⟩
theorem RS.set0 {h0 h:H} {q:Nat} {o:Option BL} {b:Nat} {k:Blk} {kept:List (Nat × Blk)} (w:RS h0 h q o ((b,k)::kept)) (hb:h0.next ≤ b) (k':Blk):RS h0 (h.set b k') q o ((b,k')::kept) where
 lt:=w.lt
 rd:=by rw [p0,if_neg (by have:=w.lt;omega)];exact w.rd
 room:=w.room
 next:=w.next
 same c hc hq:=by rw [p0,if_neg (by omega)];exact w.same c hc hq
 kp:=⟨by simp,S2 (fun e he=>by rw [p0,if_neg (Ne.symm ((List.pairwise_cons.1 w.dis).1 e he))]) w.kp.2⟩
 ok e he:=by
  rcases oqf.1 he with rfl | he
  ·exact w.ok (b,k) (by simp)
  ·exact w.ok e (by simp [he])
 dis:=.cons (fun e he=>(List.pairwise_cons.1 w.dis).1 e he) (List.pairwise_cons.1 w.dis).2
theorem RS.swap {h0 h:H} {q:Nat} {o:Option BL} {e e':Nat × Blk} {kept:List (Nat × Blk)} (w:RS h0 h q o (e::e'::kept)):RS h0 h q o (e'::e::kept) where
 lt:=w.lt
 rd:=w.rd
 room:=w.room
 next:=w.next
 same:=w.same
 kp:=⟨w.kp.2.1,w.kp.1,w.kp.2.2⟩
 ok x hx:=w.ok x (by simp at hx ⊢;rcases hx with h | h | h <;> simp [h])
 dis:=by
  have:=w.dis
  simp only [List.pairwise_cons,oqf,forall_eq_or_imp] at this ⊢
  exact ⟨⟨Ne.symm this.1.1,this.2.1⟩,this.1.2,this.2.2⟩
theorem RS.rdset {h0 h:H} {q:Nat} {o:Option BL} {kept:List (Nat × Blk)} (w:RS h0 h q o kept) (o':Option BL) (hl:(ls o').length ≤ 1099511627776):RS h0 (h.set q (rdB o')) q o' kept where
 lt:=w.lt
 rd:=by simp
 room:=hl
 next:=w.next
 same c hc hq:=by rw [p0,if_neg hq];exact w.same c hc hq
 kp:=S2 (fun e he=>by rw [p0,if_neg (w.ok e he).2]) w.kp
 ok e he:=w.ok e he
 dis:=w.dis
theorem RS.trans {h0 h h':H} {q:Nat} {o o':Option BL} {kept:List (Nat × Blk)} (w:RS h0 h q o kept) (v:RS h h' q o' []):RS h0 h' q o' kept where
 lt:=w.lt
 rd:=v.rd
 room:=v.room
 next:=Nat.le_trans w.next v.next
 same b hb hq:=by rw [v.same b (oqp hb w.next) hq,w.same b hb hq]
 kp:=S2 (fun e he=>v.same _ (w.ok e he).1 (w.ok e he).2) w.kp
 ok e he:=⟨oqp (w.ok e he).1 v.next,(w.ok e he).2⟩
 dis:=w.dis
def c0L (x:Nat):List (Nat × Blk)→Prop
 | []=>True
 | e::l=>(¬ x = e.1∧¬ e.1 = x)∧c0L x l
def d0Q:List (Nat × Blk)→Prop
 | []=>True
 | e::l=>c0L e.1 l∧d0Q l
theorem f0G {x:Nat}:∀ {l:List (Nat × Blk)},(∀ e ∈ l,x ≠ e.1)→c0L x l
 | [],_=>trivial
 | e::l,h=>⟨⟨h e (by simp),Ne.symm (h e (by simp))⟩,f0G fun a ha=>h a (by simp [ha])⟩
theorem l0v:∀ {l:List (Nat × Blk)},l.Pairwise (fun a b=>a.1 ≠ b.1)→d0Q l
 | [],_=>trivial
 | e::l,h=>⟨f0G (List.pairwise_cons.1 h).1,l0v (List.pairwise_cons.1 h).2⟩
def g0k (h:H) (q:Nat) (kept:List (Nat × Blk)):Prop:=F6 h kept∧c0L h.next kept∧c0L q kept∧d0Q kept
theorem RS.facts {h0 h:H} {q:Nat} {o:Option BL} {kept:List (Nat × Blk)} (w:RS h0 h q o kept):g0k h q kept :=
 ⟨w.kp,f0G fun e he=>by have:=(w.ok e he).1;omega,f0G fun e he=>Ne.symm (w.ok e he).2,l0v w.dis⟩
def g0Q {α:Type} (tp q:Nat) (h:H) (enc:α→AV) (x:Option (α × BL)) (r:CR):Prop :=
 match x with
 | some (v,l)=>∃ h',r = .ret (enc v) h'∧RS h h' q (some l) []
 | none=>∃ h' o',r = .pan (.ifc tp (.ptr q 0 0)) h'∧RS h h' q o' []
def f0S {α:Type} (C:Conf) (tp f:Nat) (rest:List AV) (p:BL→Option (α × BL)) (enc:α→AV):Prop :=
 ∀ h q o,RS h h q o []→∃ r,W C f (.one (.ptr q 0 0)::rest) h = some r∧g0Q tp q h enc (p (ls o)) r
theorem c0d {α:Type} {C:Conf} {tp f:Nat} {rest:List AV} {p:BL→Option (α × BL)} {enc:α→AV} (hr:f0S C tp f rest p enc) {h0 h:H} {q:Nat} {o:Option BL} {kept:List (Nat × Blk)} (w:RS h0 h q o kept)
  {K:AV→H→Prop} {Kp:AS→H→Prop} (hs:∀ v l h',p (ls o) = some (v,l)→RS h0 h' q (some l) kept→g0k h' q kept→K (enc v) h') (hf:p (ls o) = none→∀ h' o',RS h0 h' q o' kept→Kp (.ifc tp (.ptr q 0 0)) h') :
  onR ((W C f (.one (.ptr q 0 0)::rest) h).bind crO) K Kp:=by
 have hq:q < h.next:=oqp w.lt w.next
 obtain ⟨r,e,hx⟩:=hr h q o (RS.start hq w.rd w.room)
 rw [e]
 unfold g0Q at hx
 split at hx
 ·rename_i v l hp
  obtain ⟨h',rfl,w'⟩:=hx
  simp only [oqS,n0v,n0y]
  exact hs v l h' hp (w.trans w') (w.trans w').facts
 ·rename_i hp
  obtain ⟨h',o',rfl,w'⟩:=hx
  simp only [oqS,z0O,z0D]
  exact hf hp h' o' (w.trans w')
theorem j0z {α:Type} {tp q:Nat} {h h':H} {enc:α→AV} {x:Option (α × BL)} {v:α} {l:BL} {a:AV} {kept:List (Nat × Blk)} (hx:x = some (v,l)) (w:RS h h' q (some l) kept) (ha:a = enc v):g0Q tp q h enc x (.ret a h'):=by subst hx;subst ha;exact ⟨h',rfl,w.drop⟩
theorem w0j {α:Type} {tp q:Nat} {h h':H} {enc:α→AV} {x:Option (α × BL)} {v:α} {l:BL} {a:AV} {kept:List (Nat × Blk)} (w:RS h h' q (some l) kept) (hx:x = some (v,l)) (ha:a = enc v):g0Q tp q h enc x (.ret a h'):=j0z hx w ha
theorem g0P {α:Type} {tp q:Nat} {h h':H} {enc:α→AV} {x:Option (α × BL)} {o':Option BL} {kept:List (Nat × Blk)} (hx:x = none) (w:RS h h' q o' kept):g0Q tp q h enc x (.pan (.ifc tp (.ptr q 0 0)) h'):=by subst hx;exact ⟨h',o',rfl,w.drop⟩
def v0Z:BL→Option (UInt8 × BL)
 | b::l=>some (b,l)
 | []=>none
def l0l (k:Nat) (l:BL):Option (Nat × BL):=if k ≤ l.length then some (f0N (l.take k),l.drop k) else none
def j0y (most:Nat) (l:BL):Option (BL × BL) :=
 (l0l 4 l).bind fun x=>if 1048576 < x.1 ∨ most < x.1 then none else if x.1 ≤ x.2.length then some (x.2.take x.1,x.2.drop x.1) else none
theorem c0i (b:UInt8) (l:BL):v0Z (b::l) = some (b,l):=rfl
theorem d0u {k n:Nat} (h:n < 256 ^ k) (l:BL):l0l k (be k n++l) = some (n,l):=by
 have hb:=g9 k n
 unfold l0l
 rw [if_pos (by simp [hb]),List.take_left' hb,List.drop_left' hb,z0x h]
theorem b0k {most:Nat} {x:BL} (h:x.length ≤ most) (hm:most ≤ 1048576) (l:BL):j0y most (D7 x++l) = some (x,l):=by
 unfold j0y D7
 rw [oqh,d0u (by omega)]
 simp only [oqS]
 rw [if_neg (by omega),if_pos (by simp)]
 simp
end Go.Ab
namespace Wm
open Go Go.Ab
def F9 {α:Type} (r:α→α→Bool):List α→Bool
 | a::b::l=>r a b && F9 r (b::l)
 | _=>true
section
variable {α:Type} {r:α→α→Bool}
@[simp] theorem C0U:F9 r [] = true:=rfl
@[simp] theorem D0l (a:α):F9 r [a] = true:=rfl
theorem k0H (l:List α) (y x:α):F9 r (l++[y,x]) = (F9 r (l++[y]) && r y x):=by
 induction l with
 | nil=>simp [F9]
 | cons a l ih =>
  cases l with
  | nil=>simp [F9]
  | cons b l=>simp only [oqm,F9] at ih ⊢;rw [ih,Bool.and_assoc]
theorem l0V {l:List α} {y x:α} {q:List α} (h:r y x = false):F9 r (l++y::x::q) = false:=by
 induction l with
 | nil=>simp [F9,h]
 | cons a l ih =>
  cases l with
  | nil=>simp [F9,h]
  | cons b l=>simp only [oqm,F9] at ih ⊢;rw [ih,Bool.and_false]
theorem c0r {l q:List α} (h:F9 r (l++q) = true):F9 r l = true:=by
 induction l with
 | nil=>rfl
 | cons a l ih =>
  cases l with
  | nil=>rfl
  | cons b l =>
   simp only [oqm,F9,oqd] at h ih ⊢
   exact ⟨h.1,ih h.2⟩
theorem d0r {a:α} {l:List α} (h:F9 r (a::l) = true):F9 r l = true:=by
 cases l with
 | nil=>rfl
 | cons b l=>simp only [F9,oqd] at h;exact h.2
theorem a0C {l q:List α} (h:F9 r (l++q) = true):F9 r q = true:=by
 induction l with
 | nil=>exact h
 | cons a l ih=>exact ih (d0r h)
theorem b0m (ht:∀ a b c,r a b = true→r b c = true→r a c = true):∀ {a:α} {l:List α},F9 r (a::l) = true→∀ x ∈ l,r a x = true
 | a,[],_,x,hx=>by simp at hx
 | a,b::l,h,x,hx=>by
  simp only [F9,oqd] at h
  rcases oqf.1 hx with rfl | hx
  ·exact h.1
  ·exact ht _ _ _ h.1 (b0m ht h.2 x hx)
theorem b0h {β:Type} {s:β→β→Bool} {f:α→β} (hf:∀ a b,s (f a) (f b) = r a b):∀ l:List α,F9 s (l.map f) = F9 r l
 | []=>rfl
 | [_]=>rfl
 | a::b::l=>by
  have:=b0h hf (b::l)
  simp only [List.map_cons,F9,hf] at this ⊢
  rw [this]
end
theorem g0q {α:Type} (l:List α):l = [] ∨ ∃ a x,l = a++[x]:=by
 cases h:l.reverse with
 | nil=>left;simpa using h
 | cons x a=>right;exact ⟨a.reverse,x,by rw [← List.reverse_reverse l,h];simp⟩
def a0Y (x:Version):Bool:=!decide (x.time < 0) && (!decide (1099511627776 < x.time) && Q0 x.v)
def c0v (a b:Version):Bool:=!decide (a.time ≤ b.time)
def d0X (a b:Column):Bool:=blt a.name b.name
def a0t (c:Column):Bool:=I6 c.name && (decide (1 ≤ (ls c.l).length) && decide ((ls c.l).length ≤ 2)) && ((ls c.l).all a0Y && F9 c0v (ls c.l))
def P3 (o:Row):Bool:=(ls o).all a0t && F9 d0X (ls o) && decide ((ls o).length ≤ 4)
def J4 (v:Value):Value:=if v.kind = 1 then ⟨1,v.b,0⟩ else if v.kind = 2 then ⟨2,none,b0n v.n⟩ else ⟨0,none,0⟩
def X7 (x:Version):Version:=⟨x.time,J4 x.v⟩
def S3 (c:Column):Column:=⟨c.name,nz ((ls c.l).map X7)⟩
def rowCopy (o:Row):Row:=if P3 o then nz ((ls o).map S3) else none
theorem l0U (b:Nat):b0n (b0n b) = b0n b:=by
 unfold b0n
 by_cases h:NumPlain.isN b = true
 ·rw [if_pos h,if_pos (by decide +kernel)]
 ·rw [if_neg h,if_neg h]
theorem o0w (v:Value):J4 (J4 v) = J4 v:=by
 unfold J4
 by_cases h1:v.kind = 1
 ·simp [h1]
 ·by_cases h2:v.kind = 2
  ·simp [h2,l0U]
  ·simp [h1,h2]
theorem t0d {v:Value} (h:Q0 v = true):Q0 (J4 v) = true:=by
 unfold Q0 J4 at *
 by_cases h1:v.kind = 1
 ·simp [h1] at h ⊢;exact h
 ·by_cases h2:v.kind = 2
  ·simp [h2]
  ·simp [h1,h2] at h
theorem o0F (x:Version):X7 (X7 x) = X7 x:=by simp [X7,o0w]
theorem t0R {x:Version} (h:a0Y x = true):a0Y (X7 x) = true:=by
 simp only [a0Y,oqd] at h ⊢
 exact ⟨h.1,h.2.1,t0d h.2.2⟩
theorem o0s (c:Column):S3 (S3 c) = S3 c:=by
 simp only [S3,a0d,List.map_map]
 congr 2
 apply List.map_congr_left
 intro x _;exact o0F x
theorem s0C {c:Column} (h:a0t c = true):a0t (S3 c) = true:=by
 simp only [a0t,oqd,S3,a0d,oqi] at h ⊢
 refine ⟨h.1, ?_, ?_⟩
 ·rw [List.all_map,oqn]
  intro x hx
  exact t0R (oqn.1 h.2.1 x hx)
 ·rw [b0h (r:=c0v) (f:=X7) (fun a b=>rfl)];exact h.2.2
theorem z0b (l:List Column):P3 (nz l) = P3 (some l):=by cases l <;> simp [P3]
theorem L5 (o:Row):P3 (rowCopy o) = true:=by
 unfold rowCopy
 split
 ·rename_i h
  rw [z0b]
  simp only [P3,oqd,H1,oqi] at h ⊢
  refine ⟨⟨?_, ?_⟩,h.2⟩
  ·rw [List.all_map,oqn]
   intro x hx
   exact s0C (oqn.1 h.1.1 x hx)
  ·rw [b0h (r:=d0X) (f:=S3) (fun a b=>rfl)];exact h.1.2
 ·rfl
theorem Y2 (o:Row):rowCopy (rowCopy o) = rowCopy o:=by
 have h:=L5 o
 have e:rowCopy (rowCopy o) = nz ((ls (rowCopy o)).map S3):=by rw [rowCopy.eq_1 (rowCopy o),if_pos h]
 rw [e]
 unfold rowCopy
 split
 ·simp only [a0d,List.map_map]
  congr 1
  apply List.map_congr_left
  intro x _;exact o0s x
 ·rfl
theorem n0q:rowCopy none = none:=rfl
def L6 (l:List Column) (n:BL):Nat:=(l.takeWhile fun c=>blt c.name n).length
def Z3 (l:List Column) (n:BL):Bool:=match l[L6 l n]? with | some c=>c.name == n | none=>false
def d0L (l:List Version) (t:Int) (v:Value):List Version :=
 let m:=l.filter fun x=>!(x.time == t)
 (m.insertIdx (m.takeWhile fun x=>decide (t < x.time)).length ⟨t,J4 v⟩).take 2
def b0B (l:List Column) (i:Nat) (n:BL) (f:List Version→List Version):List Column:=l.take i++⟨n,some (f (ls ((l[i]?).bind (·.l))))⟩::l.drop (i + 1)
def S8 (r:Row) (n:BL) (t:Int) (v:Value):Row × Int :=
 if (I6 n && (!decide (t < 0) && (!decide (1099511627776 < t) && Q0 v))) = false then (none,1) else
 let out:=ls (rowCopy r)
 if Z3 out n = false∧out.length = 4 then (none,13) else
 let out1:=if Z3 out n then out else out.insertIdx (L6 out n) ⟨n,none⟩
 (rowCopy (some (b0B out1 (L6 out n) n fun l=>d0L l t v)),0)
def a0T (r:Row) (n:BL) (t:Int):Row :=
 let out:=ls (rowCopy r)
 if Z3 out n = false then rowCopy r else
 let l:=(ls ((out[L6 out n]?).bind (·.l))).filter fun x=>!(x.time == t)
 if l = [] then rowCopy (some (out.eraseIdx (L6 out n))) else rowCopy (some (b0B out (L6 out n) n fun _=>l))
def V0 (r:Row) (n:BL):Row :=
 let out:=ls (rowCopy r)
 if Z3 out n = false then rowCopy (rowCopy r) else rowCopy (some (out.eraseIdx (L6 out n)))
theorem u0y {α:Type} {p:α→Bool}:∀ {l:List α} {k:Nat} (hk:k < (l.takeWhile p).length) (hl:k < l.length),p l[k] = true
 | [],k,hk,_=>by simp at hk
 | a::l,k,hk,hl=>by
  cases ha:p a with
  | false=>simp [ha] at hk
  | true =>
   simp only [List.takeWhile_cons,ha,if_true,oqb] at hk
   cases k with
   | zero=>exact ha
   | succ k=>exact u0y (l:=l) (k:=k) (by omega) (by simpa using hl)
theorem A0E {α:Type} {p:α→Bool}:∀ {l:List α} (h:(l.takeWhile p).length < l.length),p l[(l.takeWhile p).length] = false
 | [],h=>by simp at h
 | a::l,h=>by
  cases ha:p a with
  | false=>simp [ha]
  | true =>
   simp only [List.takeWhile_cons,ha,if_true,oqb] at h ⊢
   have:=A0E (l:=l) (p:=p) (by omega)
   simpa using this
theorem k0A {α:Type} (p:α→Bool):∀ l:List α,(l.takeWhile p).length ≤ l.length
 | []=>oqg _
 | a::l=>by
  simp only [List.takeWhile_cons]
  split
  ·have:=k0A p l;simp;exact this
  ·simp
end Wm
namespace Wm
open Go Go.Ab
def zV:Value:=⟨0,none,0⟩
def g0W:Option Version→Value × Bool
 | some x=>(x.v,true)
 | none=>(zV,false)
def f0d (o:Row) (n:BL) (t:Int):Value × Bool :=
 let out:=ls (rowCopy o)
 if Z3 out n = false then (zV,false) else
 g0W ((ls ((out[L6 out n]?).bind (·.l))).find? (fun x=>decide (x.time ≤ t)))
def M4 (o:Row) (n:BL):Value × Bool:=f0d o n 1099511627776
def t0I (a b:Nat):Nat:=match (FloatKind.format .f64).add a b with | some r=>b0n r | none=>9221120237041090561
def N8 (a b:Value):Value × Int:=if a.kind = 2∧b.kind = 2 then (⟨2,none,t0I a.n b.n⟩,0) else (zV,24)
def o0o (x:Nat):Int:=if l0g .u64 (b0n x) 9223372036854775808 = 0 then orI .u64 (b0n x) 9223372036854775808 else u0Q .u64 (b0n x)
def B0f (a b:Nat):Int:=if o0o a < o0o b then -1 else if o0o b < o0o a then 1 else 0
def k0E (a b:Int):Int:=if a < b then -1 else if b < a then 1 else 0
def o0y (a b:Value):Int :=
 let x:=J4 a
 let y:=J4 b
 if x.kind ≠ y.kind then k0E x.kind y.kind else if x.kind = 1 then X6 (ls x.b) (ls y.b) else if x.kind = 2 then B0f x.n y.n else 0
def W8 (r:Row) (c:Change):Row × Int :=
 if c.kind = 1 then S8 r c.col c.time c.v
 else if c.kind = 2 then (a0T r c.col c.time,0)
 else if c.kind = 3 then (V0 r c.col,0)
 else if c.kind = 4 then (none,0)
 else
  let w:=M4 r c.col
  let p:=N8 (if w.2 then w.1 else ⟨2,none,9223372036854775808⟩) c.v
  if p.2 = 0 then S8 r c.col c.time p.1 else (none,p.2)
def W9:Row→List Change→Row × Int
 | r,[]=>(r,0)
 | r,c::l=>let p:=W8 r c;if p.2 = 0 then W9 p.1 l else (none,p.2)
def f0w (r:Row) (l:List Change):Option Change→Row × Int
 | some c=>(none,F0 c)
 | none=>W9 (rowCopy r) l
def apply (r:Row) (l:List Change):Row × Int:=if 8 < l.length then (none,3) else f0w r l (l.find? fun c=>F0 c != 0)
def holds (r:Row) (c:Cond):Bool:=!c.has || (if c.want then (M4 r c.col).2 && o0y (M4 r c.col).1 c.v == 0 else !(M4 r c.col).2)
end Wm
namespace Go.Ab
open Wm
def Bx {α:Type} (h:H) (p size:Nat) (enc:α→List AS) (l:List α) (q:Option Nat):Prop:=p < h.next∧∃ s,h.f p = some ⟨0,[1],true,[s]⟩∧Sl h size enc s l∧z0 s = q∧q ≠ some p
section
variable {α:Type} {h h':H} {p size:Nat} {enc:α→List AS} {l:List α} {q:Option Nat}
theorem Bx.keep (a:Bx h p size enc l q) (hn:h.next ≤ h'.next) (hp:h'.f p = h.f p) (hq:∀ b,q = some b→h'.f b = h.f b):Bx h' p size enc l q:=by
 obtain ⟨h1,s,h2,h3,h4,h5⟩:=a
 exact ⟨by omega,s,by rw [hp];exact h2,h3.keep hn fun b hb=>hq b (by rw [← h4];exact hb),h4,h5⟩
theorem Bx.lt (a:Bx h p size enc l q) {b:Nat} (hb:q = some b):b < h.next:=by
 obtain ⟨h1,s,h2,h3,h4,h5⟩:=a
 exact h3.lt (h4.trans hb)
theorem Bx.new (a:Bx h p size enc l q) (k:Blk):Bx (h.new k) p size enc l q:=a.keep (by simp) (u4 (by have:=a.1;omega)) fun b hb=>u4 (by have:=a.lt hb;omega)
end
end Go.Ab
namespace Wm
open Go Go.Ab
theorem d0n (a b:BL):X6 a b < 0 ↔ blt a b = true:=by
 unfold X6 blt
 cases h:Op.bytesLess a b <;> simp
 split <;> simp
theorem m0R (a b:BL):(X6 a b == 0) = (a == b):=by
 unfold X6
 cases h:Op.bytesLess a b with
 | true =>
  have:(a == b) = false:=by simp;rintro rfl;rw [X9] at h;cases h
  simp [this]
 | false=>cases h2:(a == b) <;> simp
theorem n0J {α:Type} {lt:α→α→Bool} {p:α→Bool} (ht:∀ a b c,lt a b = true→lt b c = true→lt a c = true) (hp:∀ a b,lt a b = true→p b = true→p a = true):∀ {l:List α} (hs:F9 lt l = true) (i:Nat) (hi:i < l.length),i < (l.takeWhile p).length ↔ p l[i] = true
 | [],_,i,hi=>by simp at hi
 | c::l,hs,i,hi=>by
  cases hc:p c with
  | true =>
   simp only [List.takeWhile_cons,hc,if_true,oqb]
   cases i with
   | zero=>simp [hc]
   | succ i =>
    have:=n0J ht hp (l:=l) (d0r hs) i (by simpa using hi)
    simp only [List.getElem_cons_succ]
    rw [← this];omega
  | false =>
   simp only [List.takeWhile_cons,hc,oqF,if_false,oqc,Nat.not_lt_zero,false_iff]
   cases i with
   | zero=>simp [hc]
   | succ i =>
    simp only [List.getElem_cons_succ]
    intro hx
    have h1:=b0m ht hs _ (List.getElem_mem (by simpa using hi:i < l.length))
    rw [hp _ _ h1 hx] at hc;cases hc
theorem U0 (a b c:BL) (h1:blt a b = true) (h2:blt b c = true):blt a c = true:=g0f h1 h2
def d0G (a b:Named):Bool:=blt a.name b.name
def tix (l:List Named) (n:BL):Nat:=(l.takeWhile fun c=>blt c.name n).length
def tat (l:List Named) (n:BL):Bool:=match l[tix l n]? with | some c=>c.name == n | none=>false
def cpN (x:Named):Named:=⟨x.name,rowCopy x.r⟩
theorem d0e (l:List Named) (n:BL):tix l n ≤ l.length:=k0A _ _
theorem m0T {l:List Named} (hs:F9 d0G l = true) (n:BL) (i:Nat) (hi:i < l.length):i < tix l n ↔ X6 l[i].name n < 0:=by
 rw [d0n]
 exact n0J (lt:=d0G) (p:=fun c=>blt c.name n) (fun a b c h1 h2=>U0 _ _ _ h1 h2) (fun a b h1 h2=>U0 _ _ _ h1 h2) hs i hi
theorem j0e {l:List Named} {n:BL} (h:tat l n = true):∃ hi:tix l n < l.length,l[tix l n].name = n:=by
 unfold tat at h
 cases hg:l[tix l n]? with
 | none=>rw [hg] at h;cases h
 | some c =>
  obtain ⟨hi,e⟩:=List.getElem?_eq_some_iff.1 hg
  rw [hg] at h
  exact ⟨hi,by rw [e];simpa using h⟩
def W7 (l:List Named) (n:BL):Row × Bool:=if tat l n then (rowCopy ((l[tix l n]?).bind (·.r)),true) else (none,false)
structure TblOk (l:List Named):Prop where
 srt:F9 d0G l = true
 nm:∀ x ∈ l,I6 x.name = true
 row:∀ x ∈ l,rowCopy x.r = x.r∧x.r ≠ none
 len:l.length ≤ 32
def f0k (l:List Named) (n:BL) (r:Row):List Named × Int :=
 if (I6 n && P3 r) = false then (l,1) else
 if ls r = [] then (if tat l n then l.eraseIdx (tix l n) else l,0) else
 if tat l n then (l.set (tix l n) ⟨n,rowCopy r⟩,0) else
 if 32 ≤ l.length then (l,13) else (l.insertIdx (tix l n) ⟨n,rowCopy r⟩,0)
def T8 (l:List Named) (lo hi:BL) (most:Int):List Named × BL :=
 let m:=(max 0 (min most 16)).toNat
 let i:=tix l lo
 let e:=if hi = [] then l.length else tix l hi
 if e ≤ i then ([],[]) else
 let s:=(l.take e).drop i
 if s.length ≤ m then (s,[]) else (s.take m,match s[m]? with | some x=>x.name | none=>[])
end Wm
namespace Wm
open Go Go.Ab
structure Tld where
 client:Int
 seq:Int
 b:Option BL
def G9 (t:Tld):List AS:=[ii t.client,ii t.seq,bs t.b]
theorem a0S (t:Tld):(G9 t).length = 3:=rfl
def b0y (a b:Tld):Bool:=decide (a.client < b.client)
def cix (l:List Tld) (c:Int):Nat:=(l.takeWhile fun x=>decide (x.client < c)).length
def g0B (l:List Tld) (c:Int):Bool:=match l[cix l c]? with | some x=>x.client == c | none=>false
theorem m0N (l:List Tld) (c:Int):cix l c ≤ l.length:=k0A _ _
theorem B0a {l:List Tld} (hs:F9 b0y l = true) (c:Int) (i:Nat) (hi:i < l.length):i < cix l c ↔ k0E l[i].client c < 0:=by
 have h1:(k0E l[i].client c < 0) ↔ (decide (l[i].client < c) = true):=by
  unfold k0E
  by_cases h:l[i].client < c
  ·simp [h]
  ·rw [if_neg h];split <;> simp [h]
 rw [h1]
 refine n0J (lt:=b0y) (p:=fun x=>decide (x.client < c)) (fun a b c h1 h2=>?_) (fun a b h1 h2=>?_) hs i hi
 ·simp only [b0y,oqj] at *;omega
 ·simp only [b0y,oqj] at *;omega
theorem x0T (a b:Int):(k0E a b == 0) = (a == b):=by
 unfold k0E
 by_cases h1:a < b
 ·rw [if_pos h1];have:(a == b) = false:=by simp;omega
  rw [this];rfl
 ·rw [if_neg h1]
  by_cases h2:b < a
  ·rw [if_pos h2];have:(a == b) = false:=by simp;omega
   rw [this];rfl
  ·rw [if_neg h2];have:(a == b) = true:=by simp;omega
   rw [this];rfl
theorem j0f {l:List Tld} {c:Int} (h:g0B l c = true):∃ hi:cix l c < l.length,l[cix l c].client = c:=by
 unfold g0B at h
 cases hg:l[cix l c]? with
 | none=>rw [hg] at h;cases h
 | some x =>
  obtain ⟨hi,e⟩:=List.getElem?_eq_some_iff.1 hg
  rw [hg] at h
  exact ⟨hi,by rw [e];simpa using h⟩
def b0V (l:List Tld) (c s:Int):Option BL × Int :=
 let x:=(l[cix l c]?).getD ⟨0,0,none⟩
 if s < 1 ∨ (g0B l c = true∧s < x.seq) then (none,3) else if g0B l c = true∧s = x.seq then (x.b,2) else (none,1)
def b0e (c s:Int) (b:Option BL):Bool:=decide (0 ≤ c) && (decide (c ≤ 255) && (decide (1 ≤ s) && (decide (s ≤ 1073741824) && decide ((ls b).length ≤ 1048576))))
def X4 (l:List Tld) (c s:Int) (b:Option BL):List Tld × Bool :=
 if (b0V l c s).2 ≠ 1 ∨ b0e c s b = false then (l,false) else
 if g0B l c then (l.set (cix l c) ⟨c,s,b⟩,true) else (l.insertIdx (cix l c) ⟨c,s,b⟩,true)
structure CchOk (l:List Tld):Prop where
 srt:F9 b0y l = true
 ok:∀ x ∈ l,b0e x.client x.seq x.b = true
 len:l.length ≤ 256
def j0B (l m:List Tld):List Tld:=m.foldl (fun a x=>(X4 a x.client x.seq x.b).1) l
end Wm
