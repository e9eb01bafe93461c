/- Data that are lists; what is written, grown, frozen; the program's own things in plain Lean. No conditions. -/
import Ieee.Arith
import Derived.Test.YtiagcnfmgigllaaGreatAb3
import Derived.Test.YtiagcnfmgigllaaGreatAb4
import Derived.Test.YtiagcnfmgigllaaGreatAb2
import Derived.Test.YtiagcnfmgigllaaGreatAbI
set_option linter.all false
namespace NumPlain
open Ieee
abbrev D:=Ieee.double
def SW:Nat:=9223372036854775808
def BN:Nat:=4503599627370496
def INF:Nat:=9218868437227405312
theorem A0W:D.signWeight = SW:=by decide
theorem G0b:D.binade = BN:=by decide
theorem o0f:D.infRung = INF:=by decide
theorem w0f:D.leastPlace = -1074:=by decide
def M7 (a:Nat):Nat:=a % SW
def neg (a:Nat):Bool:=a / SW % 2 == 1
def isN (a:Nat):Bool:=decide (INF < M7 a)
theorem o0x (a:Nat):D.read a = if M7 a < BN then .number (neg a) (M7 a) (-1074) else if M7 a < INF then .number (neg a) (BN + M7 a % BN) (-1074 + (M7 a / BN - 1:Nat)) else if M7 a = INF then .infinity (neg a) else .nan (neg a) (M7 a - INF):=by
 unfold Format.read
 simp only [A0W,G0b,o0f,w0f,M7,neg]
 rfl
def V (r:Nat):Nat:=if r < BN then r else (BN + r % BN) * 2 ^ (r / BN - 1)
theorem y0p {r q:Nat} (h:r < q):V r < V q:=by
 unfold V
 have hb:0 < BN:=by decide
 by_cases h1:r < BN <;> by_cases h2:q < BN
 ·rw [if_pos h1,if_pos h2];exact h
 ·rw [if_pos h1,if_neg h2]
  have:1 <= 2 ^ (q / BN - 1):=Nat.one_le_two_pow
  calc r < BN:=h1
   _ <= BN + q % BN:=Nat.le_add_right _ _
   _ = (BN + q % BN) * 1:=(Nat.mul_one _).symm
   _ <= _:=Nat.mul_le_mul_left _ this
 ·omega
 ·rw [if_neg h1,if_neg h2]
  have hd:r / BN <= q / BN:=Nat.div_le_div_right (by omega)
  have e1:=Nat.div_add_mod r BN
  have e2:=Nat.div_add_mod q BN
  rcases Nat.eq_or_lt_of_le hd with he | hlt
  ·rw [he]
   have:r % BN < q % BN:=by rw [he] at e1;omega
   exact Nat.mul_lt_mul_of_pos_right (by omega) (Nat.two_pow_pos _)
  ·have hr1:1 <= r / BN:=Nat.div_pos (by omega) hb |> fun h=>h
   obtain ⟨k,hk⟩:∃ k,q / BN - 1 = (r / BN - 1) + 1 + k:=⟨q / BN - 1 - (r / BN - 1) - 1,by omega⟩
   rw [hk,Nat.pow_add,Nat.pow_add,Nat.pow_one]
   have hm:r % BN < BN:=Nat.mod_lt _ hb
   have hp:0 < 2 ^ (r / BN - 1):=Nat.two_pow_pos _
   have hk1:1 <= 2 ^ k:=Nat.one_le_two_pow
   calc (BN + r % BN) * 2 ^ (r / BN - 1) < (BN * 2) * 2 ^ (r / BN - 1):=Nat.mul_lt_mul_of_pos_right (by omega) hp
    _ = BN * (2 ^ (r / BN - 1) * 2):=by rw [Nat.mul_assoc,Nat.mul_comm 2]
    _ <= (BN + q % BN) * (2 ^ (r / BN - 1) * 2 * 2 ^ k):=Nat.mul_le_mul (Nat.le_add_right _ _) (by
      calc 2 ^ (r / BN - 1) * 2 = 2 ^ (r / BN - 1) * 2 * 1:=(Nat.mul_one _).symm
       _ <= _:=Nat.mul_le_mul_left _ hk1)
theorem G0B {r q:Nat} (h:V r = V q):r = q:=by
 rcases Nat.lt_trichotomy r q with h1 | h1 | h1
 ·have:=y0p h1;omega
 ·exact h1
 ·have:=y0p h1;omega
theorem q0y {r q:Nat}:V r < V q ↔ r < q:=⟨fun h=>by
 rcases Nat.lt_trichotomy r q with h1 | h1 | h1
 ·exact h1
 ·subst h1;omega
 ·have:=y0p h1;omega,y0p⟩
theorem V_zero:V 0 = 0:=by decide
def mag (r:Nat):Nat:=if r < BN then r else BN + r % BN
def sh (r:Nat):Nat:=if r < BN then 0 else r / BN - 1
theorem I0d (r:Nat):V r = mag r * 2 ^ sh r:=by
 unfold V mag sh;split <;> simp
theorem d0a {a:Nat} (h:M7 a < INF):D.read a = .number (neg a) (mag (M7 a)) (-1074 + (sh (M7 a):Nat)):=by
 rw [o0x]
 unfold mag sh
 split
 ·simp
 ·simp [h]
theorem f0B {a:Nat} (h:M7 a = INF):D.read a = .infinity (neg a):=by
 rw [o0x,if_neg (by rw [h];decide),if_neg (by omega),if_pos h]
theorem q0t {a:Nat} (h:INF < M7 a):D.read a = .nan (neg a) (M7 a - INF):=by
 rw [o0x,if_neg (by have:BN < INF:=(by decide);omega),if_neg (by omega),if_neg (by omega)]
def sg (s:Bool) (n:Nat):Int:=if s then -(n:Int) else n
theorem u0g (s:Bool) (m k:Nat):signed s m k = sg s (m * 2 ^ k):=by
 unfold signed sg;simp only [Nat.shiftLeft_eq]
def k0A (a:Nat):Int:=sg (neg a) (M7 a)
theorem z0l {a b:Int} (c:Ordering) (h:match c with | .lt=>a < b | .eq=>a = b | .gt=>b < a):compare a b = c:=by
 cases c <;> simp only at h
 ·exact Int.compare_eq_lt.2 h
 ·exact Int.compare_eq_eq.2 h
 ·exact Int.compare_eq_gt.2 h
theorem t0p {a b c d:Int} (h1:a < b ↔ c < d) (h2:b < a ↔ d < c):compare a b = compare c d:=by
 rcases Int.lt_trichotomy c d with h | h | h
 ·rw [Int.compare_eq_lt.2 h,Int.compare_eq_lt.2 (h1.2 h)]
 ·have:a = b:=by omega
  rw [Int.compare_eq_eq.2 h,Int.compare_eq_eq.2 this]
 ·rw [Int.compare_eq_gt.2 h,Int.compare_eq_gt.2 (h2.2 h)]
theorem B0g {s t:Bool} {m n:Nat} (p q:Nat) (h1:m < n ↔ p < q) (h2:n < m ↔ q < p) (hm:m = 0 ↔ p = 0) (hn:n = 0 ↔ q = 0):(sg s m < sg t n ↔ sg s p < sg t q):=by
 unfold sg;cases s <;> cases t <;> simp <;> omega
theorem u0w {a b:Nat} (ha:M7 a < INF) (hb:M7 b < INF):D.order a b = some (compare (k0A a) (k0A b)):=by
 unfold Format.order
 rw [d0a ha,d0a hb]
 simp only [Datum.order,u0g]
 have key:∀ (x y:Nat),((x:Int) + (-1074) - min (-1074 + (x:Int)) (-1074 + (y:Int))).toNat = x - min x y:=by intro x y;omega
 have e1:(-1074 + ((sh (M7 a):Nat):Int) - min (-1074 + ((sh (M7 a):Nat):Int)) (-1074 + ((sh (M7 b):Nat):Int))).toNat = sh (M7 a) - min (sh (M7 a)) (sh (M7 b)):=by omega
 have e2:(-1074 + ((sh (M7 b):Nat):Int) - min (-1074 + ((sh (M7 a):Nat):Int)) (-1074 + ((sh (M7 b):Nat):Int))).toNat = sh (M7 b) - min (sh (M7 a)) (sh (M7 b)):=by omega
 rw [e1,e2]
 congr 1
 have hs:∀ (r k:Nat),k <= sh r->mag r * 2 ^ (sh r - k) * 2 ^ k = V r:=by
  intro r k hk
  rw [I0d,Nat.mul_assoc,<- Nat.pow_add];congr 2;omega
 have h1:=hs (M7 a) (min (sh (M7 a)) (sh (M7 b))) (Nat.min_le_left _ _)
 have h2:=hs (M7 b) (min (sh (M7 a)) (sh (M7 b))) (Nat.min_le_right _ _)
 have hp:0 < 2 ^ min (sh (M7 a)) (sh (M7 b)):=Nat.two_pow_pos _
 generalize 2 ^ min (sh (M7 a)) (sh (M7 b)) = u at *
 generalize mag (M7 a) * 2 ^ (sh (M7 a) - min (sh (M7 a)) (sh (M7 b))) = x at *
 generalize mag (M7 b) * 2 ^ (sh (M7 b) - min (sh (M7 a)) (sh (M7 b))) = y at *
 have g1:x < y ↔ M7 a < M7 b:=by rw [<- q0y (r:=M7 a) (q:=M7 b),<- h1,<- h2];exact (Nat.mul_lt_mul_right hp).symm
 have g2:y < x ↔ M7 b < M7 a:=by rw [<- q0y (r:=M7 b) (q:=M7 a),<- h1,<- h2];exact (Nat.mul_lt_mul_right hp).symm
 have z:∀ (r x:Nat),x * u = V r->(x = 0 ↔ r = 0):=by
  intro r x h
  constructor
  ·intro hx;rw [hx,Nat.zero_mul] at h;exact (G0B (h.symm.trans V_zero.symm))
  ·intro hr;rw [hr,V_zero] at h
   rcases Nat.mul_eq_zero.1 h with h | h
   ·exact h
   ·omega
 exact t0p (B0g _ _ g1 g2 (z _ _ h1) (z _ _ h2)) (B0g _ _ g2 g1 (z _ _ h2) (z _ _ h1))
theorem h0j {a b:Nat} (ha:M7 a <= INF) (hb:M7 b <= INF):D.order a b = some (compare (k0A a) (k0A b)):=by
 rcases Nat.eq_or_lt_of_le ha with h1 | h1 <;> rcases Nat.eq_or_lt_of_le hb with h2 | h2
 ·unfold Format.order
  rw [f0B h1,f0B h2]
  simp only [Datum.order,k0A,h1,h2,sg]
  cases neg a <;> cases neg b <;> decide
 ·unfold Format.order
  rw [f0B h1,d0a h2]
  simp only [Datum.order,k0A,h1,sg]
  have:(0:Int) < INF:=by decide
  cases neg a <;> cases neg b <;> simp <;> symm <;> first | (apply Int.compare_eq_gt.2;omega) | (apply Int.compare_eq_lt.2;omega)
 ·unfold Format.order
  rw [f0B h2,d0a h1]
  simp only [Datum.order,k0A,h2,sg]
  have:(0:Int) < INF:=by decide
  cases neg a <;> cases neg b <;> simp <;> symm <;> first | (apply Int.compare_eq_gt.2;omega) | (apply Int.compare_eq_lt.2;omega)
 ·exact u0w h1 h2
theorem m0q {a b:Nat} (h:INF < M7 a \/ INF < M7 b):D.order a b = none:=by
 unfold Format.order
 rcases h with h | h
 ·rw [q0t h];rfl
 ·rw [q0t h];cases D.read a <;> rfl
theorem s0f (s:Bool) (r:Nat):D.word s r = if s then SW + r else r:=by unfold Format.word;rw [A0W]
theorem m0I (s:Bool) {r:Nat} (h:r < SW):M7 (D.word s r) = r:=by
 rw [s0f];unfold M7;cases s <;> simp
 ·exact Nat.mod_eq_of_lt h
 ·exact Nat.mod_eq_of_lt h
theorem s0W (s:Bool) {r:Nat} (h:r < SW):D.word s r < 2 ^ 64:=by
 have:(2:Nat) ^ 64 = SW + SW:=by decide
 rw [s0f,this];cases s <;> simp <;> omega
theorem o0z (s:Bool) (m:Nat) (p:Int):∃ r,r <= INF/\D.nearest s m p = D.word s r:=by
 unfold Format.nearest
 split
 ·exact ⟨0,by decide,rfl⟩
 ·exact ⟨_,by rw [o0f];exact Nat.min_le_right _ _,rfl⟩
theorem t0n:INF < SW:=by decide
theorem v0A {a b r:Nat} (h:D.add a b = some r):r < 2 ^ 64/\M7 r <= INF:=by
 have hi:=t0n
 unfold Format.add at h
 simp only [Option.map_eq_some_iff] at h
 obtain ⟨d,hd,rfl⟩:=h
 cases d with
 | number s m p =>
  obtain ⟨q,hq,e⟩:=o0z s m p
  simp only [Format.write,e]
  exact ⟨s0W s (by omega),by rw [m0I s (by omega)];exact hq⟩
 | infinity s =>
  simp only [Format.write,o0f]
  exact ⟨s0W s hi,by rw [m0I s hi];exact oqg _⟩
 | nan s f=>cases ha:D.read a <;> cases hb:D.read b <;> simp [ha,hb,Datum.sum] at hd
theorem x0Y (x y:Datum):x.sum y = y.sum x:=by
 cases x <;> cases y <;> simp only [Datum.sum]
 ·rename_i s m i t n j
  simp only [Int.min_comm i j,Int.add_comm (signed s m _) _,Bool.and_comm s t]
 ·rename_i s t
  cases s <;> cases t <;> rfl
theorem add_comm (a b:Nat):D.add a b = D.add b a:=by
 unfold Format.add;rw [x0Y]
theorem z0m {a b:Nat} (ha:M7 a = INF) (hb:M7 b < INF):D.add a b = some (D.word (neg a) INF):=by
 unfold Format.add
 rw [f0B ha,d0a hb]
 simp only [Datum.sum,Option.map_some,Format.write,o0f]
end NumPlain
namespace Go.Ab
@[simp] theorem k0b:H.empty.next = 0:=rfl
@[simp] theorem H0Q (b:Nat):H.empty.f b = none:=rfl
@[simp] theorem A6 (h:H) (k:Blk):(h.new k).next = h.next + 1:=rfl
@[simp] theorem b0f (h:H) (b:Nat) (k:Blk):(h.set b k).next = h.next:=rfl
@[simp] theorem L8 (h:H) (k:Blk) (b:Nat):(h.new k).f b = if b = h.next then some k else h.f b:=rfl
@[simp] theorem l0 (h:H) (b c:Nat) (k:Blk):(h.set b k).f c = if c = b then some k else h.f c:=rfl
@[simp] theorem H0x (h:H) (b:Nat) (k k':Blk):(h.set b k).set b k' = h.set b k':=by
 simp only [H.set];congr 1;funext x;split <;> rfl
@[simp] theorem n0R (h:H) (k k':Blk):(h.new k).set h.next k' = h.new k':=by
 simp only [H.set,H.new];congr 1;funext x;split <;> rfl
@[simp] theorem c0Z (h:H) (b v o n:Nat):K8 h (.ptr b v o) n = (h.f b).bind fun k=>(k.ext v).bind fun e=>if o + n <= e then sub k.cells o n else none:=rfl
@[simp] theorem G0W (h:H) (cells:List AS) (o n:Nat):K8 h (.rp cells o) n = sub cells o n:=rfl
@[simp] theorem a0O (h:H) (b v o:Nat) (l:List AS):b0n h (.ptr b v o) l = (h.f b).bind fun k=>(k.ext v).bind fun e=>if v = k.ver/\o + l.length <= e/\e = k.cells.length then some (h.set b ⟨k.ver,[e],k.fixed,lay k.cells o l⟩) else none:=rfl
attribute [simp] Blk.ext F0
theorem wrap_i64 {x:Int} (h1:-9223372036854775808 <= x) (h2:x < 9223372036854775808):IntKind.i64.wrap x = x:=by
 simp only [IntKind.wrap,IntKind.signed,IntKind.bits]
 simp
 omega
theorem g0o {x:Int} (h1:0 <= x) (h2:x < 256):IntKind.u8.wrap x = x:=by
 show x % 2 ^ 8 = x
 exact Int.emod_eq_of_lt h1 (by omega)
theorem h0w {x:Int} (h1:0 <= x) (h2:x < 4294967296):IntKind.u32.wrap x = x:=by
 show x % 2 ^ 32 = x
 exact Int.emod_eq_of_lt h1 (by omega)
theorem c0M {x:Int} (h1:0 <= x) (h2:x < 18446744073709551616):IntKind.u64.wrap x = x:=by
 show x % 2 ^ 64 = x
 exact Int.emod_eq_of_lt h1 (by omega)
theorem o0J (x:Int):IntKind.u8.wrap x = x % 256:=rfl
theorem t0m (x:Int):IntKind.u32.wrap x = x % 4294967296:=rfl
theorem t0G (x:Int):IntKind.u64.wrap x = x % 18446744073709551616:=rfl
section
variable {α:Type}
def ls (o:Option (List α)):List α:=o.getD []
@[simp] theorem K6 (l:List α):ls (some l) = l:=rfl
@[simp] theorem H0O:ls (none:Option (List α)) = []:=rfl
def cat (enc:α->List AS) (l:List α):List AS:=l.flatMap enc
def sl (s:Nat) (enc:α->List AS):Option (List α)->AS
 | none=>.nilslc
 | some l=>.vs l.length s (cat enc l)
@[simp] theorem s0z (s:Nat) (enc:α->List AS) (o:Option (List α)):U9 (sl s enc o) = some (ls o).length:=by cases o <;> rfl
theorem A8 {s:Nat} {enc:α->List AS} (he:∀ x,(enc x).length = s) (l:List α):(cat enc l).length = l.length * s:=by
 unfold cat
 induction l with
 | nil=>simp
 | cons a l ih=>simp [he,ih,Nat.succ_mul];omega
theorem i0l {s:Nat} {enc:α->List AS} (he:∀ x,(enc x).length = s) (h:H) (o:Option (List α)):Sees h s (sl s enc o) (cat enc (ls o)):=by
 cases o with
 | none=>rfl
 | some l=>exact ⟨rfl,rfl,A8 he l⟩
theorem d0e {st:Bool} {enc:α->List AS} (l:List α) (hp:∀ x ∈ l,v9 st (enc x) = true):v9 st (cat enc l) = true:=by
 unfold cat
 induction l with
 | nil=>rfl
 | cons a l ih =>
  rw [List.flatMap_cons,h0v,hp a (by simp),ih fun x hx=>hp x (by simp [hx])];rfl
theorem a0u {s:Nat} {enc:α->List AS} (hp:∀ x,v9 false (enc x) = true) (o:Option (List α)):c7 false (sl s enc o) = true:=by
 cases o with
 | none=>rfl
 | some l=>simp only [sl,c7,Bool.not_false,Bool.true_or,Bool.true_and];exact d0e l fun x _=>hp x
@[simp] theorem a0C (s:Nat) (enc:α->List AS) (o:Option (List α)) (u:TypeId) (h:H):V9 (sl s enc o) (some (.slice u)) h = some (one (.int .i64 (ls o).length) h):=by cases o <;> rfl
theorem N6 {P:Program} {t u s:Nat} (ht:P.underlying t = some (.slice u)) (hu:B5 P u = some s) (h0:0 < s) {enc:α->List AS} {l:List α} {i:Nat} (hi:i < l.length):U7 P t (sl s enc (some l)) i = some (.rp (cat enc l) (i * s)):=by
 unfold U7
 simp only [ht,hu,oqE,oqS,sl,h0,hi,and_self,if_true]
theorem O9 {s:Nat} {enc:α->List AS} (he:∀ x,(enc x).length = s) (a:List α) (x:α) (b:List α) {o n:Nat} (ho:o + n <= s):sub (cat enc (a++x::b)) (a.length * s + o) n = sub (enc x) o n:=by
 unfold sub
 have h1:(cat enc (a++x::b)) = a.flatMap enc++(enc x++b.flatMap enc):=by simp [cat]
 have h2:(a.flatMap enc).length = a.length * s:=A8 he a
 rw [if_pos (by rw [h1,oqa,oqa,h2,he];omega),if_pos (by rw [he];exact ho),h1,<- h2]
 rw [List.drop_append]
 rw [show List.drop ((a.flatMap enc).length + o) (a.flatMap enc) = [] from List.drop_eq_nil_of_le (by omega)]
 rw [show (a.flatMap enc).length + o - (a.flatMap enc).length = o by omega,oql,List.drop_append_of_le_length (by rw [he];omega),List.take_append_of_le_length (by rw [List.length_drop,he];omega)]
theorem l0p {s:Nat} {enc:α->List AS} (he:∀ x,(enc x).length = s) (h0:0 < s) (h:H) (o:Option (List α)):C6 h s (ls o).length (sl s enc o) = some (cat enc (ls o)) :=
 k0W (i0l he h o) h0 (A8 he _)
end
abbrev BL:=List UInt8
def bs:Option BL->AS:=sl 1 fun b=>[F7 b]
theorem C9:bs none = .nilslc:=rfl
theorem Z7 (l:BL):bs (some l) = .vs l.length 1 (l.map F7):=by
 simp only [bs,sl,cat]
 congr 1
 induction l with
 | nil=>rfl
 | cons a l ih=>simp only [List.flatMap_cons,List.map_cons,ih];rfl
@[simp] theorem y0B (o:Option BL):U9 (bs o) = some (ls o).length:=s0z _ _ _
@[simp] theorem H0A (o:Option BL) (u:TypeId) (h:H):V9 (bs o) (some (.slice u)) h = some (one (.int .i64 (ls o).length) h):=a0C _ _ _ _ _
@[simp] theorem f0T (o:Option BL):c7 false (bs o) = true:=a0u (fun _=>rfl) o
theorem g0b (l:BL):bytesOf (l.map F7) = some l:=by
 induction l with
 | nil=>rfl
 | cons a l ih =>
  have ha:a.toNat < 256:=a.toNat_lt
  simp only [List.map_cons,F7,bytesOf]
  rw [if_pos (by omega)]
  rw [ih]
  simp
theorem p0m (h:H) (o:Option BL):C6 h 1 (ls o).length (bs o) = some ((ls o).map F7):=by
 have:=l0p (s:=1) (enc:=fun b:UInt8=>[F7 b]) (fun _=>rfl) (by omega) h o
 rw [bs,this]
 congr 1
 unfold cat
 generalize ls o = l
 induction l with
 | nil=>rfl
 | cons a l ih=>simp only [List.flatMap_cons,List.map_cons,ih];rfl
@[simp] theorem H0g (b:Bool) (A B:Prop):onW (some (!b)) A B = onW (some b) B A:=by cases b <;> simp
@[simp] theorem F0g (b:Bool) (A B:Prop):l0Y (!b) A B = l0Y b B A:=by cases b <;> simp
@[simp] theorem G0O (b:Bool):(b == true) = b:=by cases b <;> rfl
@[simp] theorem D0h (b:Bool):(b == false) = !b:=by cases b <;> rfl
def Wr (h:H) (p:Nat) (q:Option Nat) (l:BL):Prop:=p < h.next/\∃ s,z7 s = q/\q ≠ some p/\h.f p = some ⟨0,[1],true,[s]⟩/\Owns h 1 s (l.map F7)
structure Only (h h':H) (p:Nat) (q q':Option Nat):Prop where
 next:h.next <= h'.next
 keep:∀ b,b < h.next->b ≠ p->q ≠ some b->h'.f b = h.f b
 own:q' = q \/ ∃ b,q' = some b/\h.next <= b
theorem Only.refl (h:H) (p:Nat) (q:Option Nat):Only h h p q q:=⟨oqg _,fun _ _ _ _=>rfl,.inl rfl⟩
theorem Only.trans {h h1 h2:H} {p:Nat} {q q1 q2:Option Nat} (a:Only h h1 p q q1) (b:Only h1 h2 p q1 q2):Only h h2 p q q2 where
 next:=Nat.le_trans a.next b.next
 keep x hx hp hq:=by
  rw [b.keep x (oqp hx a.next) hp ?_,a.keep x hx hp hq]
  rcases a.own with e | ⟨y,e,hy⟩
  ·rw [e];exact hq
  ·rw [e];intro h;cases h;omega
 own:=by
  rcases b.own with e | ⟨y,e,hy⟩
  ·rw [e]
   rcases a.own with e | ⟨y,e,hy⟩
   ·exact .inl e
   ·exact .inr ⟨y,e,hy⟩
  ·exact .inr ⟨y,e,Nat.le_trans a.next hy⟩
theorem Wr.own_lt {h:H} {p b:Nat} {q:Option Nat} {l:BL} (w:Wr h p q l) (hb:q = some b):b < h.next:=by
 obtain ⟨_,s,hq,_,_,ho⟩:=w
 rw [hb] at hq
 cases s <;> simp only [z7,Owns,reduceCtorEq] at hq ho
 cases hq
 exact ho.2.2.2.2.1
theorem Wr.new {h:H} {p:Nat} {q:Option Nat} {l:BL} (w:Wr h p q l) (k:Blk):Wr (h.new k) p q l:=by
 obtain ⟨hp,s,hq,hqp,hf,ho⟩:=w
 refine ⟨by simp only [A6];omega,s,hq,hqp, ?_,ho.new k⟩
 rw [L8,if_neg (by omega)];exact hf
def J4 (h:H):List (Nat × Blk)->Prop
 | []=>True
 | e::l=>h.f e.1 = some e.2/\J4 h l
def WS (h0:H) (q0:Option Nat) (h:H) (p:Nat) (l:BL) (kept:List (Nat × Blk)):Prop:=∃ q,Wr h p q l/\Only h0 h p q0 q/\J4 h kept/\∀ e ∈ kept,e.1 < h.next/\e.1 ≠ p/\q ≠ some e.1
theorem WS.start {h:H} {p:Nat} {q:Option Nat} {l:BL} (w:Wr h p q l):WS h q h p l []:=⟨q,w,Only.refl _ _ _,trivial,by simp⟩
theorem WS.drop {h0 h:H} {q0:Option Nat} {p:Nat} {l:BL} {kept:List (Nat × Blk)} (w:WS h0 q0 h p l kept):WS h0 q0 h p l []:=by
 obtain ⟨q,w,g,_⟩:=w;exact ⟨q,w,g,trivial,by simp⟩
theorem W5 {h h':H}:∀ {l:List (Nat × Blk)},(∀ e ∈ l,h'.f e.1 = h.f e.1)->J4 h l->J4 h' l
 | [],_,_=>trivial
 | e::l,hs,hk=>⟨by rw [hs e (by simp)];exact hk.1,W5 (fun x hx=>hs x (by simp [hx])) hk.2⟩
theorem WS.new {h0 h:H} {q0:Option Nat} {p:Nat} {l:BL} {kept:List (Nat × Blk)} (w:WS h0 q0 h p l kept) (k:Blk):WS h0 q0 (h.new k) p l ((h.next,k)::kept):=by
 obtain ⟨q,w,g,hk,hd⟩:=w
 have hp:=w.1
 refine ⟨q,w.new k,⟨Nat.le_trans g.next (by simp),fun b hb h1 h2=>?_,g.own⟩,⟨by simp,W5 (fun e he=>?_) hk⟩, ?_⟩
 ·rw [L8,if_neg (by have:=g.next;omega)];exact g.keep b hb h1 h2
 ·rw [L8,if_neg (by have:=(hd e he).1;omega)]
 ·intro e he
  rcases oqf.1 he with rfl | he
  ·refine ⟨by simp,by simp only;omega,fun hq=>?_⟩
   have:=w.own_lt hq;simp only at this;omega
  ·have:=hd e he
   exact ⟨by simp only [A6];omega,this.2⟩
def b0F (C:Conf) (f:Nat) (rest:List AV) (ret:AV) (x:BL):Prop :=
 ∀ h p q l,Wr h p q l->l.length + x.length <= 1099511627776->∃ h' q',W C f (.one (.ptr p 0 0)::rest) h = some (.ret ret h')/\Wr h' p q' (l++x)/\Only h h' p q q'
theorem C8 {C:Conf} {f:Nat} {rest:List AV} {ret:AV} {x:BL} (hf:b0F C f rest ret x) {h0 h:H} {q0:Option Nat} {p:Nat} {l:BL} {kept:List (Nat × Blk)} (w:WS h0 q0 h p l kept) (hl:l.length + x.length <= 1099511627776)
  {K:AV->H->Prop} {Kp:AS->H->Prop} (hk:∀ h',WS h0 q0 h' p (l++x) kept->J4 h' kept->K ret h'):onR ((W C f (.one (.ptr p 0 0)::rest) h).bind crO) K Kp:=by
 obtain ⟨q,w,g,hkp,hd⟩:=w
 obtain ⟨h',q',e,w',g'⟩:=hf h p q l w hl
 rw [e]
 simp only [oqS,o0q,n0U]
 have hkp':J4 h' kept:=W5 (fun e he=>g'.keep _ (hd e he).1 (hd e he).2.1 (hd e he).2.2) hkp
 refine hk h' ⟨q',w',g.trans g',hkp',fun e he=>⟨oqp (hd e he).1 g'.next,(hd e he).2.1, ?_⟩⟩ hkp'
 rcases g'.own with e1 | ⟨b,e1,hb⟩
 ·rw [e1];exact (hd e he).2.2
 ·rw [e1];intro hc
  have:=(hd e he).1
  simp only [oqI] at hc;omega
theorem a0A {C:Conf} {f:Nat} {rest:List AV} {ret:AV} {x:BL} (hh:∀ h p q l,Wr h p q l->l.length + x.length <= 1099511627776->∃ r,W C f (.one (.ptr p 0 0)::rest) h = some r/\∃ h' kept,r = .ret ret h'/\WS h q h' p (l++x) kept):b0F C f rest ret x:=by
 intro h p q l w hl
 obtain ⟨r,e,h',kept,rfl,q',w',g',_⟩:=hh h p q l w hl
 exact ⟨h',q',e,w',g'⟩
theorem n0d {P:Program} {t el:Nat} (ht:P.underlying t = some (.slice el)) (h1:V3 P t = some el) (h2:B5 P el = some 1) (h3:C3 P el = some 1) {h:H} {p:Nat} {q:Option Nat} {l:BL} (w:Wr h p q l) {s a:AS} (hs:h.f p = some ⟨0,[1],true,[s]⟩) {x:BL}
  (hln:U9 a = some x.length) (he:C6 h 1 x.length a = some (x.map F7)) (hlen:l.length + x.length <= 1099511627776) :
  ∃ s' h2,X9 P t t h s a = some (s',h2)/\h2.f p = some ⟨0,[1],true,[s]⟩/\∃ q',Wr (h2.set p ⟨0,[1],true,[s']⟩) p q' (l++x)/\Only h (h2.set p ⟨0,[1],true,[s']⟩) p q q':=by
 obtain ⟨hpn,s0,hq,hqp,hf,ho⟩:=w
 rw [hf] at hs
 have hss:s0 = s:=by
  simp only [oqI,Blk.mk.injEq,List.cons.injEq,and_true,true_and] at hs
  exact hs
 subst hss
 have happ:=a0p (P:=P) (t:=t) (u:=t) (s:=s0) h1 h2 h3 ht hln he
 have key:∃ s' h2',M8 1 1 x.length (x.map F7) h s0 = some (s',h2')/\Owns h2' 1 s' ((l++x).map F7)/\h.next <= h2'.next/\(∀ b,b < h.next->z7 s0 ≠ some b->h2'.f b = h.f b)/\(∀ b,z7 s' = some b->z7 s0 = some b \/ h.next <= b):=by
  by_cases h0:x.length = 0
  ·have:x = []:=List.eq_nil_of_length_eq_zero h0
   subst this
   refine ⟨s0,h, ?_,by simpa using ho,oqg _,fun _ _ _=>rfl,fun b hb=>.inl hb⟩
   cases s0 <;> simp only [Owns] at ho
   ·rfl
   ·obtain ⟨_,rfl,_⟩:=ho
    rfl
  ·obtain ⟨s',h2',e1,e2,e3,e4,e5,_⟩:=r0W (bytes:=1) (m:=x.length) (new:=x.map F7) (n:=l.length) ho (by omega) (by simp) (by omega) (by simp) (by simp only [N3];omega)
   exact ⟨s',h2',e1,by rw [List.map_append];exact e2,e3,e4,e5⟩
 obtain ⟨s',h2',e1,e2,e3,e4,e5⟩:=key
 have hp2:h2'.f p = some ⟨0,[1],true,[s0]⟩:=by rw [e4 p hpn (by rw [hq];exact hqp),hf]
 refine ⟨s',h2',by rw [happ];exact e1,hp2,z7 s', ?_, ?_⟩
 ·have hsp:z7 s' ≠ some p:=by
   intro h
   rcases e5 p h with e | e
   ·rw [hq] at e;exact hqp e
   ·omega
  refine ⟨by simp only [H.set];omega,s',rfl,hsp,by simp [H.set],e2.keep (oqg _) fun b hb=>?_⟩
  have:b ≠ p:=by rintro rfl;exact hsp hb
  simp [H.set,this]
 ·refine ⟨by simp only [H.set];omega,fun b hb hbp hbq=>?_, ?_⟩
  ·simp only [H.set]
   rw [if_neg hbp,e4 b hb (by rw [hq];exact hbq)]
  ·cases hos:z7 s' with
   | none =>
    cases hq0:q with
    | none=>exact .inl rfl
    | some b =>
     exfalso
     rw [hq0] at hq
     cases s' <;> simp only [Owns,z7,reduceCtorEq] at e2 hos
     ·-- nil again: nothing was there
      cases s0 <;> simp only [Owns,z7,reduceCtorEq] at ho hq
      rename_i bb v o n s' c
      obtain ⟨rfl,rfl,rfl,hcl,_⟩:=ho
      have hx0:x = []:=by
       simp only [List.map_eq_nil_iff,List.append_eq_nil_iff] at e2
       exact e2.2
      subst hx0
      simp [M8] at e1
   | some b =>
    rcases e5 b hos with e | e
    ·rw [hq] at e;exact .inl e.symm
    ·exact .inr ⟨b,rfl,e⟩
theorem m0n {P:Program} {t el:Nat} (ht:P.underlying t = some (.slice el)) (h1:V3 P t = some el) (h2:B5 P el = some 1) (h3:C3 P el = some 1) {h0 h:H} {q0:Option Nat} {p:Nat} {l:BL} {kept:List (Nat × Blk)} (w:WS h0 q0 h p l kept) {a:AS} {x:BL}
  (hln:U9 a = some x.length) (he:C6 h 1 x.length a = some (x.map F7)) (hlen:l.length + x.length <= 1099511627776) :
  ∃ s s' h2,h.f p = some ⟨0,[1],true,[s]⟩/\X9 P t t h s a = some (s',h2)/\h2.f p = some ⟨0,[1],true,[s]⟩/\WS h0 q0 (h2.set p ⟨0,[1],true,[s']⟩) p (l++x) kept/\J4 (h2.set p ⟨0,[1],true,[s']⟩) kept:=by
 obtain ⟨q,w,g,hkp,hd⟩:=w
 obtain ⟨s,hq,hqp,hf,ho⟩:=w.2
 obtain ⟨s',h2,e1,e2,q',w',g'⟩:=n0d ht h1 h2 h3 w hf hln he hlen
 have hkp':J4 (h2.set p ⟨0,[1],true,[s']⟩) kept:=W5 (fun e he=>g'.keep _ (hd e he).1 (hd e he).2.1 (hd e he).2.2) hkp
 refine ⟨s,s',h2,hf,e1,e2,⟨q',w',g.trans g',hkp',fun e he=>⟨oqp (hd e he).1 g'.next,(hd e he).2.1, ?_⟩⟩,hkp'⟩
 rcases g'.own with e1 | ⟨b,e1,hb⟩
 ·rw [e1];exact (hd e he).2.2
 ·rw [e1];intro hc
  have:=(hd e he).1
  simp only [oqI] at hc;omega
def idx {α:Type} (p:α->Bool) (l:List α):Int:=match l.findIdx? p with | some i=>i | none=>-1
theorem f0i {α:Type} {p:α->Bool} {a:List α} {x:α} {r:List α} (ha:∀ y ∈ a,p y = false) (hx:p x = true):idx p (a++x::r) = a.length:=by
 unfold idx
 have:(a++x::r).findIdx? p = some a.length:=by
  induction a with
  | nil=>simp [List.findIdx?_cons,hx]
  | cons y a ih =>
   rw [oqm,List.findIdx?_cons,ha y (by simp)]
   simp [ih fun z hz=>ha z (by simp [hz])]
 rw [this]
theorem c0l {α:Type} {p:α->Bool} {a:List α} (ha:∀ y ∈ a,p y = false):idx p a = -1:=by
 unfold idx
 have:a.findIdx? p = none:=by
  induction a with
  | nil=>rfl
  | cons y a ih =>
   rw [List.findIdx?_cons,ha y (by simp)]
   simp [ih fun z hz=>ha z (by simp [hz])]
 rw [this]
theorem z0N {α:Type} (p:α->Bool) (l:List α):decide (0 <= idx p l) = l.any p:=by
 unfold idx
 cases h:l.findIdx? p with
 | none =>
  rw [List.findIdx?_eq_none_iff] at h
  simp only [Int.reduceNeg,Int.reduceLE,decide_false]
  symm;rw [List.any_eq_false];intro x hx;simp [h x hx]
 | some i =>
  rw [List.findIdx?_eq_some_iff_getElem] at h
  obtain ⟨hi,hp,_⟩:=h
  have:l.any p = true:=List.any_eq_true.2 ⟨l[i],List.getElem_mem hi,hp⟩
  simp [this]
theorem a0R {α:Type} {o:Option (List α)} {a:List α} {x:α} {r:List α} (h:ls o = a++x::r):o = some (a++x::r):=by
 cases o with
 | none=>simp at h
 | some l=>simp only [K6] at h;rw [h]
theorem S4 {α:Type} {a:List α} {x:α}:((a++[x]).length:Int) = (a.length:Int) + 1:=by simp
theorem J1 {n:Nat} (h:n < 9223372036854775807):IntKind.i64.wrap ((n:Int) + 1) = (n:Int) + 1:=wrap_i64 (by omega) (by omega)
theorem a0q {L:Fr} {F:(Nat->AV)->Fr} {P:Prop} (h:L = F (Fr.get L)) (hp:P):∃ j,L = F j/\P:=⟨_,h,hp⟩
theorem y0 {L:Fr} {F:(Nat->AV)->Fr} (h:L = F (Fr.get L)):∃ j,L = F j:=⟨_,h⟩
theorem I8 {C:Conf} (hp:PrimOk C) {α:Type} {b:Code} {Q:Ex->Fr->H->Prop} (l:List α) (I:List α->List α->Fr->H->Prop)
  (step:∀ a x r fr h,l = a++x::r->I a (x::r) fr h->M4 C b fr h fun e fr' h'=>match e with | .normal=>I (a++[x]) r fr' h' | e=>Q e fr' h')
  (stop:∀ fr h,I l [] fr h->M4 C b fr h fun e fr' h'=>match e with | .normal=>False | e=>Q e fr' h') :
  ∀ fr h,I [] l fr h->M4 C (.loop b) fr h Q:=by
 intro fr h hi
 refine b0x hp (fun n fr h=>∃ a r,l = a++r/\n = r.length/\I a r fr h) ?_ l.length fr h ⟨[],l,rfl,rfl,hi⟩
 rintro n fr h ⟨a,r,hl,hn,hi⟩
 cases r with
 | nil =>
  rw [List.append_nil] at hl
  subst hl
  refine (stop fr h hi).mono fun e fr' h' hx=>?_
  cases e with
  | normal=>exact hx.elim
  | _=>exact hx
 | cons x r =>
  refine (step a x r fr h hl hi).mono fun e fr' h' hx=>?_
  cases e with
  | normal=>exact ⟨r.length,by rw [hn];simp,a++[x],r,by rw [hl];simp,rfl,hx⟩
  | _=>exact hx
theorem S0 {C:Conf} (hp:PrimOk C) {b:Code} {Q:Ex->Fr->H->Prop} (n:Nat) (I:Nat->Fr->H->Prop)
  (step:∀ i fr h,i < n->I i fr h->M4 C b fr h fun e fr' h'=>match e with | .normal=>I (i + 1) fr' h' | e=>Q e fr' h')
  (stop:∀ fr h,I n fr h->M4 C b fr h fun e fr' h'=>match e with | .normal=>False | e=>Q e fr' h') :
  ∀ fr h,I 0 fr h->M4 C (.loop b) fr h Q:=by
 intro fr h hi
 refine b0x hp (fun k fr h=>∃ i,i <= n/\k = n - i/\I i fr h) ?_ n fr h ⟨0,by omega,rfl,hi⟩
 rintro k fr h ⟨i,hin,hk,hi⟩
 by_cases hlt:i < n
 ·refine (step i fr h hlt hi).mono fun e fr' h' hx=>?_
  cases e with
  | normal=>exact ⟨n - (i + 1),by omega,i + 1,by omega,rfl,hx⟩
  | _=>exact hx
 ·have:i = n:=by omega
  subst this
  refine (stop fr h hi).mono fun e fr' h' hx=>?_
  cases e with
  | normal=>exact hx.elim
  | _=>exact hx
section
variable {α:Type}
def opt:List α->Option (List α)
 | []=>none
 | a::l=>some (a::l)
@[simp] theorem I0b (l:List α):ls (opt l) = l:=by cases l <;> rfl
@[simp] theorem H0L:opt ([]:List α) = none:=rfl
@[simp] theorem H0r (enc:α->List AS):cat enc [] = []:=rfl
theorem X4 (enc:α->List AS) (l:List α) (x:α):cat enc (x::l) = enc x++cat enc l:=rfl
theorem a0Q (enc:α->List AS) (l m:List α):cat enc (l++m) = cat enc l++cat enc m:=by simp [cat]
def Grown (h:H) (size:Nat) (enc:α->List AS) (s:AS) (l:List α):Prop:=Owns h size s (cat enc l)/\(l = []->s = .nilslc)
theorem Grown.keep {h h':H} {size:Nat} {enc:α->List AS} {s:AS} {l:List α} (g:Grown h size enc s l) (hn:h.next <= h'.next) (hf:∀ b,z7 s = some b->h'.f b = h.f b):Grown h' size enc s l:=⟨g.1.keep hn hf,g.2⟩
theorem Grown.new {h:H} {size:Nat} {enc:α->List AS} {s:AS} {l:List α} (g:Grown h size enc s l) (k:Blk):Grown (h.new k) size enc s l:=⟨g.1.new k,g.2⟩
theorem y0Z {h:H} {size:Nat} {s:AS} {cells:List AS} (o:Owns h size s cells) {b:Nat} (hb:z7 s = some b):b < h.next:=by
 cases s <;> simp only [Owns,z7,reduceCtorEq] at o hb
 cases hb;exact o.2.2.2.2.1
end
def Byt (h:H) (s:AS) (l:BL):Prop:=Owns h 1 s (l.map F7)/\c7 false s = false
theorem f0f {h:H} {n:Nat}:∀ {l:List AS},v9 false l = true->(∀ a ∈ l,(∀ f x c,a ≠ .fn f x c)/\∀ t v,a ≠ .ifc t v)->l.mapM (N5 h (n + 1)) = some l
 | [],_,_=>rfl
 | a::l,hp,hn=>by
  simp only [v9,oqd] at hp
  have h1:=hn a (by simp)
  simp only [List.mapM_cons,d0R hp.1 h1.1 h1.2,f0f hp.2 (fun b hb=>hn b (by simp [hb])),oqE,oqS,oqP]
structure OS (h:H) (s:AS) (l:BL) (kept:List (Nat × Blk)):Prop where
 byt:Byt h s l
 kp:J4 h kept
 ok:∀ e ∈ kept,e.1 < h.next/\z7 s ≠ some e.1
theorem Byt.new {h:H} {s:AS} {l:BL} (o:Byt h s l) (k:Blk):Byt (h.new k) s l:=⟨o.1.new k,o.2⟩
theorem Byt.lt {h:H} {s:AS} {l:BL} (o:Byt h s l) {b:Nat} (hb:z7 s = some b):b < h.next:=y0Z o.1 hb
theorem OS.new {h:H} {s:AS} {l:BL} {kept:List (Nat × Blk)} (w:OS h s l kept) (k:Blk):OS (h.new k) s l ((h.next,k)::kept) where
 byt:=w.byt.new k
 kp:=⟨by simp,W5 (fun e he=>by rw [L8,if_neg (by have:=(w.ok e he).1;omega)]) w.kp⟩
 ok e he:=by
  rcases oqf.1 he with rfl | he
  ·exact ⟨by simp,fun hb=>by have:=w.byt.lt hb;simp only at this;omega⟩
  ·have:=w.ok e he;exact ⟨by simp only [A6];omega,this.2⟩
theorem x0d (h:H) (l:BL) (x:Bool):Byt (h.new (F0 (l.map F7) x)) (.slc h.next 0 0 l.length 1 none) l:=⟨j0b h 1 l.length _ x (by simp),rfl⟩
theorem OS.made (h:H) (l:BL) (x:Bool) (kept:List (Nat × Blk)) (hk:J4 h kept) (hl:∀ e ∈ kept,e.1 < h.next):OS (h.new (F0 (l.map F7) x)) (.slc h.next 0 0 l.length 1 none) l kept where
 byt:=x0d h l x
 kp:=W5 (fun e he=>by rw [L8,if_neg (by have:=hl e he;omega)]) hk
 ok e he:=⟨by have:=hl e he;simp only [A6];omega,fun hb=>by simp only [z7,oqI] at hb;have:=hl e he;omega⟩
@[simp] theorem H0e (h:H) (o:Option BL) (n:Nat):N5 h (n + 1) (bs o) = some (bs o):=d0R (by simp) (by cases o <;> simp [C9,Z7]) (by cases o <;> simp [C9,Z7])
def Rets (P:AV->H->Prop):CR->Prop
 | .ret v h=>P v h
 | .pan _ _=>False
theorem Rets.ret {P:AV->H->Prop} {r:CR} (e:Rets P r):∃ v h,r = .ret v h/\P v h:=by
 cases r with
 | ret v h=>exact ⟨v,h,rfl,e⟩
 | pan v h=>exact e.elim
theorem Rets.intro {C:Conf} {f:Nat} {args:List AV} {h:H} {P:AV->H->Prop} (k:∀ P':AV->H->Prop,(∀ v h,P v h->P' v h)->∃ r,W C f args h = some r/\Rets P' r):∃ r,W C f args h = some r/\Rets P r:=k P fun _ _ h=>h
@[simp] theorem F0y (P:AV->H->Prop) (v:AV) (h:H):Rets P (.ret v h) = P v h:=rfl
section
variable (P:Program) (cmp:Nat->Option (List AS)) (fr:Fr) (h:H) (d:Option Nat) (ty:TypeId) (pos:String) (af:Array Edge) (g:Option (Nat × Bool))
def x0W (u:TypeDesc) (a:AS) (n:Nat) (h:H):Option OR:=match u,a with | .string,.str s=>(s[n]?).bind fun b=>some (one (F7 b) h) | _,_=>none
@[simp] theorem D0y (s:List UInt8) (n:Nat):x0W .string (.str s) n h = (s[n]?).bind fun b=>some (one (F7 b) h):=rfl
@[simp] theorem D0l (t:TypeId) (x i:Operand):opA P cmp fr h ⟨d,.index t x i,ty,pos,af,g⟩ = (P.underlying t).bind fun u=>(evS fr x).bind fun a=>(evS fr i).bind fun j=>(c0v j).bind fun n=>x0W u a n h:=by
 simp only [opA,oqE]
 congr 1;funext u
 cases evS fr x with
 | none=>cases u <;> rfl
 | some a=>cases evS fr i with
  | none=>cases u <;> cases a <;> rfl
  | some j =>
   cases hj:c0v j with
   | none=>cases u <;> cases a <;> simp [hj]
   | some n=>cases u <;> cases a <;> simp [x0W,hj]
end
theorem J2 {l new:List AS} (hl:new.length = l.length):lay l 0 new = new:=by simp [lay,hl]
theorem b0e {l m:List AS} {a k o n:Nat} (h:sub l a k = some m) (ho:o + n <= k):sub l (a + o) n = sub m o n:=by
 unfold sub at h |-
 split at h
 ·rename_i hle
  simp only [oqI] at h
  subst h
  rw [if_pos (by omega),if_pos (by simp;omega),List.drop_take,List.take_take,List.drop_drop,Nat.min_eq_left (by omega)]
 ·cases h
section
variable {α:Type}
def Arr (h:H) (enc:α->List AS) (b v:Nat) (l:List α) (z:List AS):Prop:=b < h.next/\∃ fx ex,h.f b = some ⟨v,(cat enc l++z).length::ex,fx,cat enc l++z⟩
theorem Arr.keep {h h':H} {enc:α->List AS} {b v:Nat} {l:List α} {z:List AS} (a:Arr h enc b v l z) (hn:h.next <= h'.next) (hf:h'.f b = h.f b):Arr h' enc b v l z:=⟨by have:=a.1;omega,by rw [hf];exact a.2⟩
theorem Arr.new {h:H} {enc:α->List AS} {b v:Nat} {l:List α} {z:List AS} (a:Arr h enc b v l z) (k:Blk):Arr (h.new k) enc b v l z:=a.keep (by simp) (by have:=a.1;rw [L8,if_neg (by omega)])
theorem U5 {P:Program} {t u size:Nat} (ht:P.underlying t = some (.slice u)) (hu:B5 P u = some size) (h0:0 < size) {b v n i:Nat} (hi:i < n):U7 P t (.slc b v 0 n size none) i = some (.ptr b v (i * size)):=by
 simp only [U7,ht,hu,oqE,oqS]
 rw [if_pos ⟨trivial,h0,hi⟩,Nat.zero_add]
theorem c0o {l:List α} {i:Nat} (hi:i < l.length):l = l.take i++l[i]::l.drop (i + 1):=by rw [List.getElem_cons_drop,List.take_append_drop]
theorem u0W {size:Nat} {enc:α->List AS} (he:∀ x,(enc x).length = size) {h:H} {b v:Nat} {l:List α} {z:List AS} (a:Arr h enc b v l z) {i:Nat} (hi:i < l.length):K8 h (.ptr b v (i * size)) size = some (enc l[i]):=by
 obtain ⟨_,fx,ex,hf⟩:=a
 have hl:=A8 he l
 have hle:i * size + size <= l.length * size:=by rw [<- Nat.succ_mul];exact Nat.mul_le_mul_right _ hi
 simp only [c0Z,hf,oqS,Blk.ext,oqg,if_true,Nat.sub_self,List.getElem?_cons_zero]
 rw [if_pos (by rw [oqa,hl];omega)]
 unfold sub
 rw [if_pos (by rw [oqa,hl];omega)]
 have h2:(cat enc (l.take i)).length = i * size:=by rw [A8 he,oqo,Nat.min_eq_left (by omega)]
 have h3:cat enc l++z = cat enc (l.take i)++(enc l[i]++(cat enc (l.drop (i + 1))++z)):=by
  conv=>lhs;rw [c0o hi,a0Q,X4]
  simp
 rw [h3,<- h2,List.drop_left,<- he l[i],List.take_left]
theorem u0n {size:Nat} {enc:α->List AS} (he:∀ x,(enc x).length = size) {h:H} {b v:Nat} {l:List α} {z:List AS} (a:Arr h enc b v l z) {i:Nat} (hi:i < l.length) (x:α) :
  ∃ k,b0n h (.ptr b v (i * size)) (enc x) = some (h.set b k)/\Arr (h.set b k) enc b v (l.set i x) z:=by
 obtain ⟨hb,fx,ex,hf⟩:=a
 have hl:=A8 he l
 have hle:i * size + size <= l.length * size:=by rw [<- Nat.succ_mul];exact Nat.mul_le_mul_right _ hi
 have h2:(cat enc (l.take i)).length = i * size:=by rw [A8 he,oqo,Nat.min_eq_left (by omega)]
 have h3:cat enc l++z = cat enc (l.take i)++(enc l[i]++(cat enc (l.drop (i + 1))++z)):=by
  conv=>lhs;rw [c0o hi,a0Q,X4]
  simp
 have h4:lay (cat enc l++z) (i * size) (enc x) = cat enc (l.set i x)++z:=by
  have h5:l.set i x = l.take i++x::l.drop (i + 1):=by rw [List.set_eq_take_append_cons_drop,if_pos hi]
  unfold lay
  rw [h5,a0Q,X4,h3,<- h2,List.take_left,<- List.drop_drop,List.drop_left,he x,<- he l[i],List.drop_left]
  simp
 refine ⟨⟨v,[(cat enc l++z).length],fx,lay (cat enc l++z) (i * size) (enc x)⟩, ?_,by simpa using hb,fx,[], ?_⟩
 ·simp only [a0O,hf,oqS,Blk.ext,oqg,if_true,Nat.sub_self,List.getElem?_cons_zero]
  rw [if_pos ⟨trivial,by rw [he,oqa,hl];omega,trivial⟩]
 ·simp only [l0,if_true]
  rw [h4]
  have:(cat enc l++z).length = (cat enc (l.set i x)++z).length:=by simp [A8 he]
  rw [this]
theorem g0g {enc:α->List AS} {h:H} {b v:Nat} {l m:List α} {z:List AS} (a:Arr h enc b v (l++m) z):Arr h enc b v l (cat enc m++z):=by
 obtain ⟨hb,fx,ex,hf⟩:=a
 refine ⟨hb,fx,ex, ?_⟩
 rw [hf,a0Q,oqh]
theorem d0I {size:Nat} {enc:α->List AS} (he:∀ x,(enc x).length = size) {h:H} {b v:Nat} {l:List α} {z c:List AS} (a:Arr h enc b v l z) (hc:c.length <= z.length) :
  ∃ k,b0n h (.ptr b v (l.length * size)) c = some (h.set b k)/\Arr (h.set b k) enc b v l (c++z.drop c.length):=by
 obtain ⟨hb,fx,ex,hf⟩:=a
 have hl:=A8 he l
 have h4:lay (cat enc l++z) (l.length * size) c = cat enc l++(c++z.drop c.length):=by
  unfold lay
  rw [<- hl,List.take_left,<- List.drop_drop,List.drop_left]
 refine ⟨⟨v,[(cat enc l++z).length],fx,lay (cat enc l++z) (l.length * size) c⟩, ?_,by simpa using hb,fx,[], ?_⟩
 ·simp only [a0O,hf,oqS,Blk.ext,oqg,if_true,Nat.sub_self,List.getElem?_cons_zero]
  rw [if_pos ⟨trivial,by rw [oqa,hl];omega,trivial⟩]
 ·simp only [l0,if_true]
  rw [h4]
  have:(cat enc l++z).length = (cat enc l++(c++z.drop c.length)).length:=by simp;omega
  rw [this]
theorem V0 {size:Nat} {enc:α->List AS} (he:∀ x,(enc x).length = size) {h:H} {b v:Nat} {l m:List α} {z:List AS} (a:Arr h enc b v (l++m) z):K8 h (.ptr b v (l.length * size)) (m.length * size) = some (cat enc m):=by
 obtain ⟨_,fx,ex,hf⟩:=a
 have hl:=A8 he l
 have hm:=A8 he m
 simp only [c0Z,hf,oqS,Blk.ext,oqg,if_true,Nat.sub_self,List.getElem?_cons_zero,a0Q]
 rw [if_pos (by simp [hl,hm] <;> omega)]
 unfold sub
 rw [if_pos (by simp [hl,hm] <;> omega),oqh,<- hl,List.drop_left,<- hm,List.take_left]
theorem Arr.cells {size:Nat} {enc:α->List AS} (he:∀ x,(enc x).length = size) {h:H} {b v:Nat} {l:List α} {z:List AS} (a:Arr h enc b v l z):∃ fx ex M,h.f b = some ⟨v,M.length::ex,fx,M⟩/\M = cat enc l++z/\l.length * size <= M.length /\
  (∀ i (hi:i < l.length),i * size + size <= M.length/\sub M (i * size) size = some (enc l[i])) /\
  (∀ h' i x,i < l.length->b < h'.next->h'.f b = some ⟨v,[M.length],fx,lay M (i * size) (enc x)⟩->Arr h' enc b v (l.set i x) z):=by
 have a0:=a
 obtain ⟨hb,fx,ex,hf⟩:=a
 have hl:=A8 he l
 have hle:∀ i,i < l.length->i * size + size <= (cat enc l++z).length:=by
  intro i hi
  have:i * size + size <= l.length * size:=by rw [<- Nat.succ_mul];exact Nat.mul_le_mul_right _ hi
  rw [oqa,hl];omega
 refine ⟨fx,ex,_,hf,rfl,by rw [oqa,hl];omega,fun i hi=>⟨hle i hi, ?_⟩,fun h' i x hi hb' hf'=>⟨hb',fx,[], ?_⟩⟩
 ·have:=u0W he a0 hi
  simp only [c0Z,hf,oqS,Blk.ext,oqg,if_true,Nat.sub_self,List.getElem?_cons_zero] at this
  rwa [if_pos (hle i hi)] at this
 ·obtain ⟨k,hw,h1,fx',ex',ha⟩:=u0n he a0 hi x
  simp only [a0O,hf,oqS,Blk.ext,oqg,if_true,Nat.sub_self,List.getElem?_cons_zero] at hw
  rw [if_pos ⟨trivial,by rw [he];exact hle i hi,trivial⟩] at hw
  simp only [oqI] at hw
  have h2:(h.set b k).f b = some ⟨v,[(cat enc l++z).length],fx,lay (cat enc l++z) (i * size) (enc x)⟩:=by rw [<- hw];simp
  rw [hf',<- h2,ha]
  have h3:=h2
  rw [ha] at h3
  simp only [oqI,Blk.mk.injEq,List.cons.injEq,true_and] at h3
  rw [h3.1.2,h3.2.1]
def Sl (h:H) (size:Nat) (enc:α->List AS) (s:AS) (l:List α):Prop:=(s = .nilslc/\l = []) \/ ∃ b v z,s = .slc b v 0 l.length size none/\Arr h enc b v l z
theorem Sl.keep {h h':H} {size:Nat} {enc:α->List AS} {s:AS} {l:List α} (a:Sl h size enc s l) (hn:h.next <= h'.next) (hf:∀ b,z7 s = some b->h'.f b = h.f b):Sl h' size enc s l:=by
 rcases a with ⟨rfl,rfl⟩ | ⟨b,v,z,rfl,a⟩
 ·exact .inl ⟨rfl,rfl⟩
 ·exact .inr ⟨b,v,z,rfl,a.keep hn (hf b rfl)⟩
theorem Sl.lt {h:H} {size:Nat} {enc:α->List AS} {s:AS} {l:List α} (a:Sl h size enc s l) {b:Nat} (hb:z7 s = some b):b < h.next:=by
 rcases a with ⟨rfl,rfl⟩ | ⟨b,v,z,rfl,a⟩
 ·cases hb
 ·cases hb;exact a.1
theorem Sl.sees {h:H} {size:Nat} {enc:α->List AS} (he:∀ x,(enc x).length = size) {s:AS} {l:List α} (a:Sl h size enc s l):Sees h size s (cat enc l):=by
 rcases a with ⟨rfl,rfl⟩ | ⟨b,v,z,rfl,a⟩
 ·rfl
 ·refine ⟨rfl, ?_⟩
  have:=V0 (l:=[]) he a
  simpa using this
theorem Sl.len {h:H} {size:Nat} {enc:α->List AS} {s:AS} {l:List α} (a:Sl h size enc s l):U9 s = some l.length:=by
 rcases a with ⟨rfl,rfl⟩ | ⟨b,v,z,rfl,a⟩ <;> rfl
theorem P7 {P:Program} {t el size bytes:Nat} (ht:P.underlying t = some (.slice el)) (h1:V3 P t = some el) (h2:B5 P el = some size) (h3:C3 P el = some bytes) (h0:0 < size) {enc:α->List AS} (he:∀ x,(enc x).length = size)
  {h:H} {s a:AS} {l m:List α} (w:Sl h size enc s l) (hs:U9 a = some m.length) (hel:C6 h size m.length a = some (cat enc m)) (hm:m ≠ []) (hlim:(l.length + m.length + 600) * bytes + (l.length + m.length) <= N3) :
  ∃ s' h',X9 P t t h s a = some (s',h')/\(∃ b v z,s' = .slc b v 0 (l++m).length size none/\Arr h' enc b v (l++m) z)/\h.next <= h'.next/\(∀ b,b < h.next->z7 s ≠ some b->h'.f b = h.f b)/\(∀ b,z7 s' = some b->z7 s = some b \/ h.next <= b):=by
 rw [a0p (x:=a) h1 h2 h3 ht hs hel]
 have hml:=A8 he m
 have hll:=A8 he l
 have hm0:m.length ≠ 0:=fun e=>hm (List.eq_nil_of_length_eq_zero e)
 have hmp:0 < m.length * size:=Nat.mul_pos (by omega) h0
 have hne:¬ ((cat enc m).length ≠ m.length * size \/ size = 0):=by omega
 have made:Arr (h.new (F0 (cat enc l++cat enc m) false)) enc h.next 0 (l++m) []:=by
  refine ⟨by simp,false,[], ?_⟩
  simp [F0,a0Q]
 have frame:∀ b,b < h.next->(h.new (F0 (cat enc l++cat enc m) false)).f b = h.f b:=fun b hb=>p0 (by omega)
 rcases w with ⟨rfl,rfl⟩ | ⟨b,v,z,rfl,w⟩
 ·refine ⟨.slc h.next 0 0 m.length size none,h.new (F0 (cat enc m) false), ?_,⟨h.next,0,[],by simp,by simpa using made⟩,by simp,fun b hb _=>by simpa using frame b hb,fun b hb=>?_⟩
  ·simp only [M8,if_neg hne,if_neg hm0]
   rw [if_pos (by simpa using hlim)]
  ·simp only [z7,oqI] at hb;right;omega
 ·obtain ⟨hb,fx,ex,hf⟩:=w
  have hrd:K8 h (.ptr b v 0) (l.length * size) = some (cat enc l):=by
   have:=V0 (l:=[]) he (⟨hb,fx,ex,hf⟩:Arr h enc b v ([]++l) z)
   simpa using this
  have hlim':¬ N3 < (l.length + m.length + 600) * bytes + (l.length + m.length):=by omega
  have hext:(⟨v,(cat enc l++z).length::ex,fx,cat enc l++z⟩:Blk).ext v = some (cat enc l++z).length:=by simp [Blk.ext]
  have hvr:¬ ((v:Nat) ≠ v \/ (cat enc l++z).length ≠ (cat enc l++z).length):=by simp
  by_cases hfit:l.length * size + (cat enc m).length <= (cat enc l++z).length
  ·obtain ⟨k,hw,ha⟩:=d0I he (⟨hb,fx,ex,hf⟩:Arr h enc b v l z) (c:=cat enc m) (by rw [oqa,hll] at hfit;omega)
   refine ⟨.slc b v 0 (l.length + m.length) size none,h.set b k, ?_,⟨b,v,z.drop (cat enc m).length,by simp, ?_⟩,by simp,fun b' _ hb'=>?_,fun b' hb'=>.inl hb'⟩
   ·simp only [M8,if_neg hne,if_neg hm0,if_neg hlim',hf,hext,hrd,oqE,oqS,Nat.zero_add,ne_eq,not_true_eq_false,if_false,hvr]
    rw [if_neg (by simp),if_pos hfit,hw];rfl
   ·obtain ⟨q1,q2,q3,q4⟩:=ha
    refine ⟨q1,q2,q3, ?_⟩
    rw [q4,a0Q,oqh]
   ·rw [l0,if_neg (by rintro rfl;exact hb' rfl)]
  ·by_cases hx:fx = true
   ·refine ⟨.slc h.next 0 0 (l.length + m.length) size none,h.new (F0 (cat enc l++cat enc m) false), ?_,⟨h.next,0,[],by simp,made⟩,by simp,fun b hb _=>frame b hb,fun b hb=>?_⟩
    ·simp only [M8,if_neg hne,if_neg hm0,if_neg hlim',hf,hext,hrd,oqE,oqS,Nat.zero_add,ne_eq,not_true_eq_false,if_false,hvr]
     rw [if_neg (by simp),if_neg hfit,if_pos hx]
    ·simp only [z7,oqI] at hb;right;omega
   ·by_cases hz:z = []
    ·subst hz
     refine ⟨.slc b (v + 1) 0 (l.length + m.length) size none,h.set b ⟨v + 1,((cat enc l++[]).length + (cat enc m).length)::((cat enc l++[]).length::ex),false,(cat enc l++[])++cat enc m⟩, ?_,⟨b,v + 1,[],by simp,by simpa using hb,false,(cat enc l++[]).length::ex, ?_⟩,by simp,fun b' _ hb'=>?_,fun b' hb'=>.inl hb'⟩
     ·simp only [M8,if_neg hne,if_neg hm0,if_neg hlim',hf,hext,hrd,oqE,oqS,Nat.zero_add,ne_eq,not_true_eq_false,if_false,hvr]
      rw [if_neg (by simp),if_neg hfit,if_neg hx,if_pos trivial,if_pos (by simp [hll])]
     ·simp only [l0,if_true,List.append_nil,a0Q,oqa]
     ·rw [l0,if_neg (by rintro rfl;exact hb' rfl)]
    ·have hz0:z.length ≠ 0:=fun e=>hz (List.eq_nil_of_length_eq_zero e)
     refine ⟨.slc b (v + 1) 0 (l.length + m.length) size none,h.set b ⟨v + 1,[l.length * size + (cat enc m).length],false,(cat enc l++z).take (l.length * size)++cat enc m⟩, ?_,⟨b,v + 1,[],by simp,by simpa using hb,false,[], ?_⟩,by simp,fun b' _ hb'=>?_,fun b' hb'=>.inl hb'⟩
     ·simp only [M8,if_neg hne,if_neg hm0,if_neg hlim',hf,hext,hrd,oqE,oqS,Nat.zero_add,ne_eq,not_true_eq_false,if_false,hvr]
      rw [if_neg (by simp),if_neg hfit,if_neg hx,if_pos trivial,if_neg (by simp [hll];omega)]
     ·simp only [l0,if_true,List.append_nil,a0Q,oqa]
      rw [<- hll,List.take_left]
     ·rw [l0,if_neg (by rintro rfl;exact hb' rfl)]
theorem i0M {P:Program} {t el size bytes:Nat} (ht:P.underlying t = some (.slice el)) (h1:V3 P t = some el) (h2:B5 P el = some size) (h3:C3 P el = some bytes) (h0:0 < size) {enc:α->List AS} (he:∀ x,(enc x).length = size)
  {h:H} {b v:Nat} {l:List α} {z:List AS} (w:Arr h enc b v l z) {i:Nat} (hi:i < l.length) (hlim:(l.length + 600) * bytes + l.length <= N3) :
  ∃ h' z',X9 P t t h (.slc b v 0 i size none) (.slc b v ((i + 1) * size) (l.length - (i + 1)) size none) = some (.slc b v 0 (l.length - 1) size none,h')/\Arr h' enc b v (l.eraseIdx i) z'/\z'.length = size + z.length/\h'.next = h.next/\∀ x,x ≠ b->h'.f x = h.f x:=by
 obtain ⟨a,x,r,rfl,rfl⟩:∃ a x r,l = a++x::r/\a.length = i:=⟨l.take i,l[i],l.drop (i + 1),c0o hi,by simp;omega⟩
 have hn:(a++x::r).length - (a.length + 1) = r.length:=by simp <;> omega
 have hn1:(a++x::r).length - 1 = a.length + r.length:=by simp <;> omega
 have hll:(a++x::r).length = a.length + r.length + 1:=by simp <;> omega
 have her:(a++x::r).eraseIdx a.length = a++r:=by rw [List.eraseIdx_append_of_length_le (oqg _)];simp
 rw [hn,hn1,her]
 rw [hll] at hlim
 have hw2:Arr h enc b v ((a++[x])++r) z:=by simpa using w
 have hel:C6 h size r.length (.slc b v ((a.length + 1) * size) r.length size none) = some (cat enc r):=by
  have:=V0 he hw2
  rw [oqa] at this
  simp only [C6,oqg,and_self,if_true]
  exact this
 rw [a0p (x:=.slc b v ((a.length + 1) * size) r.length size none) h1 h2 h3 ht rfl hel]
 have ha:=A8 he a
 have hr:=A8 he r
 have hcut:Arr h enc b v a (cat enc (x::r)++z):=g0g w
 have hne:¬ ((cat enc r).length ≠ r.length * size \/ size = 0):=by omega
 by_cases hr0:r = []
 ·subst hr0
  refine ⟨h,cat enc [x]++z, ?_,by simpa using hcut,by rw [oqa,A8 he];simp,rfl,fun _ _=>rfl⟩
  simp only [M8,if_neg hne]
  simp
 ·have hrl:r.length ≠ 0:=fun e=>hr0 (List.eq_nil_of_length_eq_zero e)
  obtain ⟨kb,hwr,har⟩:=d0I he hcut (c:=cat enc r) (by rw [X4];simp;omega)
  have hcut2:=hcut
  obtain ⟨hb,fx,ex,hf⟩:=hcut
  have hrd:K8 h (.ptr b v 0) (a.length * size) = some (cat enc a):=by
   have:=V0 (l:=[]) (m:=a) he (by simpa using hcut2)
   simpa using this
  have hext:(⟨v,(cat enc a++(cat enc (x::r)++z)).length::ex,fx,cat enc a++(cat enc (x::r)++z)⟩:Blk).ext v = some (cat enc a++(cat enc (x::r)++z)).length:=by simp [Blk.ext]
  have hfit:a.length * size + (cat enc r).length <= (cat enc a++(cat enc (x::r)++z)).length:=by rw [X4];simp only [oqa];omega
  have hvr:¬ ((v:Nat) ≠ v \/ (cat enc a++(cat enc (x::r)++z)).length ≠ (cat enc a++(cat enc (x::r)++z)).length):=by simp
  have hb1:(a.length + r.length + 600) * bytes <= (a.length + r.length + 1 + 600) * bytes:=Nat.mul_le_mul_right _ (by omega)
  have hlim':¬ N3 < (a.length + r.length + 600) * bytes + (a.length + r.length):=by omega
  refine ⟨h.set b kb,(cat enc (x::r)++z).drop (cat enc r).length, ?_, ?_, ?_,rfl,fun y hy=>by rw [l0,if_neg hy]⟩
  ·simp only [M8,if_neg hne,if_neg hrl,if_neg hlim',hf,hext,hrd,oqE,oqS,Nat.zero_add,ne_eq,not_true_eq_false,if_false,hvr]
   rw [if_neg (by simp),if_pos hfit,hwr];rfl
  ·obtain ⟨q1,q2,q3,q4⟩:=har
   refine ⟨q1,q2,q3, ?_⟩
   rw [q4,a0Q,oqh]
  ·have hx:=he x
   rw [List.length_drop,X4]
   simp only [oqa,hx]
   omega
end
theorem u0E {α:Type} (p:α->Bool) (l:List α):((∀ x ∈ l,p x = false)/\idx p l = -1) \/ ∃ a x r,l = a++x::r/\(∀ y ∈ a,p y = false)/\p x = true:=by
 induction l with
 | nil=>left;exact ⟨by simp,rfl⟩
 | cons y l ih =>
  cases hy:p y
  ·rcases ih with ⟨h1,h2⟩ | ⟨a,x,r,h1,h2,h3⟩
   ·left
    have:∀ x ∈ y::l,p x = false:=by
     intro x hx
     rcases oqf.1 hx with rfl | hx
     ·exact hy
     ·exact h1 x hx
    exact ⟨this,c0l this⟩
   ·right
    refine ⟨y::a,x,r,by rw [h1];rfl, ?_,h3⟩
    intro z hz
    rcases oqf.1 hz with rfl | hz
    ·exact hy
    ·exact h2 z hz
  ·right;exact ⟨[],y,l,rfl,by simp,hy⟩
abbrev p0D:=Unit
abbrev l0M:=(Nat->List AV->H->Option CR)->List AV->H->Option CR
def G0j (_:Program) (_:Nat) (_:p0D):Prop:=False
def F0t (_:Conf) (_:p0D):l0M:=fun _ _ _=>none
structure SeatK where
 P:Program
 ext:List (Nat × Ext)
 cmp:List Nat
 rd:Option (Nat × RdFn)
 lay:Option (Nat × p0D)
 frz:List Nat
 own:List Nat
def v0t:List (Nat × Ext)->Nat->Option Ext
 | [],_=>none
 | a::l,f=>bif Nat.beq f a.1 then some a.2 else v0t l f
def a0M:List Nat->Nat->Bool
 | [],_=>false
 | a::l,t=>bif Nat.beq t a then true else a0M l t
def i0U (S:SeatK):Conf:={ P:=S.P,ext:=v0t S.ext,prim:=fun _=>none,frz:=fun _=>false,cmp:=fun t=>bif a0M S.cmp t then d0i S.P 8 t else none }
noncomputable def primR (S:SeatK) (f:Nat):Option l0M:=match S.rd with | some q=>bif Nat.beq f q.1 then some (f0Z (i0U S) q.2) else none | none=>none
noncomputable def primY (S:SeatK) (f:Nat):Option l0M:=match S.lay with | some q=>bif Nat.beq f q.1 then some (F0t (i0U S) q.2) else none | none=>none
noncomputable def primK (S:SeatK) (f:Nat):Option l0M:=match primR S f with | some g=>some g | none=>primY S f
noncomputable def confK (S:SeatK):Conf:={ P:=S.P,ext:=v0t S.ext,prim:=primK S,frz:=a0M S.frz,cmp:=fun t=>bif a0M S.cmp t then d0i S.P 8 t else none,own:=a0M S.own }
structure SeatKOk (S:SeatK):Prop where
 okT:OkT S.P
 mixed:S.P.follows .mixedOrders = true
 names:∀ (f:Nat) (fn:Func),S.P.funcs[f]? = some fn->fn.body.isSome = true->(fn.name == "runtime.NumGoroutine") = false
 ext:∀ q ∈ S.ext,ExtT S.P q.1 q.2
 cmp:∀ t ∈ S.cmp,(∃ fs,S.P.underlying t = some (.struct fs))/\S.P.eqGuardType S.P.depth t = false
 read:∀ q,S.rd = some q->ReadOk S.P q.1 q.2
 lay:∀ q,S.lay = some q->G0j S.P q.1 q.2
section
variable {S:SeatK}
theorem s0C:∀ {l:List (Nat × Ext)} {f:Nat} {x:Ext},v0t l f = some x->(f,x) ∈ l
 | [],f,x,h=>by cases h
 | a::l,f,x,h=>by
  rw [v0t] at h
  cases hb:Nat.beq f a.1 with
  | true =>
   rw [hb] at h
   simp only [cond_true,oqI] at h
   have:=oqN hb
   subst h;subst this;simp
  | false=>rw [hb] at h;exact List.mem_cons_of_mem _ (s0C h)
theorem s0Q:∀ {l:List Nat} {t:Nat},a0M l t = true->t ∈ l
 | [],t,h=>by cases h
 | a::l,t,h=>by
  rw [a0M] at h
  cases hb:Nat.beq t a with
  | true=>have:=oqN hb;subst this;simp
  | false=>rw [hb] at h;exact List.mem_cons_of_mem _ (s0Q h)
theorem n0O {α:Type} {b:Bool} {x y:α} (h:(bif b then some x else none) = some y):b = true/\x = y:=by
 cases b with
 | true=>simp only [cond_true,oqI] at h;exact ⟨rfl,h⟩
 | false=>cases h
theorem f0Y {f:Nat} {g:l0M} (h:primK S f = some g):(∃ q,S.rd = some q/\f = q.1/\g = f0Z (i0U S) q.2) \/ ∃ q,S.lay = some q/\f = q.1/\g = F0t (i0U S) q.2:=by
 unfold primK at h
 split at h
 ·rename_i g' hg
  simp only [oqI] at h;subst h
  unfold primR at hg
  split at hg
  ·rename_i q hq
   obtain ⟨h1,rfl⟩:=n0O hg
   exact .inl ⟨q,hq,oqN h1,rfl⟩
  ·cases hg
 ·unfold primY at h
  split at h
  ·rename_i q hq
   obtain ⟨h1,rfl⟩:=n0O h
   exact .inr ⟨q,hq,oqN h1,rfl⟩
  ·cases h
theorem d0Z:PrimOk (confK S):=by
 refine ⟨fun f g h c d hl args hh r hr=>?_,fun f g h c w hm hw args hh r hr=>?_⟩
 ·rcases f0Y h with ⟨q,_,_,rfl⟩ | ⟨q,_,_,rfl⟩
  ·exact q0A hl hr
  ·cases hr
 ·rcases f0Y h with ⟨q,_,_,rfl⟩ | ⟨q,_,_,rfl⟩
  ·exact z0i hm hw hr
  ·cases hr
theorem d0H (h:SeatKOk S):∀ t z,(confK S).cmp t = some z->CmpT S.P t z:=by
 intro t z hz
 have hz':(bif a0M S.cmp t then d0i S.P 8 t else none) = some z:=hz
 cases hb:a0M S.cmp t with
 | false=>rw [hb] at hz';cases hz'
 | true =>
  rw [hb,cond_true] at hz'
  obtain ⟨⟨fs,h3⟩,h4⟩:=h.cmp t (s0Q hb)
  exact B0m hz' h3 h4
theorem k0X (h:SeatKOk S):OkC (confK S):=by
 refine ⟨h.names,fun f x hx args hh r hr φ w cargs R ha=>?_,fun f g hg calls hc args hh r hr φ w cargs R ha=>?_⟩
 ·exact C0d (h.ext _ (s0C hx)) hr R ha
 ·rcases f0Y hg with ⟨q,hq,rfl,rfl⟩ | ⟨q,hq,rfl,rfl⟩
  ·exact x0r (C:=i0U S) h.okT (d0H h) (h.read q hq) hc hr R ha
  ·exact (h.lay q hq).elim
theorem H0I (h:SeatKOk S):J3 S.P (W (confK S)):=C0S (C:=confK S) h.okT (d0H h) (k0X h) d0Z h.mixed
end
theorem G0T {a:AV} (h:i0O (false,[.int .i64]) a):∃ n:Int,-9223372036854775808 <= n/\n < 9223372036854775808/\a = .one (.int .i64 n):=by
 obtain ⟨x,c,h1,rfl,h2⟩:∃ x c,[CS.int .i64] = [c]/\a = .one x/\Fit c x:=by simpa [i0O] using h
 cases h1
 cases h2 with
 | int k n h3 h4 =>
  have h3':(-9223372036854775808:Int) <= n:=h3
  have h4':n <= 9223372036854775807:=h4
  exact ⟨n,h3',by omega,rfl⟩
theorem B0G {a:AV} (h:i0O (false,[.int .u8]) a):∃ b:UInt8,a = .one (F7 b):=by
 obtain ⟨x,c,h1,rfl,h2⟩:∃ x c,[CS.int .u8] = [c]/\a = .one x/\Fit c x:=by simpa [i0O] using h
 cases h1
 cases h2 with
 | int k n h3 h4 =>
  have h3':(0:Int) <= n:=h3
  have h4':n <= 255:=h4
  refine ⟨UInt8.ofNat n.toNat, ?_⟩
  simp only [F7]
  congr 2
  rw [UInt8.toNat_ofNat',Nat.mod_eq_of_lt (by omega)];omega
theorem o0Q {p:Bool × List CS} {ps:List (Bool × List CS)} {xs:List AV} (h:FitAL (p::ps) xs):∃ a xs',xs = a::xs'/\i0O p a/\FitAL ps xs':=by
 cases h with | cons _ a _ xs' h1 h2=>exact ⟨a,xs',rfl,h1,h2⟩
theorem A0b {xs:List AV} (h:FitAL [] xs):xs = []:=by cases h;rfl
theorem m0B {c:CS} {cs:List CS} {l:List AS} (h:FitL (c::cs) l):∃ a r,l = a::r/\Fit c a/\FitL cs r:=by
 cases h with | cons _ a _ l h1 h2=>exact ⟨a,l,rfl,h1,h2⟩
theorem q0u {l:List AS} (h:FitL [] l):l = []:=by cases h;rfl
theorem H0M {s:List CS} {a:AV} (h:i0O (true,s) a):∃ l,a = .agg l/\FitL s l:=by simpa [i0O] using h
theorem s0u {c:CS} {a:AV} (h:i0O (false,[c]) a):∃ x,a = .one x/\Fit c x:=by
 obtain ⟨x,c',h1,rfl,h2⟩:∃ x c',[c] = [c']/\a = .one x/\Fit c' x:=by simpa [i0O] using h
 cases h1;exact ⟨x,rfl,h2⟩
theorem y0N {x:AS} (h:Fit (.int .i64) x):∃ n:Int,(-9223372036854775808 <= n/\n < 9223372036854775808)/\x = .int .i64 n:=by
 cases h with
 | int k n h3 h4 =>
  have h3':(-9223372036854775808:Int) <= n:=h3
  have h4':n <= 9223372036854775807:=h4
  exact ⟨n,⟨h3',by omega⟩,rfl⟩
theorem F0p {x:AS} (h:Fit .bool x):∃ b,x = .bool b:=by cases h;exact ⟨_,rfl⟩
theorem H0F {x:AS} (h:Fit .flt x):∃ n:Nat,n < 2 ^ 64/\x = .flt n:=by cases h with | flt b h=>exact ⟨b,h,rfl⟩
theorem H0d {x:AS} (h:Fit .str x):∃ s:List UInt8,s.length <= maxLen/\x = .str s:=by cases h with | str s h=>exact ⟨s,h,rfl⟩
theorem q0C {α:Type} {s:List CS} {enc:α->List AS} {ok:α->Prop} (hx:∀ l,FitL s l->∃ x,ok x/\l = enc x) {a:AS} (h:Fit (.slc s) a):∃ o:Option (List α),(ls o).length <= maxLen/\(∀ x ∈ ls o,ok x)/\a = sl s.length enc o:=by
 cases h with
 | nil=>exact ⟨none,Nat.zero_le _,by simp,rfl⟩
 | slc _ n k cells hk hn hc =>
  have key:∀ n cells,FitN s n cells->∃ l:List α,l.length = n/\(∀ x ∈ l,ok x)/\cells = cat enc l:=by
   intro n
   induction n with
   | zero=>intro cells hc;cases hc;exact ⟨[],rfl,by simp,rfl⟩
   | succ n ih =>
    intro cells hc
    cases hc with
    | succ _ _ a l h1 h2 =>
     obtain ⟨x,hx1,rfl⟩:=hx a h1
     obtain ⟨q,h3,h4,rfl⟩:=ih l h2
     refine ⟨x::q,by simp [h3], ?_,by simp [cat]⟩
     intro y hy
     rcases oqf.1 hy with rfl | hy
     ·exact hx1
     ·exact h4 y hy
  obtain ⟨l,h1,h2,rfl⟩:=key n cells hc
  refine ⟨some l,by simpa [h1] using hn,h2, ?_⟩
  simp only [sl,h1,hk]
theorem H0U {a:AS} (h:Fit (.slc [.int .u8]) a):∃ o:Option BL,(ls o).length <= maxLen/\a = bs o:=by
 have hx:∀ l,FitL [.int .u8] l->∃ x:UInt8,True/\l = [F7 x]:=by
  intro l hl
  obtain ⟨a,r,rfl,h1,h2⟩:=m0B hl
  cases q0u h2
  obtain ⟨b,hb⟩:=B0G (a:=.one a) (by show (if false = true then _ else _);rw [if_neg (by simp)];exact ⟨a,_,rfl,rfl,h1⟩)
  cases hb
  exact ⟨b,trivial,rfl⟩
 obtain ⟨o,h1,_,h3⟩:=q0C (enc:=fun b:UInt8=>[F7 b]) hx h
 exact ⟨o,h1,h3⟩
def s0X:List (Nat × InsFn)->Nat->Option InsFn
 | [],_=>none
 | a::l,f=>bif Nat.beq f a.1 then some a.2 else s0X l f
theorem q0k:∀ {l:List (Nat × InsFn)} {f:Nat} {x:InsFn},s0X l f = some x->(f,x) ∈ l
 | [],f,x,h=>by cases h
 | a::l,f,x,h=>by
  rw [s0X] at h
  cases hb:Nat.beq f a.1 with
  | true =>
   rw [hb] at h
   simp only [cond_true,oqI] at h
   have:=oqN hb
   subst h;subst this;simp
  | false=>rw [hb] at h;exact List.mem_cons_of_mem _ (q0k h)
def u0A (F:InsFn):l0M:=fun _ args h=>r0K F args h
def Conf.insK (C:Conf) (l:List (Nat × InsFn)):Conf:={ C with prim:=fun g=>match s0X l g with | some F=>some (u0A F) | none=>C.prim g }
section
variable {C:Conf} {l:List (Nat × InsFn)}
theorem h0f {g:Nat} {p:l0M} (h:(C.insK l).prim g = some p):(∃ F,(g,F) ∈ l/\p = u0A F) \/ C.prim g = some p:=by
 simp only [Conf.insK] at h
 split at h
 ·rename_i F hF;cases h;exact .inl ⟨F,q0k hF,rfl⟩
 ·exact .inr h
theorem i0B (hp:PrimOk C):PrimOk (C.insK l):=by
 refine ⟨fun g p h c d hl args hh r hr=>?_,fun g p h c w hm hw args hh r hr=>?_⟩
 ·rcases h0f h with ⟨F,_,rfl⟩ | h
  ·exact hr
  ·exact hp.mono g p h c d hl args hh r hr
 ·rcases h0f h with ⟨F,_,rfl⟩ | h
  ·exact ⟨0,hr⟩
  ·exact hp.cont g p h c w hm hw args hh r hr
def s0F (P:Program) (l:List (Nat × InsFn)):Prop:=∀ q ∈ l,∃ ρ el info,InsLay P ρ q.1 el info/\el < P.types.size/\q.2 = ⟨info.size,info.bytes⟩
theorem s0h (hP:OkT C.P) (hO:OkC C) (hl:s0F C.P l):OkC (C.insK l):=by
 refine ⟨hO.names,hO.ext,fun g p h calls hc args hh r hr φ w cargs R ha=>?_⟩
 rcases h0f h with ⟨F,hm,rfl⟩ | h
 ·obtain ⟨ρ,el,info,h1,h2,h3⟩:=hl _ hm
  exact z0q hP h1 h2 h3 hr R ha
 ·exact hO.prim g p h calls hc args hh r hr φ w cargs R ha
end
def H0Y (a b:List Nat) (f:Nat):Option Bool:=bif a0M a f then some true else bif a0M b f then some false else none
noncomputable def viaP (w2:C2) (f:Nat):l0M:=fun _ args h=>(w2 f args h).bind (iceR true h)
noncomputable def Conf.via (C:Conf) (fs:List Nat) (w2:C2):Conf:={ C with prim:=fun g=>match C.prim g with | some p=>some p | none=>bif a0M fs g then some (viaP w2 g) else none }
section
variable {C:Conf} {fs:List Nat} {w2:C2}
theorem i0P {g:Nat} {p:l0M} (h:(C.via fs w2).prim g = some p):p = viaP w2 g \/ C.prim g = some p:=by
 simp only [Conf.via] at h
 split at h
 ·rename_i q hq;cases h;exact .inr hq
 ·exact .inl (n0O h).2.symm
theorem x0B (hp:PrimOk C):PrimOk (C.via fs w2):=by
 refine ⟨fun g p h c d hl args hh r hr=>?_,fun g p h c w hm hw args hh r hr=>?_⟩
 ·rcases i0P h with rfl | h
  ·exact hr
  ·exact hp.mono g p h c d hl args hh r hr
 ·rcases i0P h with rfl | h
  ·exact ⟨0,hr⟩
  ·exact hp.cont g p h c w hm hw args hh r hr
theorem B0R (hO:OkC C) (hw:J3 C.P w2):OkC (C.via fs w2):=by
 refine ⟨hO.names,hO.ext,fun g p h calls hc args hh r hr φ w cargs R ha=>?_⟩
 rcases i0P h with rfl | h
 ·simp only [viaP,oqB] at hr
  obtain ⟨r0,h1,h2⟩:=hr
  exact m0H R h2 (hw g args hh r0 h1 φ w cargs R ha)
 ·exact hO.prim g p h calls hc args hh r hr φ w cargs R ha
end
theorem l0h {C:Conf} (hp:PrimOk C) {f:Nat} {g:l0M} (hq:C.prim f = some g) (args:List AV) (h:H):W C f args h = g (W C) args h:=by
 rw [u0d hp];unfold callF;rw [hq]
theorem n0n {h:H}:∀ {l:List (Bool × List AS)},(l.all fun p=>v9 false p.2) = true->L9 false h l = some l
 | [],_=>rfl
 | p::l,hp=>by
  simp only [List.all_cons,oqd] at hp
  simp only [L9,mapM_frz64 hp.1,n0n hp.2,oqE,oqS]
where
 mapM_frz64 {h:H} {l:List AS} (hp:v9 false l = true):l.mapM (z9 false h 64) = some l:=c0C hp
theorem l0x {h:H} {v:AV} (hv:b0u v = true):A0 false h v = some v:=by
 cases v with
 | one a=>simp only [A0,A5 (n:=63) hv,oqE,oqS]
 | agg l=>simp only [A0,c0C (n:=63) (h:=h) (l:=l) hv,oqE,oqS]
 | tup ps=>simp only [A0,n0n hv,oqE,oqS]
 | opq=>rfl
 | undef=>cases hv
theorem b0X (h:H):Kept h h:=⟨oqg _,fun _ _=>rfl⟩
theorem c0B {h h1:H} {v:AV} (hk:Kept h h1) (hv:b0u v = true):iceR true h (.ret v h1) = some (.ret v h):=g0t hk (l0x hv)
theorem k0k {S:SeatK} {ins:List (Nat × InsFn)} {via:List Nat} {w2:C2} {ice:Nat->Option Bool}:PrimOk ((((confK S).insK ins).via via w2).ice ice):=x0q (x0B (i0B d0Z))
theorem z0X {S:SeatK} {ins:List (Nat × InsFn)} {via:List Nat} {w2:C2} {ice:Nat->Option Bool} (h:SeatKOk S) (hi:s0F S.P ins) (hw:J3 S.P w2):J3 S.P (W ((((confK S).insK ins).via via w2).ice ice)) :=
 C0S (C:=(((confK S).insK ins).via via w2).ice ice) h.okT (d0H h) (z0O (C:=((confK S).insK ins).via via w2) h.okT (d0H h) h.mixed (B0R (C:=(confK S).insK ins) (s0h (C:=confK S) h.okT (k0X h) hi) hw)) k0k h.mixed
theorem A0l {S:SeatK} {ins:List (Nat × InsFn)} (h:SeatKOk S) (hi:s0F S.P ins):J3 S.P (W ((confK S).insK ins)) :=
 C0S (C:=(confK S).insK ins) h.okT (d0H h) (s0h (C:=confK S) h.okT (k0X h) hi) (i0B d0Z) h.mixed
section
variable (P:Program) (d:Option Nat) (ty:TypeId) (pos:String) (af:Array Edge) (g:Option (Nat × Bool))
@[simp] theorem H0p (args:Array Operand) (ts:Array TypeId):K7 P ⟨d,.call ⟨.builtin .min,args,ts⟩,ty,pos,af,g⟩ = .pure:=rfl
@[simp] theorem H0K (args:Array Operand) (ts:Array TypeId):K7 P ⟨d,.call ⟨.builtin .max,args,ts⟩,ty,pos,af,g⟩ = .pure:=rfl
end
@[simp] theorem nx2 (n:Nat):(n = n + 1 + 1) = False:=eq_false (by omega)
@[simp] theorem ny2 (n:Nat):(n + 1 + 1 = n) = False:=eq_false (by omega)
@[simp] theorem nx3 (n:Nat):(n = n + 1 + 1 + 1) = False:=eq_false (by omega)
@[simp] theorem ny3 (n:Nat):(n + 1 + 1 + 1 = n) = False:=eq_false (by omega)
@[simp] theorem nx4 (n:Nat):(n = n + 1 + 1 + 1 + 1) = False:=eq_false (by omega)
@[simp] theorem ny4 (n:Nat):(n + 1 + 1 + 1 + 1 = n) = False:=eq_false (by omega)
@[simp] theorem nx5 (n:Nat):(n = n + 1 + 1 + 1 + 1 + 1) = False:=eq_false (by omega)
@[simp] theorem ny5 (n:Nat):(n + 1 + 1 + 1 + 1 + 1 = n) = False:=eq_false (by omega)
@[simp] theorem nx6 (n:Nat):(n = n + 1 + 1 + 1 + 1 + 1 + 1) = False:=eq_false (by omega)
@[simp] theorem ny6 (n:Nat):(n + 1 + 1 + 1 + 1 + 1 + 1 = n) = False:=eq_false (by omega)
@[simp] theorem nx7 (n:Nat):(n = n + 1 + 1 + 1 + 1 + 1 + 1 + 1) = False:=eq_false (by omega)
@[simp] theorem ny7 (n:Nat):(n + 1 + 1 + 1 + 1 + 1 + 1 + 1 = n) = False:=eq_false (by omega)
@[simp] theorem nx8 (n:Nat):(n = n + 1 + 1 + 1 + 1 + 1 + 1 + 1 + 1) = False:=eq_false (by omega)
@[simp] theorem ny8 (n:Nat):(n + 1 + 1 + 1 + 1 + 1 + 1 + 1 + 1 = n) = False:=eq_false (by omega)
@[simp] theorem nx9 (n:Nat):(n = n + 1 + 1 + 1 + 1 + 1 + 1 + 1 + 1 + 1) = False:=eq_false (by omega)
@[simp] theorem ny9 (n:Nat):(n + 1 + 1 + 1 + 1 + 1 + 1 + 1 + 1 + 1 = n) = False:=eq_false (by omega)
theorem C0V {b n:Nat} (hb:b < n):(b = n) = False:=eq_false (by omega)
theorem B0v {b n:Nat} (hb:b < n):(b = n + 1) = False:=eq_false (by omega)
theorem F0f {b n:Nat} (hb:b < n):(b = n + 1 + 1) = False:=eq_false (by omega)
def g0E (m:Bool) (h:H) (Q:CR->Prop) (r:CR):Prop:=∃ r',iceR m h r = some r'/\Q r'
theorem B0L {C:Conf} {fs:Nat->Option Bool} (hi:PrimOk (C.ice fs)) {f:Nat} {fn:Func} {c:Code} {m:Bool} (h0:C.prim f = none) (hf:fs f = some m) (h2:C.ext f = none) (h3:C.frz f = false) (h4:C.P.funcs[f]? = some fn) (h5:fn.body = some c) {args:List AV} {h:H} {K:CR->Prop} (h6:args.length <= fn.ntmps)
  (hq:M4 (C.ice fs) c (args++List.replicate (fn.ntmps - args.length) .undef) h (p0n (C.ice fs) fn.results.toList (g0E m h K))):∃ r,W (C.ice fs) f args h = some r/\K r:=by
 have key:∃ r,callF C (W (C.ice fs)) (X (C.ice fs)) f args h = some r/\g0E m h K r:=by
  unfold callF
  rw [h0,h2]
  obtain ⟨x,fr',h',e,hx⟩:=hq
  have h3':¬ C.frz f = true:=by rw [h3];simp
  simp only [h4,oqE,oqS,h5,if_neg (Nat.not_lt.2 h6),if_neg h3',e]
  have hR:∀ fr hh rs,O4 (C.ice fs) fr hh rs = O4 C fr hh rs:=fun fr hh rs=>by
   have h1:∀ r,c0r (C.ice fs) fr hh r = c0r C fr hh r:=fun r=>by cases r <;> rfl
   have h2:∀ l,W8 (C.ice fs) fr hh l = W8 C fr hh l:=fun l=>by
    induction l with
    | nil=>rfl
    | cons a l ih=>simp only [W8,h1,ih]
   cases rs with
   | nil=>simp only [O4,h2]
   | cons a l =>
    cases l with
    | nil=>simp only [O4,h1]
    | cons b l=>simp only [O4,h2]
  cases x with
  | normal=>obtain ⟨v,hv,hk⟩:=hx;rw [hR] at hv;exact ⟨_,by simp [hv],hk⟩
  | ret=>obtain ⟨v,hv,hk⟩:=hx;rw [hR] at hv;exact ⟨_,by simp [hv],hk⟩
  | pan v=>exact ⟨_,rfl,hx⟩
  | exit i=>exact hx.elim
 obtain ⟨r,e,r',h7,h8⟩:=key
 exact ⟨r',by rw [F0L hi h0 hf,e];exact h7,h8⟩
theorem p0a {h h1:H} {v:AV} {Q:CR->Prop} (hv:b0u v = true) (hq:Q (.ret v h1)):g0E false h Q (.ret v h1):=⟨_,u0y hv,hq⟩
theorem h0D {h h1:H} {v v':AV} {Q:CR->Prop} (hk:Kept h h1) (hv:A0 false (h1.over h.next) v = some v') (hq:Q (.ret v' h)):g0E true h Q (.ret v h1):=⟨_,g0t hk hv,hq⟩
theorem o0H {h:H} {n:Nat} {l:List AS} (hp:v9 false l = true):l.mapM (z9 false h (n + 1)) = some l:=c0C hp
section
variable {α:Type}
def nz (l:List α):Option (List α):=match l with | []=>none | a::l=>some (a::l)
@[simp] theorem c0u (l:List α):ls (nz l) = l:=by cases l <;> rfl
@[simp] theorem v0q:nz ([]:List α) = none:=rfl
@[simp] theorem z0o (a:α) (l:List α):nz (a::l) = some (a::l):=rfl
theorem f0G {l:List α} (h:l ≠ []):nz l = some l:=by cases l;exact absurd rfl h;rfl
theorem n0M {h h1:H} {size:Nat} {enc:α->List AS} (he:∀ x,(enc x).length = size) (hp:∀ x,v9 false (enc x) = true) {s:AS} {l:List α} (a:Sl h1 size enc s l) (hb:∀ b,z7 s = some b->h.next <= b) (n:Nat) :
  ∃ o,ls o = l/\(l ≠ []->o = some l)/\(s = .nilslc->o = none)/\(s ≠ .nilslc->o = some l)/\z9 false (h1.over h.next) (n + 2) s = some (sl size enc o):=by
 rcases a with ⟨rfl,rfl⟩ | ⟨b,v,z,rfl,a⟩
 ·exact ⟨none,rfl,fun h=>absurd rfl h,fun _=>rfl,fun h=>absurd rfl h,by simp [z9,c7,sl]⟩
 ·refine ⟨some l,rfl,fun _=>rfl,(by simp),fun _=>rfl, ?_⟩
  have hr:=V0 (l:=[]) he a
  simp only [oql,oqc,Nat.zero_mul] at hr
  have hbb:=hb b rfl
  have hr':K8 (h1.over h.next) (.ptr b v 0) (l.length * size) = some (cat enc l):=by
   simp only [K8] at hr |-
   rw [show (h1.over h.next).f b = h1.f b by simp only [H.over,if_pos hbb]]
   exact hr
  simp only [z9,hr',oqE,oqS,o0H (d0e (st:=false) l fun x _=>hp x),sl]
theorem n0E {h h1:H} {size:Nat} {enc:α->List AS} (he:∀ x,(enc x).length = size) (hp:∀ x,v9 false (enc x) = true) {s:AS} {l:List α} (a:Sl h1 size enc s l) (hb:∀ b,z7 s = some b->h.next <= b) (hs:s = .nilslc \/ l ≠ []) (hk:Kept h h1) {Q:CR->Prop} (hq:Q (.ret (.one (sl size enc (nz l))) h)):g0E true h Q (.ret (.one s) h1):=by
 obtain ⟨o,ho,h2,h3,h4,h5⟩:=n0M (h:=h) he hp a hb 62
 have hn':o = nz l:=by
  rcases hs with hs | hs
  ·rw [h3 hs];rw [h3 hs] at ho;rw [<- ho];rfl
  ·rw [h2 hs,f0G hs]
 exact h0D hk (v':=.one (sl size enc (nz l))) (by rw [hn'] at h5;simp only [A0,h5,oqE,oqS]) hq
end
section
variable {α:Type}
theorem c0I {l:List α} {i:Nat} (hi:i <= l.length) (x:α):l.insertIdx i x = l.take i++x::l.drop i:=by
 induction l generalizing i with
 | nil=>simp at hi;subst hi;rfl
 | cons a l ih =>
  cases i with
  | zero=>rfl
  | succ i=>simp at hi;simp [ih hi]
theorem o0X {h:H} {size n:Nat} {cells:List AS} (hl:cells.length = n * size):C6 h size n (.vs n size cells) = some cells:=by
 simp only [C6,oqg,and_self,if_true,sub]
 rw [if_pos (by omega)]
 simp [<- hl]
theorem j0J {P:Program} {t el size bytes:Nat} (ht:P.underlying t = some (.slice el)) (h1:V3 P t = some el) (h2:B5 P el = some size) (h3:C3 P el = some bytes) (h0:0 < size) {enc:α->List AS} (he:∀ x,(enc x).length = size)
  {h:H} {s:AS} {l:List α} (w:Sl h size enc s l) (i:Nat) (hi:i <= l.length) (x:α) {bv:Nat} (hv:h.f bv = some ⟨0,[size],true,enc x⟩) (hne:z7 s ≠ some bv) (hlim:(l.length + 602) * bytes + (l.length + 2) <= N3) (hl2:l.length <= 17592186044416) :
  ∃ s' h',r0K ⟨size,bytes⟩ [.one s,.one (.int .i64 i),.one (.slc bv 0 0 1 size none)] h = some (.ret (.one s') h')/\(∃ b v z,s' = .slc b v 0 (l.insertIdx i x).length size none/\Arr h' enc b v (l.insertIdx i x) z)/\h.next <= h'.next/\(∀ b,b < h.next->z7 s ≠ some b->h'.f b = h.f b)/\(∀ b,z7 s' = some b->z7 s = some b \/ h.next <= b):=by
 have hev:C6 h size 1 (.slc bv 0 0 1 size none) = some (enc x):=by
  simp only [C6,oqg,and_self,if_true,Nat.one_mul,K8,hv,oqE,oqS,Blk.ext,Nat.sub_zero,List.getElem?_cons_zero,Nat.zero_add]
  unfold sub
  rw [if_pos (by rw [he];omega)]
  simp only [List.drop_zero,oqI]
  exact List.take_of_length_le (by rw [he];omega)
 have hx1:cat enc [x] = enc x:=by simp [cat]
 by_cases hil:i = l.length
 ·subst hil
  have hins:l.insertIdx l.length x = l++[x]:=by rw [c0I (oqg _)];simp
  rw [hins]
  have hb1:(l.length + 1 + 600) * bytes <= (l.length + 602) * bytes:=Nat.mul_le_mul_right _ (by omega)
  obtain ⟨s',h',e,q1,q2,q3,q4⟩:=P7 (P:=P) ht h1 h2 h3 h0 he (a:=.slc bv 0 0 1 size none) (m:=[x]) w rfl (by rw [hx1];exact hev) (by simp) (by simp only [oqb,oqc,Nat.zero_add];omega)
  rw [a0p (x:=.slc bv 0 0 1 size none) h1 h2 h3 ht rfl hev] at e
  refine ⟨s',h', ?_,q1,q2,q3,q4⟩
  rcases w with ⟨rfl,rfl⟩ | ⟨b,v,z,rfl,w⟩
  ·simp only [r0K,hev,oqS]
   simp [o0Y,e]
  ·simp only [r0K,hev,oqS]
   simp [o0Y,e]
 ·have hlt:i < l.length:=by omega
  rcases w with ⟨rfl,rfl⟩ | ⟨b,v,z,rfl,w⟩
  ·simp at hlt
  have hbv:¬ bv = b:=fun e=>hne (by rw [e];rfl)
  have hll:(l.drop i).length = l.length - i:=by simp
  have hw:Arr h enc b v (l.take i++l.drop i) z:=by rw [List.take_append_drop];exact w
  have hrest:K8 h (.ptr b v (0 + i * size)) ((l.length - i) * size) = some (cat enc (l.drop i)):=by
   have:=V0 he hw
   rw [oqo,Nat.min_eq_left (by omega),hll] at this
   rw [Nat.zero_add];exact this
  have hcut:=g0g hw
  have hm:cat enc (x::l.drop i) = enc x++cat enc (l.drop i):=X4 ..
  have hlm:(cat enc (x::l.drop i)).length = (x::l.drop i).length * size:=A8 he _
  have htk:(l.take i).length = i:=by simp;omega
  have hll2:(x::l.drop i).length = 1 + (l.length - i):=by simp;omega
  have hb1:(i + (1 + (l.length - i)) + 600) * bytes <= (l.length + 602) * bytes:=Nat.mul_le_mul_right _ (by omega)
  obtain ⟨s',h',e,q1,q2,q3,q4⟩:=P7 (P:=P) ht h1 h2 h3 h0 he (s:=.slc b v 0 (l.take i).length size none) (a:=.vs (x::l.drop i).length size (cat enc (x::l.drop i))) (l:=l.take i) (m:=x::l.drop i) (.inr ⟨b,v,_,rfl,hcut⟩) rfl (o0X hlm) (by simp) (by rw [htk,hll2];omega)
  rw [a0p (x:=.vs (x::l.drop i).length size (cat enc (x::l.drop i))) h1 h2 h3 ht rfl (o0X hlm),htk,hll2,hm] at e
  rw [c0I hi]
  refine ⟨s',h', ?_,q1,q2,fun b' hb' hx=>q3 b' hb' hx,q4⟩
  have hi2:¬ ((i:Int) = (l.length:Int)):=by omega
  simp only [r0K,hev,oqS,if_neg hi2,hv]
  rw [if_pos ⟨by omega,by omega,hbv,trivial,trivial,h0,hl2⟩]
  simp only [Int.toNat_natCast,hrest,oqS,e,o0Y,Option.map_some]
end
theorem d0F {α:Type} {size:Nat} {enc:α->List AS} (he:∀ x,(enc x).length = size) (l:List α) {i:Nat} (hi:i < l.length):((cat enc l).drop (i * size)).take size = enc l[i]:=by
 have h2:(cat enc (l.take i)).length = i * size:=by rw [A8 he,oqo,Nat.min_eq_left (by omega)]
 have h3:cat enc l = cat enc (l.take i)++(enc l[i]++cat enc (l.drop (i + 1))):=by
  conv=>lhs;rw [c0o hi,a0Q,X4]
 rw [h3,<- h2,List.drop_left,<- he l[i],List.take_left]
theorem C0X {α:Type} {s:Nat} {enc:α->List AS} (he:∀ x,(enc x).length = s) (l:List α) {i:Nat} (hi:i < l.length) {o n:Nat} (ho:o + n <= s):sub (cat enc l) (i * s + o) n = sub (enc l[i]) o n:=by
 have:=O9 he (l.take i) l[i] (l.drop (i + 1)) (o:=o) (n:=n) ho
 rw [oqo,Nat.min_eq_left (by omega)] at this
 have e:l.take i++l[i]::l.drop (i + 1) = l:=(c0o hi).symm
 rw [e] at this;exact this
theorem j0R {α:Type} {size:Nat} {enc:α->List AS} (he:∀ x,(enc x).length = size) {h:H} {b v:Nat} {l:List α} {z:List AS} (a:Arr h enc b v l z) {i e:Nat} (hi:i <= e) (hu:e <= l.length):K8 h (.ptr b v (i * size)) ((e - i) * size) = some (cat enc ((l.take e).drop i)):=by
 have h1:l = ((l.take e).take i++(l.take e).drop i)++l.drop e:=by rw [List.take_append_drop,List.take_append_drop]
 rw [h1] at a
 have:=V0 he (g0g a)
 rw [oqo,oqo,Nat.min_eq_left (by omega:e <= l.length),Nat.min_eq_left hi,List.length_drop,oqo,Nat.min_eq_left hu] at this
 exact this
end Go.Ab
namespace Wm
open Go Go.Ab
structure Value where
 kind:Int
 b:Option BL
 n:Nat
structure Version where
 time:Int
 v:Value
structure Column where
 name:BL
 l:Option (List Version)
abbrev Row:=Option (List Column)
structure Change where
 kind:Int
 col:BL
 time:Int
 v:Value
structure Cond where
 has:Bool
 want:Bool
 col:BL
 v:Value
structure Op where
 kind:Int
 row:BL
 hi:BL
 cond:Cond
 l:Option (List Change)
 most:Int
structure Named where
 name:BL
 r:Row
structure Span where
 lo:BL
 hi:BL
 deriving DecidableEq
structure Tablet where
 span:Span
 group:Int
 gen:Int
 deriving DecidableEq
structure Command where
 kind:Int
 op:Op
 span:Span
 gen:Int
 at_:BL
 to:Int
 do_:Int
 state:Option BL
structure Answer where
 code:Int
 rows:Option (List Named)
 span:Span
 group:Int
 gen:Int
 old:Int
 to:Int
 do_:Int
 at_:BL
 state:Option BL
structure Vote where
 slot:Int
 ballot:Int
 v:Option BL
structure Message where
 kind:Int
 group:Int
 frm:Int
 to:Int
 ballot:Int
 slot:Int
 client:Int
 seq:Int
 b:Option BL
 l:Option (List Vote)
structure Event where
 kind:Int
 group:Int
 slot:Int
 client:Int
 seq:Int
 b:Option BL
 a:Option BL
structure Item where
 kind:Int
 group:Int
 n:Int
 client:Int
 bytes:Option BL
structure Config where
 groups:Int
 n:Int
 clients:Int
structure KV where
 text:Bool
 n:Int
 x:Nat
 b:Option BL
structure KC where
 kind:Int
 col:Int
 time:Int
 v:KV
structure KO where
 kind:Int
 row:Int
 hi:Int
 most:Int
 col:Int
 has:Bool
 want:Bool
 v:KV
 l:Option (List KC)
structure KP where
 do_:Int
 at_:Int
 to:Int
abbrev ii (n:Int):AS:=.int .i64 n
def a0t (v:Value):List AS:=[ii v.kind,bs v.b,.flt v.n]
def i9 (v:Version):List AS:=[ii v.time,ii v.v.kind,bs v.v.b,.flt v.v.n]
def l7 (c:Column):List AS:=[.str c.name,sl 4 i9 c.l]
def J8 (r:Row):List AS:=[sl 2 l7 r]
def l8 (c:Change):List AS:=[ii c.kind,.str c.col,ii c.time,ii c.v.kind,bs c.v.b,.flt c.v.n]
def g9 (n:Named):List AS:=[.str n.name,sl 2 l7 n.r]
def I5 (s:Span):List AS:=[.str s.lo,.str s.hi]
def I4 (t:Tablet):List AS:=[.str t.span.lo,.str t.span.hi,ii t.group,ii t.gen]
def c6 (a:Answer):List AS:=[ii a.code,sl 2 g9 a.rows,.str a.span.lo,.str a.span.hi,ii a.group,ii a.gen,ii a.old,ii a.to,ii a.do_,.str a.at_,bs a.state]
def j0C (v:Vote):List AS:=[ii v.slot,ii v.ballot,bs v.v]
def h0q (m:Message):List AS:=[ii m.kind,ii m.group,ii m.frm,ii m.to,ii m.ballot,ii m.slot,ii m.client,ii m.seq,bs m.b,sl 3 j0C m.l]
def n0D (i:Item):List AS:=[ii i.kind,ii i.group,ii i.n,ii i.client,bs i.bytes]
def w0j (c:KC):List AS:=[ii c.kind,ii c.col,ii c.time,.bool c.v.text,ii c.v.n,.flt c.v.x,bs c.v.b]
theorem J0 (v:Version):(i9 v).length = 4:=rfl
theorem a0d (v:Column):(l7 v).length = 2:=rfl
theorem b0T (v:Change):(l8 v).length = 6:=rfl
theorem C4 (v:Named):(g9 v).length = 2:=rfl
theorem a0w (v:Span):(I5 v).length = 2:=rfl
theorem f0o (v:Tablet):(I4 v).length = 4:=rfl
@[simp] theorem o0k (v:Version):v9 false (i9 v) = true:=by simp [i9,v9,c7]
@[simp] theorem y0e (o:Option (List Version)):c7 false (sl 4 i9 o) = true:=a0u o0k o
@[simp] theorem o0N (v:Column):v9 false (l7 v) = true:=by simp [l7,v9,c7]
@[simp] theorem y0r (o:Option (List Column)):c7 false (sl 2 l7 o) = true:=a0u o0N o
@[simp] theorem p0E (v:Change):v9 false (l8 v) = true:=by simp [l8,v9,c7]
@[simp] theorem z0j (o:Option (List Change)):c7 false (sl 6 l8 o) = true:=a0u p0E o
@[simp] theorem c0K (v:Named):v9 false (g9 v) = true:=by simp [g9,v9,c7]
@[simp] theorem f0x (o:Option (List Named)):c7 false (sl 2 g9 o) = true:=a0u c0K o
@[simp] theorem n0k (v:Span):v9 false (I5 v) = true:=by simp [I5,v9,c7]
@[simp] theorem D0e (o:Option (List Span)):c7 false (sl 2 I5 o) = true:=a0u n0k o
@[simp] theorem j0e (v:Tablet):v9 false (I4 v) = true:=by simp [I4,v9,c7]
@[simp] theorem z0d (o:Option (List Tablet)):c7 false (sl 4 I4 o) = true:=a0u j0e o
@[simp] theorem t0z (v:Vote):v9 false (j0C v) = true:=by simp [j0C,v9,c7]
@[simp] theorem B0r (o:Option (List Vote)):c7 false (sl 3 j0C o) = true:=a0u t0z o
@[simp] theorem o0r (v:Message):v9 false (h0q v) = true:=by simp [h0q,v9,c7]
@[simp] theorem y0k (o:Option (List Message)):c7 false (sl 10 h0q o) = true:=a0u o0r o
@[simp] theorem u0e (v:Item):v9 false (n0D v) = true:=by simp [n0D,v9,c7]
@[simp] theorem C0h (o:Option (List Item)):c7 false (sl 5 n0D o) = true:=a0u u0e o
@[simp] theorem y0v (v:KC):v9 false (w0j v) = true:=by simp [w0j,v9,c7]
@[simp] theorem F0u (o:Option (List KC)):c7 false (sl 7 w0j o) = true:=a0u y0v o
end Wm
namespace Go.Ab
open Wm
abbrev RC:=BL × AS
abbrev b0A (r:RC):List AS:=[.str r.1,r.2]
theorem d0K (r:RC):(b0A r).length = 2:=rfl
theorem d0U {st:Bool} (v:Version):v9 false (i9 v) = true:=by simp [i9,v9,c7]
theorem d0E (t:Version):∀ a ∈ i9 t,(∀ f y c,a ≠ .fn f y c)/\∀ t v,a ≠ .ifc t v:=by
 intro a ha
 simp only [i9,oqf,List.not_mem_nil,or_false] at ha
 rcases ha with rfl | rfl | rfl | rfl
 ·simp
 ·simp
 ·cases t.v.b <;> simp [bs,sl]
 ·simp
def a0G (rs:List RC):List Nat:=rs.filterMap fun r=>z7 r.2
@[simp] theorem F0I:a0G [] = []:=rfl
theorem i0b (a b:List RC):a0G (a++b) = a0G a++a0G b:=by simp [a0G]
def ColAt (h:H) (lo:Nat) (r:RC) (c:Column):Prop:=r.1 = c.name/\Sl h 4 i9 r.2 (ls c.l)/\(r.2 = .nilslc ↔ c.l = none)/\∀ b,z7 r.2 = some b->lo <= b/\b < h.next
theorem ColAt.keep {h h':H} {lo:Nat} {r:RC} {c:Column} (a:ColAt h lo r c) (hn:h.next <= h'.next) (hf:∀ b,z7 r.2 = some b->h'.f b = h.f b):ColAt h' lo r c :=
 ⟨a.1,a.2.1.keep hn hf,a.2.2.1,fun b hb=>⟨(a.2.2.2 b hb).1,by have:=(a.2.2.2 b hb).2;omega⟩⟩
def NestL (h:H) (lo:Nat):List RC->List Column->Prop
 | [],[]=>True
 | r::rs,c::cs=>ColAt h lo r c/\NestL h lo rs cs
 | _,_=>False
theorem NestL.len {h:H} {lo:Nat}:∀ {rs:List RC} {cs:List Column},NestL h lo rs cs->rs.length = cs.length
 | [],[],_=>rfl
 | r::rs,c::cs,a=>by simp [NestL.len a.2]
theorem h0O {r:RC} {rs:List RC} {b:Nat} (hr:r ∈ rs) (hb:z7 r.2 = some b):b ∈ a0G rs:=List.mem_filterMap.2 ⟨r,hr,hb⟩
theorem NestL.keep {h h':H} {lo:Nat} (hn:h.next <= h'.next):∀ {rs:List RC} {cs:List Column},NestL h lo rs cs->(∀ b ∈ a0G rs,h'.f b = h.f b)->NestL h' lo rs cs
 | [],[],_,_=>trivial
 | r::rs,c::cs,a,hf=>⟨a.1.keep hn fun b hb=>hf b (h0O (by simp) hb),a.2.keep hn fun b hb=>hf b (by
   obtain ⟨x,hx,e⟩:=List.mem_filterMap.1 hb
   exact h0O (List.mem_cons_of_mem _ hx) e)⟩
theorem NestL.app {h:H} {lo:Nat}:∀ {a:List RC} {x:List Column} {b:List RC} {y:List Column},NestL h lo a x->NestL h lo b y->NestL h lo (a++b) (x++y)
 | [],[],_,_,_,q=>q
 | r::a,c::x,b,y,p,q=>⟨p.1,NestL.app p.2 q⟩
theorem NestL.split {h:H} {lo:Nat}:∀ {a b:List RC} {cs:List Column},NestL h lo (a++b) cs->NestL h lo a (cs.take a.length)/\NestL h lo b (cs.drop a.length)
 | [],b,cs,p=>⟨by simp [NestL],by simpa using p⟩
 | r::a,b,[],p=>p.elim
 | r::a,b,c::cs,p=>by
  obtain ⟨q1,q2⟩:=NestL.split (a:=a) p.2
  exact ⟨⟨p.1,q1⟩,q2⟩
theorem NestL.lt {h:H} {lo:Nat}:∀ {rs:List RC} {cs:List Column},NestL h lo rs cs->∀ b ∈ a0G rs,lo <= b/\b < h.next
 | [],[],_,b,hb=>by simp at hb
 | r::rs,c::cs,a,b,hb=>by
  obtain ⟨x,hx,e⟩:=List.mem_filterMap.1 hb
  rcases oqf.1 hx with rfl | hx
  ·exact a.1.2.2.2 b e
  ·exact NestL.lt a.2 b (h0O hx e)
theorem NestL.at {h:H} {lo:Nat} {rs:List RC} {cs:List Column} (a:NestL h lo rs cs) (i:Nat) (hi:i < rs.length):ColAt h lo rs[i] (cs[i]'(a.len ▸ hi)):=by
 induction rs generalizing cs i with
 | nil=>simp at hi
 | cons r rs ih =>
  cases cs with
  | nil=>exact a.elim
  | cons c cs =>
   cases i with
   | zero=>exact a.1
   | succ i=>exact ih a.2 i (by simpa using hi)
theorem z0h {h h1:H} {lo:Nat} (hlo:h.next <= lo) {r:RC} {c:Column} (a:ColAt h1 lo r c) (n:Nat):(b0A r).mapM (z9 false (h1.over h.next) (n + 2)) = some (l7 c):=by
 obtain ⟨o,ho,h2,h3,h4,h5⟩:=n0M (h:=h) J0 (fun v=>d0U (st:=false) v) a.2.1 (fun b hb=>Nat.le_trans hlo (a.2.2.2 b hb).1) n
 have ho':o = c.l:=by
  by_cases hs:r.2 = .nilslc
  ·rw [h3 hs,a.2.2.1.1 hs]
  ·rw [h4 hs]
   cases hc:c.l with
   | none=>exact absurd (a.2.2.1.2 hc) hs
   | some l=>rfl
 have hx:∀ s,z9 false (h1.over h.next) (n + 2) (.str s) = some (.str s):=fun s=>by simp [z9,c7]
 simp only [b0A,List.mapM_cons,List.mapM_nil,hx,h5,ho',oqE,oqS,oqP,l7,a.1]
theorem x0i {h:H} {lo:Nat} {r:RC} {c:Column} (a:ColAt h lo r c) (n:Nat):(b0A r).mapM (N5 h (n + 2)) = some (l7 c):=by
 have hv:N5 h (n + 2) r.2 = some (sl 4 i9 c.l):=by
  rcases a.2.1 with ⟨e1,e2⟩ | ⟨b,v,z,e1,ar⟩
  ·rw [e1,a.2.2.1.1 e1];rfl
  ·cases hc:c.l with
   | none=>rw [a.2.2.1.2 hc] at e1;cases e1
   | some l =>
    rw [hc,K6] at e1 ar
    have hr:=V0 (l:=[]) J0 ar
    simp only [oql,oqc,Nat.zero_mul] at hr
    have h2:v9 false (cat i9 l) = true:=d0e _ fun x _=>d0U (st:=false) x
    have h3:∀ a ∈ cat i9 l,(∀ f x c,a ≠ .fn f x c)/\∀ t v,a ≠ .ifc t v:=by
     intro a ha
     obtain ⟨t,_,ht⟩:=List.mem_flatMap.1 ha
     exact d0E t a ht
    simp only [e1,N5,hr,oqE,oqS,f0f h2 h3,sl]
 have hx:∀ s,N5 h (n + 2) (.str s) = some (.str s):=fun s=>by simp [N5,c7]
 simp only [b0A,List.mapM_cons,List.mapM_nil,hx,hv,oqE,oqS,oqP,l7,a.1]
theorem l0N {f:AS->Option AS}:∀ {a b x y:List AS},a.mapM f = some x->b.mapM f = some y->(a++b).mapM f = some (x++y)
 | [],b,x,y,h1,h2=>by simp at h1;subst h1;simpa using h2
 | c::a,b,x,y,h1,h2=>by
  simp only [List.mapM_cons,oqE,oqB,oqP,oqI] at h1
  obtain ⟨c',e1,a',e2,rfl⟩:=h1
  simp only [oqm,List.mapM_cons,e1,l0N e2 h2,oqE,oqS,oqP]
theorem q0v {h h1:H} {lo:Nat} (hlo:h.next <= lo) (n:Nat):∀ {rs:List RC} {cs:List Column},NestL h1 lo rs cs->(cat b0A rs).mapM (z9 false (h1.over h.next) (n + 2)) = some (cat l7 cs)
 | [],[],_=>rfl
 | r::rs,c::cs,a=>by rw [X4,X4];exact l0N (z0h hlo a.1 n) (q0v hlo n a.2)
theorem m0u {h:H} {lo:Nat} (n:Nat):∀ {rs:List RC} {cs:List Column},NestL h lo rs cs->(cat b0A rs).mapM (N5 h (n + 2)) = some (cat l7 cs)
 | [],[],_=>rfl
 | r::rs,c::cs,a=>by rw [X4,X4];exact l0N (x0i a.1 n) (m0u n a.2)
structure RowAt (h:H) (lo:Nat) (s:AS) (rs:List RC) (o:Row):Prop where
 arr:Sl h 2 b0A s rs
 nil:s = .nilslc ↔ o = none
 own:∀ b,z7 s = some b->lo <= b/\b ∉ a0G rs
 col:NestL h lo rs (ls o)
 dis:(a0G rs).Nodup
theorem RowAt.frz {h h1:H} {lo:Nat} (hlo:h.next <= lo) {s:AS} {rs:List RC} {o:Row} (a:RowAt h1 lo s rs o) (n:Nat):z9 false (h1.over h.next) (n + 3) s = some (sl 2 l7 o):=by
 have hl:=a.col.len
 rcases a.arr with ⟨e1,e2⟩ | ⟨b,v,z,e1,ar⟩
 ·rw [e1,a.nil.1 e1];simp [z9,c7,sl]
 ·cases o with
  | none=>rw [a.nil.2 rfl] at e1;cases e1
  | some cs =>
   have hr:=V0 (l:=[]) d0K ar
   simp only [oql,oqc,Nat.zero_mul] at hr
   have hbb:=Nat.le_trans hlo (a.own b (by rw [e1];rfl)).1
   have hr':K8 (h1.over h.next) (.ptr b v 0) (rs.length * 2) = some (cat b0A rs):=by
    simp only [K8] at hr |-
    rw [show (h1.over h.next).f b = h1.f b by simp only [H.over,if_pos hbb]]
    exact hr
   simp only [e1,z9,hr',oqE,oqS,q0v hlo n a.col,sl]
   rw [hl];rfl
theorem RowAt.view {h:H} {lo:Nat} {s:AS} {rs:List RC} {o:Row} (a:RowAt h lo s rs o) (n:Nat):N5 h (n + 3) s = some (sl 2 l7 o):=by
 have hl:=a.col.len
 rcases a.arr with ⟨e1,e2⟩ | ⟨b,v,z,e1,ar⟩
 ·rw [e1,a.nil.1 e1];rfl
 ·cases o with
  | none=>rw [a.nil.2 rfl] at e1;cases e1
  | some cs =>
   have hr:=V0 (l:=[]) d0K ar
   simp only [oql,oqc,Nat.zero_mul] at hr
   simp only [e1,N5,hr,oqE,oqS,m0u n a.col,sl]
   rw [hl];rfl
theorem RowAt.keep {h h':H} {lo:Nat} {s:AS} {rs:List RC} {o:Row} (a:RowAt h lo s rs o) (hn:h.next <= h'.next) (hf:∀ b,b < h.next->z7 s = some b \/ b ∈ a0G rs->h'.f b = h.f b):RowAt h' lo s rs o :=
 ⟨a.arr.keep hn fun b hb=>hf b (a.arr.lt hb) (.inl hb),a.nil,a.own,a.col.keep hn fun b hb=>hf b (a.col.lt b hb).2 (.inr hb),a.dis⟩
theorem RowAt.new {h:H} {lo:Nat} {s:AS} {rs:List RC} {o:Row} (a:RowAt h lo s rs o) (k:Blk):RowAt (h.new k) lo s rs o:=a.keep (by simp) fun b hb _=>by rw [L8,if_neg (by omega)]
theorem RowAt.push {P:Program} {t el bytes:Nat} (ht:P.underlying t = some (.slice el)) (h1:V3 P t = some el) (h2:B5 P el = some 2) (h3:C3 P el = some bytes) {h g:H} {lo:Nat} {s:AS} {rs:List RC} {o:Row} (a:RowAt h lo s rs o) (hlo:lo <= h.next) (hn:h.next <= g.next) (hf:∀ b,b < h.next->z7 s = some b \/ b ∈ a0G rs->g.f b = h.f b)
  {n:BL} {s2:AS} {c:Column} (cc:ColAt g h.next (n,s2) c) (hlim:(rs.length + 601) * bytes + (rs.length + 1) <= N3) :
  ∃ s4 h4,X9 P t t (g.new ⟨0,[2],true,[.str n,s2]⟩) s (.slc g.next 0 0 1 2 none) = some (s4,h4)/\RowAt h4 lo s4 (rs++[(n,s2)]) (some (ls o++[c]))/\g.next < h4.next/\(∀ b,b <= g.next->z7 s ≠ some b->h4.f b = (g.new ⟨0,[2],true,[.str n,s2]⟩).f b)/\(∀ b,z7 s4 = some b->z7 s = some b \/ g.next < b):=by
 have a0:=a.keep hn hf
 have a1:=a0.new ⟨0,[2],true,[.str n,s2]⟩
 have hc1:cat b0A [(n,s2)] = [.str n,s2]:=rfl
 obtain ⟨s4,h4,e,⟨b4,v4,z4,rfl,ar⟩,q2,q3,q4⟩:=P7 (P:=P) ht h1 h2 h3 (by omega) d0K (a:=.slc g.next 0 0 1 2 none) (m:=[(n,s2)]) a1.arr rfl (by simp [C6,hc1]) (by simp) (by simp only [oqb,oqc,Nat.zero_add];omega)
 simp only [A6] at q2 q3 q4
 have hlt:=a.col.lt
 refine ⟨_,h4,e,⟨.inr ⟨b4,v4,z4,rfl,ar⟩,by simp,fun b hb=>?_, ?_, ?_⟩,by omega,fun b hb hx=>q3 b (by omega) hx,fun b hb=>by
  rcases q4 b hb with h | h
  ·exact .inl h
  ·exact .inr (by omega)⟩
 ·rw [i0b]
  have hs2:∀ x ∈ a0G [(n,s2)],h.next <= x/\x < g.next:=by
   intro x hx
   obtain ⟨r,hr,e⟩:=List.mem_filterMap.1 hx
   rw [List.mem_singleton.1 hr] at e
   exact cc.2.2.2 x e
  rcases q4 b hb with h | h
  ·have h6:=a.own b h
   have h7:=a.arr.lt h
   refine ⟨h6.1,fun hm=>?_⟩
   rcases oqe.1 hm with hm | hm
   ·exact h6.2 hm
   ·have:=(hs2 b hm).1;omega
  ·refine ⟨by omega,fun hm=>?_⟩
   rcases oqe.1 hm with hm | hm
   ·have:=(hlt b hm).2;omega
   ·have:=(hs2 b hm).2;omega
 ·refine NestL.app (a1.col.keep (by simpa using (by omega:g.next + 1 <= h4.next)) fun b hb=>?_) ⟨?_,trivial⟩
  ·have h8:=(a0.col.lt b hb).2
   refine q3 b (by omega) fun e=>(a.own b e).2 hb
  ·have c1:ColAt (g.new ⟨0,[2],true,[.str n,s2]⟩) h.next (n,s2) c:=cc.keep (by simp) fun b hb=>by
    have:=(cc.2.2.2 b hb).2
    rw [L8,if_neg (by omega)]
   have c2:ColAt h4 h.next (n,s2) c:=c1.keep (by simpa using (by omega:g.next + 1 <= h4.next)) fun b hb=>by
    have h8:=cc.2.2.2 b hb
    refine q3 b (by omega) fun e=>?_
    have:=a.arr.lt e;omega
   exact ⟨c2.1,c2.2.1,c2.2.2.1,fun b hb=>⟨by have:=(c2.2.2.2 b hb).1;omega,(c2.2.2.2 b hb).2⟩⟩
 ·rw [i0b]
  refine List.nodup_append.2 ⟨a.dis, ?_,fun x hx y hy e=>?_⟩
  ·unfold a0G
   cases hs:z7 s2 <;> simp [hs]
  ·obtain ⟨r,hr,e2⟩:=List.mem_filterMap.1 hy
   rw [List.mem_singleton.1 hr] at e2
   have:=(cc.2.2.2 y e2).1
   have:=(hlt x hx).2
   omega
theorem NestL.weaken {h:H} {lo lo':Nat} (hl:lo' <= lo):∀ {rs:List RC} {cs:List Column},NestL h lo rs cs->NestL h lo' rs cs
 | [],[],_=>trivial
 | r::rs,c::cs,a=>⟨⟨a.1.1,a.1.2.1,a.1.2.2.1,fun b hb=>⟨by have:=(a.1.2.2.2 b hb).1;omega,(a.1.2.2.2 b hb).2⟩⟩,a.2.weaken hl⟩
theorem RowAt.weaken {h:H} {lo lo':Nat} {s:AS} {rs:List RC} {o:Row} (a:RowAt h lo s rs o) (hl:lo' <= lo):RowAt h lo' s rs o :=
 ⟨a.arr,a.nil,fun b hb=>⟨by have:=(a.own b hb).1;omega,(a.own b hb).2⟩,a.col.weaken hl,a.dis⟩
theorem p0Y {M:List AS} {o:Nat} {x y s5:AS} (hs:sub M o 2 = some [x,y]):lay M (o + 1) [s5] = lay M o [x,s5]:=by
 unfold sub at hs
 split at hs
 ·rename_i hle
  simp only [oqI] at hs
  have h1:M.drop o = x::M.drop (o + 1):=by
   have:M.drop o = M[o]::M.drop (o + 1):=List.drop_eq_getElem_cons (by omega)
   rw [this] at hs |-
   simp only [List.take_succ_cons,List.cons.injEq] at hs
   rw [hs.1]
  have h2:M.take (o + 1) = M.take o++[x]:=by
   rw [List.take_add,h1];simp
  unfold lay
  rw [h2]
  simp only [oqb,oqc,oqh,List.singleton_append,oqm,oql,Nat.zero_add,Nat.add_assoc]
 ·cases hs
theorem NestL.set {h:H} {lo:Nat}:∀ {rs:List RC} {cs:List Column} {i:Nat} {r:RC} {c:Column},NestL h lo rs cs->ColAt h lo r c->NestL h lo (rs.set i r) (cs.set i c)
 | [],[],_,_,_,_,_=>trivial
 | _::_,_::_,0,_,_,a,cc=>⟨cc,a.2⟩
 | _::_,_::_,i + 1,_,_,a,cc=>⟨a.1,NestL.set a.2 cc⟩
theorem f0k {rs:List RC} {b:Nat} (h:b ∈ a0G rs):∃ i,∃ hi:i < rs.length,z7 rs[i].2 = some b:=by
 obtain ⟨r,hr,e⟩:=List.mem_filterMap.1 h
 obtain ⟨i,hi,e2⟩:=List.getElem_of_mem hr
 exact ⟨i,hi,by rw [e2];exact e⟩
theorem q0j {rs:List RC} {i:Nat} (hi:i < rs.length) {r:RC} {b:Nat} (h:b ∈ a0G (rs.set i r)):z7 r.2 = some b \/ ∃ j,∃ hj:j < rs.length,j ≠ i/\z7 rs[j].2 = some b:=by
 obtain ⟨j,hj,e⟩:=f0k h
 rw [List.length_set] at hj
 rw [List.getElem_set] at e
 split at e
 ·exact .inl e
 ·exact .inr ⟨j,hj,by omega,e⟩
theorem c0w {rs:List RC} {i:Nat} (hi:i < rs.length) {b:Nat} (h:z7 rs[i].2 = some b):b ∈ a0G rs:=h0O (List.getElem_mem hi) h
theorem g0Q {rs:List RC} (hd:(a0G rs).Nodup) {i j:Nat} (hi:i < rs.length) (hj:j < rs.length) {b:Nat} (h1:z7 rs[i].2 = some b) (h2:z7 rs[j].2 = some b):i = j:=by
 induction rs generalizing i j with
 | nil=>simp at hi
 | cons r rs ih =>
  have hd':(a0G rs).Nodup:=by
   unfold a0G at hd |-
   cases hr:z7 r.2 with
   | none=>simpa [hr] using hd
   | some x=>simp only [List.filterMap_cons,hr] at hd;exact (List.nodup_cons.1 hd).2
  cases i with
  | zero =>
   cases j with
   | zero=>rfl
   | succ j =>
    simp only [List.getElem_cons_zero] at h1
    simp only [List.getElem_cons_succ] at h2
    unfold a0G at hd
    simp only [List.filterMap_cons,h1] at hd
    exact absurd (c0w (by simpa using hj) h2) (List.nodup_cons.1 hd).1
  | succ i =>
   cases j with
   | zero =>
    simp only [List.getElem_cons_zero] at h2
    simp only [List.getElem_cons_succ] at h1
    unfold a0G at hd
    simp only [List.filterMap_cons,h2] at hd
    exact absurd (c0w (by simpa using hi) h1) (List.nodup_cons.1 hd).1
   | succ j =>
    simp only [List.getElem_cons_succ] at h1 h2
    rw [ih hd' (by simpa using hi) (by simpa using hj) h1 h2]
theorem k0Q {rs:List RC} (hd:(a0G rs).Nodup) {i:Nat} (hi:i < rs.length) {r:RC} (hr:∀ b,z7 r.2 = some b->∀ j,∀ hj:j < rs.length,j ≠ i->z7 rs[j].2 ≠ some b):(a0G (rs.set i r)).Nodup:=by
 induction rs generalizing i with
 | nil=>simp at hi
 | cons q rs ih =>
  have hd':(a0G rs).Nodup:=by
   unfold a0G at hd |-
   cases hq:z7 q.2 with
   | none=>simpa [hq] using hd
   | some x=>simp only [List.filterMap_cons,hq] at hd;exact (List.nodup_cons.1 hd).2
  cases i with
  | zero =>
   simp only [List.set_cons_zero]
   unfold a0G
   cases hb:z7 r.2 with
   | none=>simp only [List.filterMap_cons,hb];exact hd'
   | some b =>
    simp only [List.filterMap_cons,hb]
    refine List.nodup_cons.2 ⟨fun hm=>?_,hd'⟩
    obtain ⟨j,hj,e⟩:=f0k hm
    exact hr b hb (j + 1) (by simpa using hj) (by omega) (by simpa using e)
  | succ i =>
   simp only [List.set_cons_succ]
   have hrec:=ih hd' (by simpa using hi) (fun b hb j hj hne=>by
    have:=hr b hb (j + 1) (by simpa using hj) (by omega)
    simpa using this)
   unfold a0G
   cases hq:z7 q.2 with
   | none=>simp only [List.filterMap_cons,hq];exact hrec
   | some x =>
    simp only [List.filterMap_cons,hq]
    refine List.nodup_cons.2 ⟨fun hm=>?_,hrec⟩
    rcases q0j (by simpa using hi) hm with e | ⟨j,hj,_,e⟩
    ·exact hr x e 0 (by simp) (by omega) (by simpa using hq)
    ·have:=g0Q hd (i:=0) (j:=j + 1) (by simp) (by simpa using hj) (b:=x) (by simpa using hq) (by simpa using e)
     omega
theorem RowAt.setAt {h h':H} {lo:Nat} {b v:Nat} {rs:List RC} {cs:List Column} (a:RowAt h lo (.slc b v 0 rs.length 2 none) rs (some cs)) {i:Nat} (hi:i < rs.length) (hn:h.next <= h'.next) (hf:∀ x,x < h.next->z7 rs[i].2 ≠ some x->h'.f x = h.f x)
  {s5:AS} {c:Column} (cc:ColAt h' lo (rs[i].1,s5) c) (ho:∀ x,z7 s5 = some x->z7 rs[i].2 = some x \/ h.next <= x) :
  ∃ fx ex M,h'.f b = some ⟨v,M.length::ex,fx,M⟩/\i * 2 + 2 <= M.length/\sub M (i * 2) 2 = some (b0A rs[i])/\RowAt (h'.set b ⟨v,[M.length],fx,lay M (i * 2 + 1) [s5]⟩) lo (.slc b v 0 rs.length 2 none) (rs.set i (rs[i].1,s5)) (some (cs.set i c)):=by
 obtain ⟨ar,hnil,own,col,dis⟩:=a
 obtain ⟨hbl,hbn⟩:=own b rfl
 rcases ar with ⟨e,_⟩ | ⟨b',v',z,e,ar⟩
 ·cases e
 cases e
 have hbb:z7 rs[i].2 ≠ some b:=fun e=>hbn (c0w hi e)
 have ar':Arr h' b0A b v rs z:=ar.keep hn (hf b ar.1 hbb)
 obtain ⟨fx,ex,M,hfb,hM,_,hrd,hwr⟩:=ar'.cells d0K
 obtain ⟨h1,h2⟩:=hrd i hi
 have hs5:∀ x,z7 s5 = some x->x ≠ b:=by
  rintro x hx rfl
  rcases ho _ hx with e | e
  ·exact hbb e
  ·have:=ar.1;omega
 have hlt:∀ j (hj:j < rs.length) x,z7 rs[j].2 = some x->x < h.next:=fun j hj x hx=>(col.lt x (c0w hj hx)).2
 refine ⟨fx,ex,M,hfb,h1,h2, ?_⟩
 have hl:lay M (i * 2 + 1) [s5] = lay M (i * 2) (b0A (rs[i].1,s5)):=p0Y h2
 rw [hl]
 have har:=hwr (h'.set b ⟨v,[M.length],fx,lay M (i * 2) (b0A (rs[i].1,s5))⟩) i (rs[i].1,s5) hi (by simpa using ar'.1) (by simp)
 have hkeep:∀ j (hj:j < rs.length),j ≠ i->∀ x,z7 rs[j].2 = some x->(h'.set b ⟨v,[M.length],fx,lay M (i * 2) (b0A (rs[i].1,s5))⟩).f x = h.f x:=fun j hj hji x hx=>by
  have hxb:x ≠ b:=by rintro rfl;exact hbn (c0w hj hx)
  rw [l0,if_neg hxb,hf x (hlt j hj x hx) fun e=>hji (g0Q dis hj hi hx e)]
 refine ⟨.inr ⟨b,v,z,by simp,har⟩,by simp,fun x hx=>?_, ?_, ?_⟩
 ·cases hx
  refine ⟨hbl,fun hm=>?_⟩
  rcases q0j hi hm with e | ⟨j,hj,_,e⟩
  ·exact hs5 _ e rfl
  ·exact hbn (c0w hj e)
 ·-- each column
  have hcc:ColAt (h'.set b ⟨v,[M.length],fx,lay M (i * 2) (b0A (rs[i].1,s5))⟩) lo (rs[i].1,s5) c:=cc.keep (by simp) fun x hx=>by rw [l0,if_neg (hs5 x hx)]
  have key:∀ (rs':List RC) (cs':List Column) (k:Nat),NestL h lo rs' cs'->(∀ j (hj:j < rs'.length),j ≠ k->∀ x,z7 rs'[j].2 = some x->(h'.set b ⟨v,[M.length],fx,lay M (i * 2) (b0A (rs[i].1,s5))⟩).f x = h.f x)->NestL (h'.set b ⟨v,[M.length],fx,lay M (i * 2) (b0A (rs[i].1,s5))⟩) lo (rs'.set k (rs[i].1,s5)) (cs'.set k c):=by
   intro rs'
   induction rs' with
   | nil =>
    intro cs' k hN _
    cases cs' with
    | nil=>trivial
    | cons _ _=>exact hN.elim
   | cons r rs' ih =>
    intro cs' k hN hk
    cases cs' with
    | nil=>exact hN.elim
    | cons c' cs' =>
     cases k with
     | zero =>
      refine ⟨hcc,hN.2.keep (by simpa using hn) fun x hx=>?_⟩
      obtain ⟨j,hj,e⟩:=f0k hx
      exact hk (j + 1) (by simpa using hj) (by omega) x (by simpa using e)
     | succ k =>
      refine ⟨hN.1.keep (by simpa using hn) fun x hx=>hk 0 (by simp) (by omega) x (by simpa using hx),ih cs' k hN.2 fun j hj hjk x hx=>hk (j + 1) (by simpa using hj) (by omega) x (by simpa using hx)⟩
  simpa using key rs cs i col hkeep
 ·refine k0Q dis hi fun x hx j hj hji e=>?_
  rcases ho x hx with e2 | e2
  ·exact hji (g0Q dis hj hi e e2)
  ·have:=hlt j hj x e;omega
end Go.Ab
namespace Go.Ab
open Wm
theorem t0M (h:H):h.over 0 = h:=by
 unfold H.over
 congr 1
theorem RowAt.frz0 {h:H} {lo:Nat} {s:AS} {rs:List RC} {o:Row} (a:RowAt h lo s rs o) (n:Nat):z9 false h (n + 3) s = some (sl 2 l7 o):=by
 have:=RowAt.frz (h:=H.empty) (Nat.zero_le _) a n
 rwa [show H.empty.next = 0 from rfl,t0M] at this
theorem NestL.ins {h:H} {lo:Nat}:∀ {rs:List RC} {cs:List Column} {i:Nat} {r:RC} {c:Column},NestL h lo rs cs->ColAt h lo r c->i <= rs.length->NestL h lo (rs.insertIdx i r) (cs.insertIdx i c)
 | rs,cs,0,r,c,a,cc,_=>by cases rs <;> cases cs <;> first | exact ⟨cc,a⟩ | exact a.elim
 | r'::rs,c'::cs,i + 1,r,c,a,cc,hi=>by
  simp only [List.insertIdx_succ_cons]
  exact ⟨a.1,NestL.ins a.2 cc (by simpa using hi)⟩
 | [],cs,i + 1,_,_,a,_,hi=>by simp at hi
 | _::_,[],i + 1,_,_,a,_,_=>a.elim
theorem i0c {rs:List RC} {i:Nat} (hi:i <= rs.length) (n:BL):a0G (rs.insertIdx i (n,.nilslc)) = a0G rs:=by
 rw [c0I hi,i0b]
 have:a0G ((n,AS.nilslc)::rs.drop i) = a0G (rs.drop i):=by simp [a0G,z7]
 rw [this,<- i0b,List.take_append_drop]
theorem RowAt.insNil {h h':H} {lo:Nat} {s:AS} {rs:List RC} {o:Row} (a:RowAt h lo s rs o) (hlo:lo <= h.next) {i:Nat} (hi:i <= rs.length) {n:BL} {s':AS} {b v:Nat} {z:List AS} (hs':s' = .slc b v 0 (rs.insertIdx i (n,.nilslc)).length 2 none) (ar:Arr h' b0A b v (rs.insertIdx i (n,.nilslc)) z)
  (hn:h.next <= h'.next) (hf:∀ x,x < h.next->z7 s ≠ some x->h'.f x = h.f x) (ho:∀ x,z7 s' = some x->z7 s = some x \/ h.next <= x):RowAt h' lo s' (rs.insertIdx i (n,.nilslc)) (some ((ls o).insertIdx i ⟨n,none⟩)) where
 arr:=.inr ⟨b,v,z,hs',ar⟩
 nil:=by rw [hs'];simp
 own x hx:=by
  rw [i0c hi]
  rcases ho x hx with e | e
  ·exact a.own x e
  ·exact ⟨by omega,fun hm=>by have:=(a.col.lt x hm).2;omega⟩
 col:=NestL.ins (a.col.keep hn fun x hx=>hf x (a.col.lt x hx).2 fun e=>(a.own x e).2 hx) ⟨rfl,.inl ⟨rfl,rfl⟩,by simp,fun x hx=>by cases hx⟩ hi
 dis:=by rw [i0c hi];exact a.dis
theorem L5 (a:AS) (l:List AS) (x:AS) (new:List AS):lay (a::l) 0 (x::new) = x::lay l 0 new:=by simp [lay,Nat.add_comm]
theorem L6 (l:List AS):lay l 0 [] = l:=by simp [lay]
theorem O6 (a:AS) (l:List AS) (o:Nat) (new:List AS):lay (a::l) (o + 1) new = a::lay l o new:=by
 simp only [lay,List.take_succ_cons,oqm,List.cons.injEq,true_and]
 congr 2
 rw [Nat.add_right_comm,List.drop_succ_cons]
end Go.Ab
namespace Go.Ab
open Wm
theorem NestL.erase {h:H} {lo:Nat}:∀ {rs:List RC} {cs:List Column} (i:Nat),NestL h lo rs cs->NestL h lo (rs.eraseIdx i) (cs.eraseIdx i)
 | [],[],_,_=>trivial
 | _::_,_::_,0,a=>a.2
 | _::_,_::_,i + 1,a=>⟨a.1,NestL.erase i a.2⟩
theorem RowAt.eraseAt {h h':H} {lo:Nat} {b v:Nat} {rs:List RC} {cs:List Column} (a:RowAt h lo (.slc b v 0 rs.length 2 none) rs (some cs)) {i:Nat} (hi:i < rs.length) (hn:h'.next = h.next) (hf:∀ y,y ≠ b->h'.f y = h.f y) {z':List AS} (ar:Arr h' b0A b v (rs.eraseIdx i) z') :
  RowAt h' lo (.slc b v 0 (rs.length - 1) 2 none) (rs.eraseIdx i) (some (cs.eraseIdx i)) where
 arr:=.inr ⟨b,v,z',by rw [List.length_eraseIdx,if_pos hi],ar⟩
 nil:=by simp
 own x hx:=by
  cases hx
  refine ⟨(a.own b rfl).1,fun hm=>(a.own b rfl).2 ?_⟩
  exact ((List.eraseIdx_sublist rs i).filterMap _).subset hm
 col:=(NestL.erase i a.col).keep (by omega) fun x hx=>hf x (by
  rintro rfl
  exact (a.own _ rfl).2 (((List.eraseIdx_sublist rs i).filterMap _).subset hx))
 dis:=a.dis.sublist ((List.eraseIdx_sublist rs i).filterMap _)
end Go.Ab
namespace Wm
open Go Go.Ab
def blt (a b:BL):Bool:=Op.bytesLess a b
abbrev f0w (o:Option BL):Nat:=(ls o).length
def J9 (s:BL):Bool:=decide (0 < s.length) && decide (s.length <= 16)
def V7 (v:Value):Bool:=(v.kind == 1 && decide (f0w v.b <= 16)) || v.kind == 2
def n0L (k:Int):Bool × Bool × Bool × Bool :=
 if k = 1 \/ k = 5 then (true,true,true,true) else if k = 2 then (true,true,false,true) else if k = 3 then (true,false,false,true) else if k = 4 then (false,false,false,true) else (false,false,false,false)
def K5 (c:Change):Int :=
 let a:=n0L c.kind
 if a.2.2.2 = false then 24
 else if (a.1 && !J9 c.col) || (a.2.1 && (decide (c.time < 0) || decide (1099511627776 < c.time))) || (a.2.2.1 && !V7 c.v) then 1
 else if c.kind = 5/\c.v.kind ≠ 2 then 24 else 0
def o0D (c:Cond):Bool:=!c.has || (J9 c.col && (!c.want || V7 c.v))
def K4 (s:Span):Bool:=decide (s.lo.length <= 16) && decide (s.hi.length <= 16) && (s.hi == [] || blt s.lo s.hi)
def G9 (s:Span) (n:BL):Bool:=!blt n s.lo && (s.hi == [] || blt n s.hi)
def a0S (s:Span) (at_:BL):Bool:=K4 s && (blt s.lo at_ && ((s.hi == [] || blt at_ s.hi) && K4 ⟨s.lo,at_⟩))
def h0X (o:Op):Bool :=
 if o.kind = 1 then J9 o.row
 else if o.kind = 2 then J9 o.row && (o0D o.cond && (decide (0 < (ls o.l).length) && (decide ((ls o.l).length <= 8) && (ls o.l).all fun c=>K5 c == 0)))
 else if o.kind = 3 then K4 ⟨o.row,o.hi⟩ && (decide (1 <= o.most) && decide (o.most <= 16))
 else false
def f0q (n:Int):Bool:=decide (1 <= n) && decide (n <= 1073741824)
def i0J (n m:Int):Bool:=decide (0 <= n) && decide (n <= m)
def c0j (c:Command):Bool :=
 if c.kind = 1 then h0X c.op
 else if c.kind = 2 \/ c.kind = 4 then K4 c.span && f0q c.gen
 else if c.kind = 3 then K4 c.span && (f0q c.gen && decide (f0w c.state <= 1048576))
 else if c.kind = 5 \/ c.kind = 6 then a0S c.span c.at_ && f0q c.gen
 else if c.kind = 7 then decide (c.at_.length <= 16)
 else if c.kind = 8 then c.do_ == 0 || (decide (1 <= c.do_) && (decide (c.do_ <= 3) && (decide (c.at_.length <= 16) && i0J c.to 255)))
 else if c.kind = 9 then f0q c.gen && (c.to == 0 || c.to == -1)
 else c.kind == 10
theorem g0x (a b:UInt8):a < b ↔ a.toNat < b.toNat:=Iff.rfl
theorem t0T (a b:UInt8):a = b ↔ a.toNat = b.toNat:=⟨fun h=>by rw [h],fun h=>UInt8.toNat_inj.1 h⟩
theorem X1:∀ a:BL,Op.bytesLess a a = false
 | []=>rfl
 | a::x=>by simp [Op.bytesLess,X1 x]
theorem a0c:∀ {a b:BL},Op.bytesLess a b = true->Op.bytesLess b a = false
 | [],[],h=>by cases h
 | [],_::_,_=>rfl
 | _::_,[],h=>by cases h
 | a::x,b::y,h=>by
  simp only [Op.bytesLess,Bool.or_eq_true,oqj,oqd,beq_iff_eq] at h
  simp only [Op.bytesLess,Bool.or_eq_false_iff,decide_eq_false_iff_not,Bool.and_eq_false_iff]
  rcases h with h | ⟨rfl,h⟩
  ·rw [g0x] at *
   refine ⟨by omega,.inl ?_⟩
   simp;rintro rfl;omega
  ·exact ⟨by rw [g0x];omega,.inr (a0c h)⟩
theorem a0a:∀ {a b:BL},Op.bytesLess a b = false->Op.bytesLess b a = false->a = b
 | [],[],_,_=>rfl
 | [],_::_,h,_=>by cases h
 | _::_,[],_,h=>by cases h
 | a::x,b::y,h,k=>by
  simp only [Op.bytesLess,Bool.or_eq_false_iff,decide_eq_false_iff_not,Bool.and_eq_false_iff,beq_eq_false_iff_ne] at h k
  have hab:a = b:=by
   rw [t0T]
   have h1:=h.1;have k1:=k.1
   rw [g0x] at h1 k1;omega
  subst hab
  have h2:Op.bytesLess x y = false:=by rcases h.2 with h | h;exact absurd rfl h;exact h
  have k2:Op.bytesLess y x = false:=by rcases k.2 with h | h;exact absurd rfl h;exact h
  rw [a0a h2 k2]
theorem h0s:∀ {a b c:BL},Op.bytesLess a b = true->Op.bytesLess b c = true->Op.bytesLess a c = true
 | [],[],_,h,_=>by cases h
 | _::_,[],_,h,_=>by cases h
 | _,_::_,[],_,h=>by cases h
 | [],_::_,_::_,_,_=>rfl
 | a::x,b::y,c::z,h,k=>by
  simp only [Op.bytesLess,Bool.or_eq_true,oqj,oqd,beq_iff_eq] at h k |-
  rcases h with h | ⟨rfl,h⟩
  ·rcases k with k | ⟨rfl,k⟩
   ·left;rw [g0x] at *;omega
   ·exact .inl h
  ·rcases k with k | ⟨rfl,k⟩
   ·exact .inl k
   ·exact .inr ⟨rfl,h0s h k⟩
@[simp] theorem C0J (a b:BL):(Op.bytesLess a b || a == b) = !Op.bytesLess b a:=by
 cases h:Op.bytesLess a b
 ·cases k:Op.bytesLess b a
  ·simp [a0a h k]
  ·simp;rintro rfl;rw [X1] at k;cases k
 ·simp [a0c h]
@[simp ↓] theorem I0p (n:Nat):decide ((n:Int) <= 8) = decide (n <= 8):=by rw [decide_eq_decide];omega
@[simp ↓] theorem I0o (n:Nat):decide ((8:Int) < n) = decide (8 < n):=by rw [decide_eq_decide];omega
@[simp] theorem I0s (n:Nat):((n:Int) <= 8) = (n <= 8):=by apply propext;omega
@[simp] theorem I0t (n:Nat):((8:Int) < n) = (8 < n):=by apply propext;omega
@[simp ↓] theorem H0V (n:Nat):decide ((n:Int) <= 16) = decide (n <= 16):=by rw [decide_eq_decide];omega
@[simp ↓] theorem I0e (n:Nat):decide ((16:Int) < n) = decide (16 < n):=by rw [decide_eq_decide];omega
@[simp] theorem I0r (n:Nat):((n:Int) <= 16) = (n <= 16):=by apply propext;omega
@[simp] theorem I0q (n:Nat):((16:Int) < n) = (16 < n):=by apply propext;omega
@[simp ↓] theorem H0v (n:Nat):decide ((n:Int) <= 255) = decide (n <= 255):=by rw [decide_eq_decide];omega
@[simp ↓] theorem G0Y (n:Nat):decide ((255:Int) < n) = decide (255 < n):=by rw [decide_eq_decide];omega
@[simp] theorem I0m (n:Nat):((n:Int) <= 255) = (n <= 255):=by apply propext;omega
@[simp] theorem I0k (n:Nat):((255:Int) < n) = (255 < n):=by apply propext;omega
@[simp ↓] theorem B0d (n:Nat):decide ((n:Int) <= 1048576) = decide (n <= 1048576):=by rw [decide_eq_decide];omega
@[simp ↓] theorem A0D (n:Nat):decide ((1048576:Int) < n) = decide (1048576 < n):=by rw [decide_eq_decide];omega
@[simp] theorem C0a (n:Nat):((n:Int) <= 1048576) = (n <= 1048576):=by apply propext;omega
@[simp] theorem D0b (n:Nat):((1048576:Int) < n) = (1048576 < n):=by apply propext;omega
@[simp ↓] theorem D0F (n:Nat):decide ((n:Int) <= 65535) = decide (n <= 65535):=by rw [decide_eq_decide];omega
@[simp ↓] theorem D0U (n:Nat):decide ((65535:Int) < n) = decide (65535 < n):=by rw [decide_eq_decide];omega
@[simp] theorem G0E (n:Nat):((n:Int) <= 65535) = (n <= 65535):=by apply propext;omega
@[simp] theorem F0m (n:Nat):((65535:Int) < n) = (65535 < n):=by apply propext;omega
@[simp ↓] theorem H0b (n:Nat):decide ((n:Int) <= 256) = decide (n <= 256):=by rw [decide_eq_decide];omega
@[simp ↓] theorem G0U (n:Nat):decide ((256:Int) < n) = decide (256 < n):=by rw [decide_eq_decide];omega
@[simp] theorem I0i (n:Nat):((n:Int) <= 256) = (n <= 256):=by apply propext;omega
@[simp] theorem I0c (n:Nat):((256:Int) < n) = (256 < n):=by apply propext;omega
def be:Nat->Nat->BL
 | 0,_=>[]
 | k + 1,n=>UInt8.ofNat (n / 256 ^ k)::be k n
theorem c8:∀ k n,(be k n).length = k
 | 0,_=>rfl
 | k + 1,n=>by simp [be,c8 k n]
def u8 (n:Int):UInt8:=UInt8.ofNat (n % 256).toNat
def u32 (n:Int):Nat:=(n % 4294967296).toNat
def u64 (n:Int):Nat:=(n % 18446744073709551616).toNat
def I1 (b:BL):BL:=be 4 b.length++b
def N8 (n:Int):BL:=be 4 (u32 n)
def b0K (n:Int):BL:=be 8 (u64 n)
def a0n (b:Nat):Nat:=if NumPlain.isN b then 9221120237041090561 else b
def a0W (v:Value):BL:=if v.kind = 1 then 1::I1 (ls v.b) else if v.kind = 2 then 2::be 8 (a0n v.n) else [0]
def L7 (s:Span):BL:=I1 s.lo++I1 s.hi
end Wm
namespace Wm
open Go Go.Ab
def b0j (n lo hi:Int):Int:=if lo <= n/\n <= hi then n else lo + (if n.tmod (hi - lo + 1) < 0 then n.tmod (hi - lo + 1) + hi - lo + 1 else n.tmod (hi - lo + 1))
theorem c0Q {n lo hi:Int} (h:lo <= hi):lo <= b0j n lo hi/\b0j n lo hi <= hi:=by
 unfold b0j
 split
 ·assumption
 ·have hd:0 < hi - lo + 1:=by omega
  have h1:=Int.tmod_lt_of_pos n hd
  have h2:-(hi - lo + 1) < n.tmod (hi - lo + 1):=by
   rcases Int.le_total 0 n with h | h
   ·have:=Int.tmod_nonneg (hi - lo + 1) h;omega
   ·have h3:=Int.tmod_lt_of_pos (-n) hd
    rw [Int.neg_tmod] at h3;omega
  split <;> omega
def m20 (n:Int):Int:=b0j n 0 1048576
theorem r0f (n:Int):0 <= m20 n/\m20 n <= 1048576:=c0Q (by omega)
def c0G:List BL:=[[97],[98],[109],[110],[122],[109,97],[122,122],[48]]
def m0O (l:List BL) (n:Int):BL:=(l[(m20 n % l.length).toNat]?).getD []
def j0Q (n:Int):BL:=m0O c0G n
def k0I:Cond:=⟨false,false,[],⟨0,none,0⟩⟩
@[simp] theorem G0d (a:BL):Op.bytesLess a [] = false:=by cases a <;> rfl
@[simp] theorem F0V (a:BL):Op.bytesLess [] a = !a.isEmpty:=by cases a <;> rfl
@[simp] theorem sl_none {α:Type} (s:Nat) (enc:α->List AS):sl s enc none = .nilslc:=rfl
end Wm
namespace Wm
open Go Go.Ab
theorem u0N {l:List BL} (hl:l ≠ []) (n:Int):m0O l n ∈ l:=by
 unfold m0O
 have hp:0 < l.length:=List.length_pos_iff.2 hl
 have h0:=Int.emod_nonneg (m20 n) (show (l.length:Int) ≠ 0 by omega)
 have h1:=Int.emod_lt_of_pos (m20 n) (show (0:Int) < l.length by omega)
 have hk:(m20 n % l.length).toNat < l.length:=by omega
 rw [List.getElem?_eq_getElem hk,Option.getD_some]
 exact List.getElem_mem hk
theorem l0c (n:Int):J9 (j0Q n) = true:=by
 have h:∀ s ∈ c0G,J9 s = true:=by decide
 exact h _ (u0N (by decide) n)
theorem h0F {s:BL} (h:J9 s = true):s.length <= 16:=by
 unfold J9 at h;simp only [oqd,oqj] at h;exact h.2
structure OpIs (o:Op):Prop where
 ok:h0X o = true
 row:o.row.length <= 16
 hi:o.hi.length <= 16
 col:o.cond.col.length <= 16
 cv:(ls o.cond.v.b).length <= 16
 l:∀ c ∈ ls o.l,c.col.length <= 16/\(ls c.v.b).length <= 16
 n:(ls o.l).length <= 4
end Wm
namespace Wm
open Go Go.Ab
def g0A (l:BL):Nat:=l.foldl (fun a b=>a * 256 + b.toNat) 0
@[simp] theorem F0w:g0A [] = 0:=rfl
theorem i0q (l:BL) (b:UInt8):g0A (l++[b]) = g0A l * 256 + b.toNat:=by simp [g0A,List.foldl_append]
theorem x0a (b:UInt8):g0A [b] = b.toNat:=by simp [g0A]
theorem y0U (l:BL):∀ (a n:Nat),a < 256 ^ n->l.foldl (fun a b=>a * 256 + b.toNat) a < 256 ^ (n + l.length):=by
 induction l with
 | nil=>intro a n h;simpa using h
 | cons b l ih =>
  intro a n h
  simp only [List.foldl_cons,oqb]
  have hb:b.toNat < 256:=b.toNat_lt
  have h2:a * 256 + b.toNat < 256 ^ (n + 1):=by rw [Nat.pow_succ];omega
  have:=ih _ _ h2
  rwa [show n + 1 + l.length = n + (l.length + 1) by omega] at this
theorem s0U (l:BL):g0A l < 256 ^ l.length:=by
 have:=y0U l 0 0 (by simp)
 simpa [g0A] using this
theorem s0I:∀ (k a n:Nat),(be k n).foldl (fun a b=>a * 256 + b.toNat) a = a * 256 ^ k + n % 256 ^ k
 | 0,a,n=>by simp [be,Nat.mod_one]
 | k + 1,a,n=>by
  simp only [be,List.foldl_cons,s0I k]
  rw [UInt8.toNat_ofNat']
  have e:n / 256 ^ k % 2 ^ 8 = n / 256 ^ k % 256:=rfl
  have e2:n % 256 ^ (k + 1) = n % 256 ^ k + 256 ^ k * (n / 256 ^ k % 256):=by rw [Nat.pow_succ,Nat.mod_mul]
  rw [e,e2,Nat.pow_succ,Nat.add_mul,Nat.mul_assoc,Nat.mul_comm 256,Nat.mul_comm (n / 256 ^ k % 256)]
  omega
theorem y0D {k n:Nat} (h:n < 256 ^ k):g0A (be k n) = n:=by
 unfold g0A;rw [s0I,Nat.mod_eq_of_lt h];omega
theorem z0f {a b:Nat} (ha:a < 72057594037927936) (hb:b < 256):orI .u64 ((a * 256:Nat):Int) (b:Nat) = ((a * 256 + b:Nat):Int):=by
 unfold orI
 have h1:(BitVec.ofInt IntKind.u64.bits ((a * 256:Nat):Int) ||| BitVec.ofInt IntKind.u64.bits (b:Nat)).toNat = a * 256 + b:=by
  rw [BitVec.ofInt_natCast,BitVec.ofInt_natCast,BitVec.toNat_or,BitVec.toNat_ofNat,BitVec.toNat_ofNat]
  have e:IntKind.u64.bits = 64:=rfl
  rw [e,Nat.mod_eq_of_lt (by omega),Nat.mod_eq_of_lt (by omega)]
  have:=Nat.shiftLeft_add_eq_or_of_lt (i:=8) (b:=b) (by omega) a
  rw [Nat.shiftLeft_eq] at this
  exact this.symm
 rw [h1,c0M (by omega) (by omega)]
theorem v0N {a:Nat} (ha:a < 72057594037927936):a0Y .shl .u64 (a:Nat) 8 = some (.int .u64 ((a * 256:Nat):Int)):=by
 unfold a0Y
 rw [if_neg (by omega)]
 have e:(2:Int) ^ min (8:Int).toNat IntKind.u64.bits = 256:=rfl
 simp only [e]
 rw [c0M (by omega) (by omega)]
 simp
end Wm
namespace Wm
variable {α:Type}
theorem f0F {P:List α->Prop} (h0:P []) (h1:∀ l x,P l->P (l++[x])) (l:List α):P l:=by
 have:∀ n (l:List α),l.length = n->P l:=by
  intro n
  induction n with
  | zero=>intro l h;rw [List.eq_nil_of_length_eq_zero h];exact h0
  | succ n ih =>
   intro l h
   have hne:l ≠ []:=by rintro rfl;simp at h
   rw [<- List.dropLast_concat_getLast hne]
   exact h1 _ _ (ih _ (by simp [h]))
 exact this _ l rfl
def C0p (lt:α->α->Bool) (x:α):List α->List α
 | []=>[x]
 | y::r=>if lt x y then y::C0p lt x r else x::y::r
def ins (lt:α->α->Bool) (x:α) (s:List α):List α:=(C0p lt x s.reverse).reverse
def Z5 (lt:α->α->Bool) (l:List α):List α:=l.foldl (fun s x=>ins lt x s) []
@[simp] theorem H0a (lt:α->α->Bool) (x:α):ins lt x [] = [x]:=rfl
theorem g0a (lt:α->α->Bool) (x y:α) (s:List α):ins lt x (s++[y]) = if lt x y then ins lt x s++[y] else s++[y,x]:=by
 simp only [ins,List.reverse_append,List.reverse_cons,List.reverse_nil,oql,oqm,C0p]
 split <;> simp
theorem j0L (lt:α->α->Bool) (x:α) (s u:List α):(∀ y ∈ u,lt x y = true)->ins lt x (s++u) = ins lt x s++u:=by
 refine f0F (P:=fun u=>(∀ y ∈ u,lt x y = true)->ins lt x (s++u) = ins lt x s++u) (by simp) (fun u y ih h=>?_) u
 rw [<- oqh,g0a,if_pos (h y (by simp)),ih fun z hz=>h z (by simp [hz]),oqh]
@[simp] theorem D0W (lt:α->α->Bool):Z5 lt ([]:List α) = []:=rfl
theorem c0e (lt:α->α->Bool) (l:List α) (x:α):Z5 lt (l++[x]) = ins lt x (Z5 lt l):=by simp [Z5,List.foldl_append]
theorem r0T (lt:α->α->Bool) (x:α) (s:List α):(ins lt x s).length = s.length + 1:=by
 refine f0F (P:=fun s=>(ins lt x s).length = s.length + 1) rfl (fun u y ih=>?_) s
 rw [g0a];split <;> simp [ih]
@[simp] theorem o0n (lt:α->α->Bool) (l:List α):(Z5 lt l).length = l.length:=by
 refine f0F (P:=fun l=>(Z5 lt l).length = l.length) rfl (fun u y ih=>?_) l
 rw [c0e,r0T,ih];simp
theorem v0x (lt:α->α->Bool) (x:α) (s:List α):(ins lt x s).Perm (s++[x]):=by
 refine f0F (P:=fun s=>(ins lt x s).Perm (s++[x])) (.refl _) (fun u y ih=>?_) s
 rw [g0a];split
 ·refine (ih.append_right [y]).trans ?_
  rw [oqh,oqh]
  exact List.Perm.append_left u (List.Perm.swap y x [])
 ·rw [oqh];exact .refl _
theorem l0b (lt:α->α->Bool) (l:List α):(Z5 lt l).Perm l:=by
 refine f0F (P:=fun l=>(Z5 lt l).Perm l) (.refl _) (fun u y ih=>?_) l
 rw [c0e];exact (v0x lt y _).trans (ih.append_right [y])
end Wm
namespace Go.Ab
open Wm
section
variable (P:Program) (cmp:Nat->Option (List AS)) (fr:Fr) (h:H) (d:Option Nat) (ty:TypeId) (pos:String) (af:Array Edge) (g:Option (Nat × Bool))
def F0e (u:TypeDesc) (t:TypeId) (a:AS) (h:H):Option OR:=match u with | .interface _=>none | _=>some (.val (.one (.ifc t a)) h)
@[simp] theorem F0c (e t:TypeId) (a:AS):F0e (.pointer e) t a h = some (.val (.one (.ifc t a)) h):=rfl
@[simp] theorem s0N (t:TypeId) (x:Operand):opA P cmp fr h ⟨d,.makeInterface t x,ty,pos,af,g⟩ = (evS fr x).bind fun a=>(P.underlying t).bind fun u=>F0e u t a h:=by
 simp only [opA,oqE]
 congr 1
def G0n (a:AS) (h:H):Option OR:=match a with | .ifc t v=>some (.pan (.ifc t v) h) | _=>none
@[simp] theorem G0y (t:Nat) (v:AS):G0n (.ifc t v) h = some (.pan (.ifc t v) h):=rfl
@[simp] theorem D0n (x:Operand):opA P cmp fr h ⟨d,.panic x,ty,pos,af,g⟩ = (evS fr x).bind fun a=>G0n a h:=by
 simp only [opA,oqE]
 congr 1
end
abbrev rdB (o:Option BL):Blk:=⟨0,[1],true,[bs o]⟩
structure RS (h0 h:H) (q:Nat) (o:Option BL) (kept:List (Nat × Blk)):Prop where
 lt:q < h0.next
 rd:h.f q = some (rdB o)
 room:(ls o).length <= 1099511627776
 next:h0.next <= h.next
 same:∀ b,b < h0.next->b ≠ q->h.f b = h0.f b
 kp:J4 h kept
 ok:∀ e ∈ kept,e.1 < h.next/\e.1 ≠ q
 dis:kept.Pairwise fun a b=>a.1 ≠ b.1
theorem RS.start {h:H} {q:Nat} {o:Option BL} (hq:q < h.next) (hf:h.f q = some (rdB o)) (hl:(ls o).length <= 1099511627776):RS h h q o []:=⟨hq,hf,hl,oqg _,fun _ _ _=>rfl,trivial,by simp,.nil⟩
theorem RS.new {h0 h:H} {q:Nat} {o:Option BL} {kept:List (Nat × Blk)} (w:RS h0 h q o kept) (k:Blk):RS h0 (h.new k) q o ((h.next,k)::kept) where
 lt:=w.lt
 rd:=by rw [L8,if_neg (by have:=w.lt;have:=w.next;omega)];exact w.rd
 room:=w.room
 next:=Nat.le_trans w.next (by simp)
 same b hb hq:=by rw [L8,if_neg (by have:=w.next;omega)];exact w.same b hb hq
 kp:=⟨by simp,W5 (fun e he=>by rw [L8,if_neg (by have:=(w.ok e he).1;omega)]) w.kp⟩
 ok e he:=by
  rcases oqf.1 he with rfl | he
  ·have:=w.lt;have:=w.next;exact ⟨by simp,by simp only;omega⟩
  ·have:=w.ok e he;exact ⟨by simp only [A6];omega,this.2⟩
 dis:=.cons (fun e he=>by have:=(w.ok e he).1;simp only;omega) w.dis
theorem RS.drop {h0 h:H} {q:Nat} {o:Option BL} {kept:List (Nat × Blk)} (w:RS h0 h q o kept):RS h0 h q o []:=⟨w.lt,w.rd,w.room,w.next,w.same,trivial,by simp,.nil⟩
theorem RS.set0 {h0 h:H} {q:Nat} {o:Option BL} {b:Nat} {k:Blk} {kept:List (Nat × Blk)} (w:RS h0 h q o ((b,k)::kept)) (hb:h0.next <= b) (k':Blk):RS h0 (h.set b k') q o ((b,k')::kept) where
 lt:=w.lt
 rd:=by rw [l0,if_neg (by have:=w.lt;omega)];exact w.rd
 room:=w.room
 next:=w.next
 same c hc hq:=by rw [l0,if_neg (by omega)];exact w.same c hc hq
 kp:=⟨by simp,W5 (fun e he=>by rw [l0,if_neg (Ne.symm ((List.pairwise_cons.1 w.dis).1 e he))]) w.kp.2⟩
 ok e he:=by
  rcases oqf.1 he with rfl | he
  ·exact w.ok (b,k) (by simp)
  ·exact w.ok e (by simp [he])
 dis:=.cons (fun e he=>(List.pairwise_cons.1 w.dis).1 e he) (List.pairwise_cons.1 w.dis).2
theorem RS.swap {h0 h:H} {q:Nat} {o:Option BL} {e e':Nat × Blk} {kept:List (Nat × Blk)} (w:RS h0 h q o (e::e'::kept)):RS h0 h q o (e'::e::kept) where
 lt:=w.lt
 rd:=w.rd
 room:=w.room
 next:=w.next
 same:=w.same
 kp:=⟨w.kp.2.1,w.kp.1,w.kp.2.2⟩
 ok x hx:=w.ok x (by simp at hx |-;rcases hx with h | h | h <;> simp [h])
 dis:=by
  have:=w.dis
  simp only [List.pairwise_cons,oqf,forall_eq_or_imp] at this |-
  exact ⟨⟨Ne.symm this.1.1,this.2.1⟩,this.1.2,this.2.2⟩
theorem RS.rdset {h0 h:H} {q:Nat} {o:Option BL} {kept:List (Nat × Blk)} (w:RS h0 h q o kept) (o':Option BL) (hl:(ls o').length <= 1099511627776):RS h0 (h.set q (rdB o')) q o' kept where
 lt:=w.lt
 rd:=by simp
 room:=hl
 next:=w.next
 same c hc hq:=by rw [l0,if_neg hq];exact w.same c hc hq
 kp:=W5 (fun e he=>by rw [l0,if_neg (w.ok e he).2]) w.kp
 ok e he:=w.ok e he
 dis:=w.dis
theorem RS.trans {h0 h h':H} {q:Nat} {o o':Option BL} {kept:List (Nat × Blk)} (w:RS h0 h q o kept) (v:RS h h' q o' []):RS h0 h' q o' kept where
 lt:=w.lt
 rd:=v.rd
 room:=v.room
 next:=Nat.le_trans w.next v.next
 same b hb hq:=by rw [v.same b (oqp hb w.next) hq,w.same b hb hq]
 kp:=W5 (fun e he=>v.same _ (w.ok e he).1 (w.ok e he).2) w.kp
 ok e he:=⟨oqp (w.ok e he).1 v.next,(w.ok e he).2⟩
 dis:=w.dis
def d0B (x:Nat):List (Nat × Blk)->Prop
 | []=>True
 | e::l=>(¬ x = e.1/\¬ e.1 = x)/\d0B x l
def f0R:List (Nat × Blk)->Prop
 | []=>True
 | e::l=>d0B e.1 l/\f0R l
theorem g0k {x:Nat}:∀ {l:List (Nat × Blk)},(∀ e ∈ l,x ≠ e.1)->d0B x l
 | [],_=>trivial
 | e::l,h=>⟨⟨h e (by simp),Ne.symm (h e (by simp))⟩,g0k fun a ha=>h a (by simp [ha])⟩
theorem m0A:∀ {l:List (Nat × Blk)},l.Pairwise (fun a b=>a.1 ≠ b.1)->f0R l
 | [],_=>trivial
 | e::l,h=>⟨g0k (List.pairwise_cons.1 h).1,m0A (List.pairwise_cons.1 h).2⟩
def g0U (h:H) (q:Nat) (kept:List (Nat × Blk)):Prop:=J4 h kept/\d0B h.next kept/\d0B q kept/\f0R kept
theorem RS.facts {h0 h:H} {q:Nat} {o:Option BL} {kept:List (Nat × Blk)} (w:RS h0 h q o kept):g0U h q kept :=
 ⟨w.kp,g0k fun e he=>by have:=(w.ok e he).1;omega,g0k fun e he=>Ne.symm (w.ok e he).2,m0A w.dis⟩
def h0Z {α:Type} (tp q:Nat) (h:H) (enc:α->AV) (x:Option (α × BL)) (r:CR):Prop :=
 match x with
 | some (v,l)=>∃ h',r = .ret (enc v) h'/\RS h h' q (some l) []
 | none=>∃ h' o',r = .pan (.ifc tp (.ptr q 0 0)) h'/\RS h h' q o' []
def g0L {α:Type} (C:Conf) (tp f:Nat) (rest:List AV) (p:BL->Option (α × BL)) (enc:α->AV):Prop :=
 ∀ h q o,RS h h q o []->∃ r,W C f (.one (.ptr q 0 0)::rest) h = some r/\h0Z tp q h enc (p (ls o)) r
theorem c0Y {α:Type} {C:Conf} {tp f:Nat} {rest:List AV} {p:BL->Option (α × BL)} {enc:α->AV} (hr:g0L C tp f rest p enc) {h0 h:H} {q:Nat} {o:Option BL} {kept:List (Nat × Blk)} (w:RS h0 h q o kept)
  {K:AV->H->Prop} {Kp:AS->H->Prop} (hs:∀ v l h',p (ls o) = some (v,l)->RS h0 h' q (some l) kept->g0U h' q kept->K (enc v) h') (hf:p (ls o) = none->∀ h' o',RS h0 h' q o' kept->Kp (.ifc tp (.ptr q 0 0)) h') :
  onR ((W C f (.one (.ptr q 0 0)::rest) h).bind crO) K Kp:=by
 have hq:q < h.next:=oqp w.lt w.next
 obtain ⟨r,e,hx⟩:=hr h q o (RS.start hq w.rd w.room)
 rw [e]
 unfold h0Z at hx
 split at hx
 ·rename_i v l hp
  obtain ⟨h',rfl,w'⟩:=hx
  simp only [oqS,o0q,n0U]
  exact hs v l h' hp (w.trans w') (w.trans w').facts
 ·rename_i hp
  obtain ⟨h',o',rfl,w'⟩:=hx
  simp only [oqS,z0w,A0i]
  exact hf hp h' o' (w.trans w')
theorem l0O {α:Type} {tp q:Nat} {h h':H} {enc:α->AV} {x:Option (α × BL)} {v:α} {l:BL} {a:AV} {kept:List (Nat × Blk)} (hx:x = some (v,l)) (w:RS h h' q (some l) kept) (ha:a = enc v):h0Z tp q h enc x (.ret a h'):=by subst hx;subst ha;exact ⟨h',rfl,w.drop⟩
theorem v0y {α:Type} {tp q:Nat} {h h':H} {enc:α->AV} {x:Option (α × BL)} {v:α} {l:BL} {a:AV} {kept:List (Nat × Blk)} (w:RS h h' q (some l) kept) (hx:x = some (v,l)) (ha:a = enc v):h0Z tp q h enc x (.ret a h'):=l0O hx w ha
theorem h0P {α:Type} {tp q:Nat} {h h':H} {enc:α->AV} {x:Option (α × BL)} {o':Option BL} {kept:List (Nat × Blk)} (hx:x = none) (w:RS h h' q o' kept):h0Z tp q h enc x (.pan (.ifc tp (.ptr q 0 0)) h'):=by subst hx;exact ⟨h',o',rfl,w.drop⟩
def w0q:BL->Option (UInt8 × BL)
 | b::l=>some (b,l)
 | []=>none
def m0c (k:Nat) (l:BL):Option (Nat × BL):=if k <= l.length then some (g0A (l.take k),l.drop k) else none
def l0i (most:Nat) (l:BL):Option (BL × BL) :=
 (m0c 4 l).bind fun x=>if 1048576 < x.1 \/ most < x.1 then none else if x.1 <= x.2.length then some (x.2.take x.1,x.2.drop x.1) else none
theorem Z9 (b:UInt8) (l:BL):w0q (b::l) = some (b,l):=rfl
theorem c0f {k n:Nat} (h:n < 256 ^ k) (l:BL):m0c k (be k n++l) = some (n,l):=by
 have hb:=c8 k n
 unfold m0c
 rw [if_pos (by simp [hb]),List.take_left' hb,List.drop_left' hb,y0D h]
theorem a0K {most:Nat} {x:BL} (h:x.length <= most) (hm:most <= 1048576) (l:BL):l0i most (I1 x++l) = some (x,l):=by
 unfold l0i I1
 rw [oqh,c0f (by omega)]
 simp only [oqS]
 rw [if_neg (by omega),if_pos (by simp)]
 simp
end Go.Ab
namespace Wm
open Go Go.Ab
def J5 {α:Type} (r:α->α->Bool):List α->Bool
 | a::b::l=>r a b && J5 r (b::l)
 | _=>true
section
variable {α:Type} {r:α->α->Bool}
@[simp] theorem D0H:J5 r [] = true:=rfl
@[simp] theorem D0Y (a:α):J5 r [a] = true:=rfl
theorem l0q (l:List α) (y x:α):J5 r (l++[y,x]) = (J5 r (l++[y]) && r y x):=by
 induction l with
 | nil=>simp [J5]
 | cons a l ih =>
  cases l with
  | nil=>simp [J5]
  | cons b l=>simp only [oqm,J5] at ih |-;rw [ih,Bool.and_assoc]
theorem m0z {l:List α} {y x:α} {q:List α} (h:r y x = false):J5 r (l++y::x::q) = false:=by
 induction l with
 | nil=>simp [J5,h]
 | cons a l ih =>
  cases l with
  | nil=>simp [J5,h]
  | cons b l=>simp only [oqm,J5] at ih |-;rw [ih,Bool.and_false]
theorem c0N {l q:List α} (h:J5 r (l++q) = true):J5 r l = true:=by
 induction l with
 | nil=>rfl
 | cons a l ih =>
  cases l with
  | nil=>rfl
  | cons b l =>
   simp only [oqm,J5,oqd] at h ih |-
   exact ⟨h.1,ih h.2⟩
theorem f0d {a:α} {l:List α} (h:J5 r (a::l) = true):J5 r l = true:=by
 cases l with
 | nil=>rfl
 | cons b l=>simp only [J5,oqd] at h;exact h.2
theorem b0k {l q:List α} (h:J5 r (l++q) = true):J5 r q = true:=by
 induction l with
 | nil=>exact h
 | cons a l ih=>exact ih (f0d h)
theorem c0b (ht:∀ a b c,r a b = true->r b c = true->r a c = true):∀ {a:α} {l:List α},J5 r (a::l) = true->∀ x ∈ l,r a x = true
 | a,[],_,x,hx=>by simp at hx
 | a,b::l,h,x,hx=>by
  simp only [J5,oqd] at h
  rcases oqf.1 hx with rfl | hx
  ·exact h.1
  ·exact ht _ _ _ h.1 (c0b ht h.2 x hx)
theorem b0Z {β:Type} {s:β->β->Bool} {f:α->β} (hf:∀ a b,s (f a) (f b) = r a b):∀ l:List α,J5 s (l.map f) = J5 r l
 | []=>rfl
 | [_]=>rfl
 | a::b::l=>by
  have:=b0Z hf (b::l)
  simp only [List.map_cons,J5,hf] at this |-
  rw [this]
end
theorem g0X {α:Type} (l:List α):l = [] \/ ∃ a x,l = a++[x]:=by
 cases h:l.reverse with
 | nil=>left;simpa using h
 | cons x a=>right;exact ⟨a.reverse,x,by rw [<- List.reverse_reverse l,h];simp⟩
def b0B (x:Version):Bool:=!decide (x.time < 0) && (!decide (1099511627776 < x.time) && V7 x.v)
def d0q (a b:Version):Bool:=!decide (a.time <= b.time)
def f0P (a b:Column):Bool:=blt a.name b.name
def a0H (c:Column):Bool:=J9 c.name && (decide (1 <= (ls c.l).length) && decide ((ls c.l).length <= 2)) && ((ls c.l).all b0B && J5 d0q (ls c.l))
def V5 (o:Row):Bool:=(ls o).all a0H && J5 f0P (ls o) && decide ((ls o).length <= 4)
def M9 (v:Value):Value:=if v.kind = 1 then ⟨1,v.b,0⟩ else if v.kind = 2 then ⟨2,none,a0n v.n⟩ else ⟨0,none,0⟩
def a0e (x:Version):Version:=⟨x.time,M9 x.v⟩
def W7 (c:Column):Column:=⟨c.name,nz ((ls c.l).map a0e)⟩
def rowCopy (o:Row):Row:=if V5 o then nz ((ls o).map W7) else none
theorem m0w (b:Nat):a0n (a0n b) = a0n b:=by
 unfold a0n
 by_cases h:NumPlain.isN b = true
 ·rw [if_pos h,if_pos (by decide +kernel)]
 ·rw [if_neg h,if_neg h]
theorem q0b (v:Value):M9 (M9 v) = M9 v:=by
 unfold M9
 by_cases h1:v.kind = 1
 ·simp [h1]
 ·by_cases h2:v.kind = 2
  ·simp [h2,m0w]
  ·simp [h1,h2]
theorem t0v {v:Value} (h:V7 v = true):V7 (M9 v) = true:=by
 unfold V7 M9 at *
 by_cases h1:v.kind = 1
 ·simp [h1] at h |-;exact h
 ·by_cases h2:v.kind = 2
  ·simp [h2]
  ·simp [h1,h2] at h
theorem p0e (x:Version):a0e (a0e x) = a0e x:=by simp [a0e,q0b]
theorem t0S {x:Version} (h:b0B x = true):b0B (a0e x) = true:=by
 simp only [b0B,oqd] at h |-
 exact ⟨h.1,h.2.1,t0v h.2.2⟩
theorem o0K (c:Column):W7 (W7 c) = W7 c:=by
 simp only [W7,c0u,List.map_map]
 congr 2
 apply List.map_congr_left
 intro x _;exact p0e x
theorem u0t {c:Column} (h:a0H c = true):a0H (W7 c) = true:=by
 simp only [a0H,oqd,W7,c0u,oqi] at h |-
 refine ⟨h.1, ?_, ?_⟩
 ·rw [List.all_map,oqn]
  intro x hx
  exact t0S (oqn.1 h.2.1 x hx)
 ·rw [b0Z (r:=d0q) (f:=a0e) (fun a b=>rfl)];exact h.2.2
theorem z0F (l:List Column):V5 (nz l) = V5 (some l):=by cases l <;> simp [V5]
theorem P6 (o:Row):V5 (rowCopy o) = true:=by
 unfold rowCopy
 split
 ·rename_i h
  rw [z0F]
  simp only [V5,oqd,K6,oqi] at h |-
  refine ⟨⟨?_, ?_⟩,h.2⟩
  ·rw [List.all_map,oqn]
   intro x hx
   exact u0t (oqn.1 h.1.1 x hx)
  ·rw [b0Z (r:=f0P) (f:=W7) (fun a b=>rfl)];exact h.1.2
 ·rfl
theorem a0s (o:Row):rowCopy (rowCopy o) = rowCopy o:=by
 have h:=P6 o
 have e:rowCopy (rowCopy o) = nz ((ls (rowCopy o)).map W7):=by rw [rowCopy.eq_1 (rowCopy o),if_pos h]
 rw [e]
 unfold rowCopy
 split
 ·simp only [c0u,List.map_map]
  congr 1
  apply List.map_congr_left
  intro x _;exact o0K x
 ·rfl
theorem d0S:rowCopy none = none:=rfl
def S9 (l:List Column) (n:BL):Nat:=(l.takeWhile fun c=>blt c.name n).length
def a0f (l:List Column) (n:BL):Bool:=match l[S9 l n]? with | some c=>c.name == n | none=>false
def k0T (l:List Version) (t:Int) (v:Value):List Version :=
 let m:=l.filter fun x=>!(x.time == t)
 (m.insertIdx (m.takeWhile fun x=>decide (t < x.time)).length ⟨t,M9 v⟩).take 2
def f0O (l:List Column) (i:Nat) (n:BL) (f:List Version->List Version):List Column:=l.take i++⟨n,some (f (ls ((l[i]?).bind (·.l))))⟩::l.drop (i + 1)
def a0i (r:Row) (n:BL) (t:Int) (v:Value):Row × Int :=
 if (J9 n && (!decide (t < 0) && (!decide (1099511627776 < t) && V7 v))) = false then (none,1) else
 let out:=ls (rowCopy r)
 if a0f out n = false/\out.length = 4 then (none,13) else
 let out1:=if a0f out n then out else out.insertIdx (S9 out n) ⟨n,none⟩
 (rowCopy (some (f0O out1 (S9 out n) n fun l=>k0T l t v)),0)
def g0p (r:Row) (n:BL) (t:Int):Row :=
 let out:=ls (rowCopy r)
 if a0f out n = false then rowCopy r else
 let l:=(ls ((out[S9 out n]?).bind (·.l))).filter fun x=>!(x.time == t)
 if l = [] then rowCopy (some (out.eraseIdx (S9 out n))) else rowCopy (some (f0O out (S9 out n) n fun _=>l))
def c0c (r:Row) (n:BL):Row :=
 let out:=ls (rowCopy r)
 if a0f out n = false then rowCopy (rowCopy r) else rowCopy (some (out.eraseIdx (S9 out n)))
theorem v0L {α:Type} {p:α->Bool}:∀ {l:List α} {k:Nat} (hk:k < (l.takeWhile p).length) (hl:k < l.length),p l[k] = true
 | [],k,hk,_=>by simp at hk
 | a::l,k,hk,hl=>by
  cases ha:p a with
  | false=>simp [ha] at hk
  | true =>
   simp only [List.takeWhile_cons,ha,if_true,oqb] at hk
   cases k with
   | zero=>exact ha
   | succ k=>exact v0L (l:=l) (k:=k) (by omega) (by simpa using hl)
theorem A0A {α:Type} {p:α->Bool}:∀ {l:List α} (h:(l.takeWhile p).length < l.length),p l[(l.takeWhile p).length] = false
 | [],h=>by simp at h
 | a::l,h=>by
  cases ha:p a with
  | false=>simp [ha]
  | true =>
   simp only [List.takeWhile_cons,ha,if_true,oqb] at h |-
   have:=A0A (l:=l) (p:=p) (by omega)
   simpa using this
theorem q0r {α:Type} (p:α->Bool):∀ l:List α,(l.takeWhile p).length <= l.length
 | []=>oqg _
 | a::l=>by
  simp only [List.takeWhile_cons]
  split
  ·have:=q0r p l;simp;exact this
  ·simp
end Wm
namespace Wm
open Go Go.Ab
def zV:Value:=⟨0,none,0⟩
def l0v:Option Version->Value × Bool
 | some x=>(x.v,true)
 | none=>(zV,false)
def i0j (o:Row) (n:BL) (t:Int):Value × Bool :=
 let out:=ls (rowCopy o)
 if a0f out n = false then (zV,false) else
 l0v ((ls ((out[S9 out n]?).bind (·.l))).find? (fun x=>decide (x.time <= t)))
def Z0 (o:Row) (n:BL):Value × Bool:=i0j o n 1099511627776
def m0d (a b:Nat):Nat:=match (FloatKind.format .f64).add a b with | some r=>a0n r | none=>9221120237041090561
def a0h (a b:Value):Value × Int:=if a.kind = 2/\b.kind = 2 then (⟨2,none,m0d a.n b.n⟩,0) else (zV,24)
def o0Z (x:Nat):Int:=if q0n .u64 (a0n x) 9223372036854775808 = 0 then orI .u64 (a0n x) 9223372036854775808 else y0Q .u64 (a0n x)
def B0F (a b:Nat):Int:=if o0Z a < o0Z b then -1 else if o0Z b < o0Z a then 1 else 0
def j0x (a b:Int):Int:=if a < b then -1 else if b < a then 1 else 0
def x0U (a b:Value):Int :=
 let x:=M9 a
 let y:=M9 b
 if x.kind ≠ y.kind then j0x x.kind y.kind else if x.kind = 1 then a0j (ls x.b) (ls y.b) else if x.kind = 2 then B0F x.n y.n else 0
def b0m (r:Row) (c:Change):Row × Int :=
 if c.kind = 1 then a0i r c.col c.time c.v
 else if c.kind = 2 then (g0p r c.col c.time,0)
 else if c.kind = 3 then (c0c r c.col,0)
 else if c.kind = 4 then (none,0)
 else
  let w:=Z0 r c.col
  let p:=a0h (if w.2 then w.1 else ⟨2,none,9223372036854775808⟩) c.v
  if p.2 = 0 then a0i r c.col c.time p.1 else (none,p.2)
def b0p:Row->List Change->Row × Int
 | r,[]=>(r,0)
 | r,c::l=>let p:=b0m r c;if p.2 = 0 then b0p p.1 l else (none,p.2)
def d0n (r:Row) (l:List Change):Option Change->Row × Int
 | some c=>(none,K5 c)
 | none=>b0p (rowCopy r) l
def apply (r:Row) (l:List Change):Row × Int:=if 8 < l.length then (none,3) else d0n r l (l.find? fun c=>K5 c != 0)
def holds (r:Row) (c:Cond):Bool:=!c.has || (if c.want then (Z0 r c.col).2 && x0U (Z0 r c.col).1 c.v == 0 else !(Z0 r c.col).2)
end Wm
namespace Go.Ab
open Wm
def Bx {α:Type} (h:H) (p size:Nat) (enc:α->List AS) (l:List α) (q:Option Nat):Prop:=p < h.next/\∃ s,h.f p = some ⟨0,[1],true,[s]⟩/\Sl h size enc s l/\z7 s = q/\q ≠ some p
section
variable {α:Type} {h h':H} {p size:Nat} {enc:α->List AS} {l:List α} {q:Option Nat}
theorem Bx.keep (a:Bx h p size enc l q) (hn:h.next <= h'.next) (hp:h'.f p = h.f p) (hq:∀ b,q = some b->h'.f b = h.f b):Bx h' p size enc l q:=by
 obtain ⟨h1,s,h2,h3,h4,h5⟩:=a
 exact ⟨by omega,s,by rw [hp];exact h2,h3.keep hn fun b hb=>hq b (by rw [<- h4];exact hb),h4,h5⟩
theorem Bx.lt (a:Bx h p size enc l q) {b:Nat} (hb:q = some b):b < h.next:=by
 obtain ⟨h1,s,h2,h3,h4,h5⟩:=a
 exact h3.lt (h4.trans hb)
theorem Bx.new (a:Bx h p size enc l q) (k:Blk):Bx (h.new k) p size enc l q:=a.keep (by simp) (p0 (by have:=a.1;omega)) fun b hb=>p0 (by have:=a.lt hb;omega)
end
end Go.Ab
namespace Wm
open Go Go.Ab
theorem f0b (a b:BL):a0j a b < 0 ↔ blt a b = true:=by
 unfold a0j blt
 cases h:Op.bytesLess a b <;> simp
 split <;> simp
theorem o0a (a b:BL):(a0j a b == 0) = (a == b):=by
 unfold a0j
 cases h:Op.bytesLess a b with
 | true =>
  have:(a == b) = false:=by simp;rintro rfl;rw [X1] at h;cases h
  simp [this]
 | false=>cases h2:(a == b) <;> simp
theorem o0B {α:Type} {lt:α->α->Bool} {p:α->Bool} (ht:∀ a b c,lt a b = true->lt b c = true->lt a c = true) (hp:∀ a b,lt a b = true->p b = true->p a = true):∀ {l:List α} (hs:J5 lt l = true) (i:Nat) (hi:i < l.length),i < (l.takeWhile p).length ↔ p l[i] = true
 | [],_,i,hi=>by simp at hi
 | c::l,hs,i,hi=>by
  cases hc:p c with
  | true =>
   simp only [List.takeWhile_cons,hc,if_true,oqb]
   cases i with
   | zero=>simp [hc]
   | succ i =>
    have:=o0B ht hp (l:=l) (f0d hs) i (by simpa using hi)
    simp only [List.getElem_cons_succ]
    rw [<- this];omega
  | false =>
   simp only [List.takeWhile_cons,hc,oqF,if_false,oqc,Nat.not_lt_zero,false_iff]
   cases i with
   | zero=>simp [hc]
   | succ i =>
    simp only [List.getElem_cons_succ]
    intro hx
    have h1:=c0b ht hs _ (List.getElem_mem (by simpa using hi:i < l.length))
    rw [hp _ _ h1 hx] at hc;cases hc
theorem S1 (a b c:BL) (h1:blt a b = true) (h2:blt b c = true):blt a c = true:=h0s h1 h2
def f0A (a b:Named):Bool:=blt a.name b.name
def tix (l:List Named) (n:BL):Nat:=(l.takeWhile fun c=>blt c.name n).length
def tat (l:List Named) (n:BL):Bool:=match l[tix l n]? with | some c=>c.name == n | none=>false
def cpN (x:Named):Named:=⟨x.name,rowCopy x.r⟩
theorem g0P (l:List Named) (n:BL):tix l n <= l.length:=q0r _ _
theorem o0s {l:List Named} (hs:J5 f0A l = true) (n:BL) (i:Nat) (hi:i < l.length):i < tix l n ↔ a0j l[i].name n < 0:=by
 rw [f0b]
 exact o0B (lt:=f0A) (p:=fun c=>blt c.name n) (fun a b c h1 h2=>S1 _ _ _ h1 h2) (fun a b h1 h2=>S1 _ _ _ h1 h2) hs i hi
theorem j0M {l:List Named} {n:BL} (h:tat l n = true):∃ hi:tix l n < l.length,l[tix l n].name = n:=by
 unfold tat at h
 cases hg:l[tix l n]? with
 | none=>rw [hg] at h;cases h
 | some c =>
  obtain ⟨hi,e⟩:=List.getElem?_eq_some_iff.1 hg
  rw [hg] at h
  exact ⟨hi,by rw [e];simpa using h⟩
def b0g (l:List Named) (n:BL):Row × Bool:=if tat l n then (rowCopy ((l[tix l n]?).bind (·.r)),true) else (none,false)
structure TblOk (l:List Named):Prop where
 srt:J5 f0A l = true
 nm:∀ x ∈ l,J9 x.name = true
 row:∀ x ∈ l,rowCopy x.r = x.r/\x.r ≠ none
 len:l.length <= 32
def i0p (l:List Named) (n:BL) (r:Row):List Named × Int :=
 if (J9 n && V5 r) = false then (l,1) else
 if ls r = [] then (if tat l n then l.eraseIdx (tix l n) else l,0) else
 if tat l n then (l.set (tix l n) ⟨n,rowCopy r⟩,0) else
 if 32 <= l.length then (l,13) else (l.insertIdx (tix l n) ⟨n,rowCopy r⟩,0)
def a0l (l:List Named) (lo hi:BL) (most:Int):List Named × BL :=
 let m:=(max 0 (min most 16)).toNat
 let i:=tix l lo
 let e:=if hi = [] then l.length else tix l hi
 if e <= i then ([],[]) else
 let s:=(l.take e).drop i
 if s.length <= m then (s,[]) else (s.take m,match s[m]? with | some x=>x.name | none=>[])
end Wm
namespace Wm
open Go Go.Ab
structure Tld where
 client:Int
 seq:Int
 b:Option BL
def J7 (t:Tld):List AS:=[ii t.client,ii t.seq,bs t.b]
theorem b0D (t:Tld):(J7 t).length = 3:=rfl
def b0L (a b:Tld):Bool:=decide (a.client < b.client)
def cix (l:List Tld) (c:Int):Nat:=(l.takeWhile fun x=>decide (x.client < c)).length
def f0S (l:List Tld) (c:Int):Bool:=match l[cix l c]? with | some x=>x.client == c | none=>false
theorem l0F (l:List Tld) (c:Int):cix l c <= l.length:=q0r _ _
theorem v0h {l:List Tld} (hs:J5 b0L l = true) (c:Int) (i:Nat) (hi:i < l.length):i < cix l c ↔ j0x l[i].client c < 0:=by
 have h1:(j0x l[i].client c < 0) ↔ (decide (l[i].client < c) = true):=by
  unfold j0x
  by_cases h:l[i].client < c
  ·simp [h]
  ·rw [if_neg h];split <;> simp [h]
 rw [h1]
 refine o0B (lt:=b0L) (p:=fun x=>decide (x.client < c)) (fun a b c h1 h2=>?_) (fun a b h1 h2=>?_) hs i hi
 ·simp only [b0L,oqj] at *;omega
 ·simp only [b0L,oqj] at *;omega
theorem y0Y (a b:Int):(j0x a b == 0) = (a == b):=by
 unfold j0x
 by_cases h1:a < b
 ·rw [if_pos h1];have:(a == b) = false:=by simp;omega
  rw [this];rfl
 ·rw [if_neg h1]
  by_cases h2:b < a
  ·rw [if_pos h2];have:(a == b) = false:=by simp;omega
   rw [this];rfl
  ·rw [if_neg h2];have:(a == b) = true:=by simp;omega
   rw [this];rfl
theorem h0z {l:List Tld} {c:Int} (h:f0S l c = true):∃ hi:cix l c < l.length,l[cix l c].client = c:=by
 unfold f0S at h
 cases hg:l[cix l c]? with
 | none=>rw [hg] at h;cases h
 | some x =>
  obtain ⟨hi,e⟩:=List.getElem?_eq_some_iff.1 hg
  rw [hg] at h
  exact ⟨hi,by rw [e];simpa using h⟩
def a0D (l:List Tld) (c s:Int):Option BL × Int :=
 let x:=(l[cix l c]?).getD ⟨0,0,none⟩
 if s < 1 \/ (f0S l c = true/\s < x.seq) then (none,3) else if f0S l c = true/\s = x.seq then (x.b,2) else (none,1)
def a0U (c s:Int) (b:Option BL):Bool:=decide (0 <= c) && (decide (c <= 255) && (decide (1 <= s) && (decide (s <= 1073741824) && decide ((ls b).length <= 1048576))))
def a0v (l:List Tld) (c s:Int) (b:Option BL):List Tld × Bool :=
 if (a0D l c s).2 ≠ 1 \/ a0U c s b = false then (l,false) else
 if f0S l c then (l.set (cix l c) ⟨c,s,b⟩,true) else (l.insertIdx (cix l c) ⟨c,s,b⟩,true)
structure CchOk (l:List Tld):Prop where
 srt:J5 b0L l = true
 ok:∀ x ∈ l,a0U x.client x.seq x.b = true
 len:l.length <= 256
def l0z (l m:List Tld):List Tld:=m.foldl (fun a x=>(a0v a x.client x.seq x.b).1) l
end Wm
