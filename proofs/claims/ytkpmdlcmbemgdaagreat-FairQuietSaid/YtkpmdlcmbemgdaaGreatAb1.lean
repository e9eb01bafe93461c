/- The abstract machine of the model's code, and: each operation of it is the model's. No conditions. -/
import GoSem.Step
import Derived.Orders
import Derived.Laws.Cells
import Derived.Laws.CopyRow
import Derived.Laws.World
import Derived.Laws.AppendOwn
import Derived.Laws.Entries
import Derived.Laws.Strings
import Derived.Laws.IdiomStrings
import Derived.Laws.Tables
set_option linter.unusedVariables false
set_option linter.unusedSimpArgs false
set_option linter.unnecessarySimpa false
namespace Go
theorem oqB {α β:Type _} {o:Option α} {f:α→Option β} {b:β}:o.bind f = some b ↔ ∃ a,o = some a∧f a = some b:=Option.bind_eq_some_iff
theorem oqI {α:Type _} (a b:α):(some a = some b) = (a = b):=Option.some.injEq a b
theorem oqE {α β:Type _} (f:α→Option β) (o:Option α):(o >>= f) = o.bind f:=rfl
theorem oqS {α β:Type _} (a:α) (f:α→Option β):(some a).bind f = f a:=rfl
theorem oqN {n m:Nat} (h:Nat.beq n m = true):n = m:=Nat.eq_of_beq_eq_true h
theorem oqF:(false = true) = False:=Bool.false_eq_true
theorem oqP {α:Type _}:(pure:α→Option α) = some:=rfl
theorem oqM {α β:Type _} (a c:α) (b d:β):((a,b) = (c,d)) = (a = c∧b = d):=Prod.mk.injEq a b c d
end Go
namespace Go.Ab
inductive AS where
 | bool (b:Bool)
 | int (k:IntKind) (n:Int)
 | flt (bits:Nat)
 | nan
 | nanb
 | nanf
 | str (s:List UInt8)
 | nilptr
 | ptr (b v o:Nat)
 | rp (cells:List AS) (o:Nat)
 | nilslc
 | slc (b v o n s:Nat) (c:Option Nat)
 | vs (n s:Nat) (cells:List AS)
 | fn (f:Nat) (first caps:List AS)
 | nilfn
 | ifc (t:Nat) (v:AS)
 | nilifc
 deriving Inhabited
inductive AV where
 | undef
 | one (s:AS)
 | agg (cells:List AS)
 | tup (parts:List (Bool × List AS))
 | opq
 deriving Inhabited
structure Blk where
 ver:Nat
 exts:List Nat
 fixed:Bool
 cells:List AS
 deriving Inhabited
def Blk.ext (k:Blk) (v:Nat):Option Nat:=if v ≤ k.ver then k.exts[k.ver - v]? else none
structure H where
 next:Nat
 f:Nat→Option Blk
def H.set (h:H) (b:Nat) (k:Blk):H:={ h with f:=fun x=>if x = b then some k else h.f x }
def H.new (h:H) (k:Blk):H:=⟨h.next + 1,fun x=>if x = h.next then some k else h.f x⟩
def H.empty:H:=⟨0,fun _=>none⟩
def blkOf (l:List AS) (fixed:Bool):Blk:=⟨0,[l.length],fixed,l⟩
def constS:Value→Option AS
 | .bool b=>some (.bool b)
 | .int k n=>some (.int k n)
 | .float .f64 b=>some (.flt b)
 | .string s=>some (.str s.data.toList)
 | .pointer none=>some .nilptr
 | .slice none 0 0=>some .nilslc
 | .nilFunc=>some .nilfn
 | .nilIface=>some .nilifc
 | _=>none
def constL:List Value→Option (List AS)
 | []=>some []
 | v::l=>do
  let a ← constS v
  let r ← constL l
  some (a::r)
def constV:Value→Option AV
 | .agg cs=>do some (.agg (← constL cs.toList))
 | v=>do some (.one (← constS v))
abbrev Fr:=List AV
def Fr.get (fr:Fr) (i:Nat):AV:=(fr[i]?).getD .undef
def Fr.put (fr:Fr) (dst:Option Nat) (v:AV):Option Fr :=
 match dst with
 | none=>some fr
 | some d=>if d < fr.length then some (fr.set d v) else none
def ev (fr:Fr):Operand→Option AV
 | .tmp t=>some (Fr.get fr t)
 | .const v=>constV v
 | .global _=>none
 | .func f=>some (.one (.fn f [] []))
def evS (fr:Fr) (x:Operand):Option AS:=do
 let .one a ← ev fr x | none
 some a
def sub (l:List AS) (o n:Nat):Option (List AS):=if o + n ≤ l.length then some ((l.drop o).take n) else none
def lay (l:List AS) (o:Nat) (new:List AS):List AS:=l.take o++(new++l.drop (o + new.length))
def readC (h:H) (p:AS) (n:Nat):Option (List AS) :=
 match p with
 | .ptr b v o=>do
  let k ← h.f b
  let e ← k.ext v
  if o + n ≤ e then sub k.cells o n else none
 | .rp cells o=>sub cells o n
 | _=>none
def writeC (h:H) (p:AS) (l:List AS):Option H :=
 match p with
 | .ptr b v o=>do
  let k ← h.f b
  let e ← k.ext v
  if v = k.ver∧o + l.length ≤ e∧e = k.cells.length then some (h.set b { k with exts:=[e],cells:=lay k.cells o l }) else none
 | _=>none
def AV.cells:AV→Option (List AS)
 | .one a=>some [a]
 | .agg l=>some l
 | _=>none
def ofCells (isAgg:Bool) (l:List AS):Option AV :=
 if isAgg then some (.agg l) else match l with | [a]=>some (.one a) | _=>none
inductive CR where
 | ret (v:AV) (h:H)
 | pan (v:AS) (h:H)
inductive Ext where
 | bits | frombits | cmpBytes | cmpStr
structure Conf where
 P:Program
 ext:Nat→Option Ext
 prim:Nat→Option ((Nat→List AV→H→Option CR)→List AV→H→Option CR)
 frz:Nat→Bool
 cmp:Nat→Option (List AS)
 own:Nat→Bool:=fun _=>false
section
variable (P:Program)
def isAggT (t:Nat):Option Bool:=do
 match ← P.underlying t with
 | .struct _ | .array _ _=>some true
 | _=>some false
def sizeT (t:Nat):Option Nat:=do some (← P.info? t).size
def bytesT (t:Nat):Option Nat:=do some (← P.info? t).bytes
def zeroT (t:Nat):Option (List AS):=do
 let z ← (← P.info? t).zero
 constL z.cells.toList
def elemT (t:Nat):Option Nat:=do
 match ← P.underlying t with
 | .slice u=>if u < P.types.size then some u else none
 | _=>none
def isByteT (t:Nat):Bool:=match P.underlying t with | some (.int .u8)=>true | _=>false
def fieldT (t i:Nat):Option (Nat × Nat):=do
 match ← P.underlying t with
 | .struct fs=>do
  let f ← fs[i]?
  some (f.offset,f.type)
 | _=>none
inductive OR where
 | val (v:AV) (h:H)
 | skip (h:H)
 | call (f:Nat) (args:List AV) (h:H)
 | pan (v:AS) (h:H)
def ford:AS→AS→Option (Option Ordering)
 | .flt a,.flt b=>some ((FloatKind.format .f64).order a b)
 | .nan,.flt _ | .flt _,.nan | .nan,.nan=>some none
 | _,_=>none
def fcmp (op:BinOp) (c:Option Ordering):Option Bool :=
 match op with
 | .eql=>some (c == some .eq)
 | .neq=>some (c != some .eq)
 | .lss=>some (c == some .lt)
 | .leq=>some (c == some .lt || c == some .eq)
 | .gtr=>some (c == some .gt)
 | .geq=>some (c == some .gt || c == some .eq)
 | _=>none
def fres:Option Nat→AS
 | some r=>.flt r
 | none=>.nan
def farith (op:BinOp):AS→AS→Option AS
 | .flt x,.flt y=>match op with
  | .add=>some (fres ((FloatKind.format .f64).add x y))
  | .sub=>some (fres ((FloatKind.format .f64).sub x y))
  | .mul=>some (fres ((FloatKind.format .f64).mul x y))
  | _=>none
 | .nan,.flt _ | .flt _,.nan | .nan,.nan=>match op with
  | .add | .sub | .mul=>some .nan
  | _=>none
 | _,_=>none
def andI (k:IntKind) (x y:Int):Int:=k.wrap ((BitVec.ofInt k.bits x &&& BitVec.ofInt k.bits y).toNat)
def orI (k:IntKind) (x y:Int):Int:=k.wrap ((BitVec.ofInt k.bits x ||| BitVec.ofInt k.bits y).toNat)
def xorI (k:IntKind) (x y:Int):Int:=k.wrap ((BitVec.ofInt k.bits x ^^^ BitVec.ofInt k.bits y).toNat)
def andNotI (k:IntKind) (x y:Int):Int:=k.wrap ((BitVec.ofInt k.bits x &&& ~~~ BitVec.ofInt k.bits y).toNat)
def notI (k:IntKind) (n:Int):Int:=k.wrap ((BitVec.ofInt k.bits (if k.signed then -1 else k.max) ^^^ BitVec.ofInt k.bits n).toNat)
def binI (op:BinOp) (k:IntKind) (x y:Int):Option AS :=
 match op with
 | .add=>some (.int k (k.wrap (x + y)))
 | .sub=>some (.int k (k.wrap (x - y)))
 | .mul=>some (.int k (k.wrap (x * y)))
 | .quo=>if y = 0 then none else some (.int k (k.wrap (x.tdiv y)))
 | .rem=>if y = 0 then none else some (.int k (x.tmod y))
 | .eql=>some (.bool (x == y))
 | .neq=>some (.bool (x != y))
 | .lss=>some (.bool (x < y))
 | .leq=>some (.bool (x ≤ y))
 | .gtr=>some (.bool (x > y))
 | .geq=>some (.bool (x ≥ y))
 | .and=>some (.int k (andI k x y))
 | .or=>some (.int k (orI k x y))
 | .xor=>some (.int k (xorI k x y))
 | .andNot=>some (.int k (andNotI k x y))
 | _=>none
def shiftI (op:BinOp) (k:IntKind) (x y:Int):Option AS :=
 if y < 0 then none else match op with
 | .shl=>some (.int k (k.wrap (x * 2 ^ min y.toNat k.bits)))
 | .shr=>some (.int k (x.fdiv (2 ^ min y.toNat k.bits)))
 | _=>none
def strOp (op:BinOp) (a b:List UInt8):Option AS :=
 match op with
 | .add=>if a.length + b.length ≤ 9223372036854775807 then some (.str (a++b)) else none
 | .eql=>some (.bool (a == b))
 | .neq=>some (.bool (!(a == b)))
 | .lss=>some (.bool (Op.bytesLess a b))
 | .leq=>some (.bool (Op.bytesLess a b || a == b))
 | .gtr=>some (.bool (!(Op.bytesLess a b || a == b)))
 | .geq=>some (.bool (!(Op.bytesLess a b)))
 | _=>none
def eqS:AS→AS→Option Bool
 | .bool a,.bool b=>some (a == b)
 | .int k a,.int k' b=>if k = k' then some (a == b) else none
 | .str a,.str b=>some (a == b)
 | _,_=>none
def eqL:List AS→List AS→Option Bool
 | [],[]=>some true
 | a::x,b::y=>do
  let r ← eqS a b
  let q ← eqL x y
  some (r && q)
 | _,_=>none
def equalA (t:Nat) (x y:AV):Option Bool:=do
 match ← P.underlying t,x,y with
 | .bool,.one (.bool a),.one (.bool b)=>some (a == b)
 | .pointer _,.one .nilptr,.one .nilptr=>some true
 | .pointer _,.one .nilptr,.one (.ptr ..) | .pointer _,.one (.ptr ..),.one .nilptr=>some false
 | .pointer _,.one .nilptr,.one (.rp ..) | .pointer _,.one (.rp ..),.one .nilptr=>some false
 | .slice _,.one .nilslc,.one .nilslc=>some true
 | .slice _,.one .nilslc,.one (.slc ..) | .slice _,.one (.slc ..),.one .nilslc=>some false
 | .slice _,.one .nilslc,.one (.vs ..) | .slice _,.one (.vs ..),.one .nilslc=>some false
 | .func ..,.one .nilfn,.one .nilfn=>some true
 | .func ..,.one .nilfn,.one (.fn ..) | .func ..,.one (.fn ..),.one .nilfn=>some false
 | _,_,_=>none
def kindsA:List AS→List AS→Bool
 | [],[]=>true
 | .int k _::x,.int k' _::y=>k == k' && kindsA x y
 | .bool _::x,.bool _::y=>kindsA x y
 | .str _::x,.str _::y=>kindsA x y
 | _,_=>false
def bin (cmp:Nat→Option (List AS)) (op:BinOp) (t:Nat) (x y:AV):Option AS :=
 match x,y with
 | .one (.int k a),.one (.int k' b)=>match op with
  | .shl | .shr=>shiftI op k a b
  | _=>if k = k' then binI op k a b else none
 | .one (.str a),.one (.str b)=>strOp op a b
 | .one .nanb,.one (.int .u64 m)=>if op = .and∧m = 9218868437227405312 then some (.int .u64 m) else if op = .and∧m = 4503599627370495 then some .nanf else none
 | .one .nanf,.one (.int .u64 m)=>if m = 0 then match op with | .neq=>some (.bool true) | .eql=>some (.bool false) | _=>none else none
 | .agg a,.agg b=>match cmp t with
  | some z=>if kindsA z a && kindsA z b then match op with
   | .eql=>do some (.bool (← eqL a b))
   | .neq=>do some (.bool (!(← eqL a b)))
   | _=>none
   else none
  | none=>none
 | .one a,.one b=>match ford a b with
  | some c=>match op with
   | .add | .sub | .mul=>farith op a b
   | _=>do some (.bool (← fcmp op c))
  | none=>match op with
   | .eql=>do some (.bool (← equalA P t x y))
   | .neq=>do some (.bool (!(← equalA P t x y)))
   | _=>none
 | _,_=>none
def un (op:UnOp) (x:AV):Option AS :=
 match op,x with
 | .neg,.one (.int k n)=>some (.int k (k.wrap (0 - n)))
 | .xor,.one (.int k n)=>some (.int k (notI k n))
 | .neg,.one (.flt b)=>some (.flt (Op.negFloat .f64 b))
 | .not,.one (.bool b)=>some (.bool (!b))
 | _,_=>none
def lenS:AS→Option Nat
 | .nilslc=>some 0
 | .slc _ _ _ n _ _=>some n
 | .vs n _ _=>some n
 | .str s=>some s.length
 | _=>none
def byteS (b:UInt8):AS:=.int .u8 b.toNat
def elemsOf (h:H) (size n:Nat):AS→Option (List AS)
 | .nilslc=>if n = 0 then some [] else none
 | .slc b v o k s _=>if s = size∧n ≤ k then readC h (.ptr b v o) (n * size) else none
 | .vs k s cells=>if s = size∧n ≤ k then sub cells 0 (n * size) else none
 | .str s=>if n ≤ s.length then some ((s.take n).map byteS) else none
 | _=>none
def bytesOf:List AS→Option (List UInt8)
 | []=>some []
 | .int .u8 n::l=>if 0 ≤ n∧n < 256 then do some (UInt8.ofNat n.toNat::(← bytesOf l)) else none
 | _::_=>none
def limit:Nat:=17592186044416
def repL (z:List AS):Nat→List AS
 | 0=>[]
 | n + 1=>z++repL z n
def appendL (size bytes n:Nat) (new:List AS) (h:H) (s:AS):Option (AS × H) :=
 if new.length ≠ n * size ∨ size = 0 then none else
 match s with
 | .nilslc=>if n = 0 then some (.nilslc,h) else
   if (n + 600) * bytes + n ≤ limit then some (.slc h.next 0 0 n size none,h.new (blkOf new false)) else none
 | .slc b v o k s' c =>
  if s' ≠ size then none else
  if n = 0 then some (s,h) else
  if limit < (k + n + 600) * bytes + (k + n) then none else do
  let B ← h.f b
  let E ← B.ext v
  let en:=o + k * size
  let old ← readC h (.ptr b v o) (k * size)
  let fresh:Option (AS × H):=some (.slc h.next 0 0 (k + n) size none,h.new (blkOf (old++new) false))
  match c with
  | some cc=>if k + n ≤ cc then (writeC h (.ptr b v en) new).map fun h'=>(.slc b v o (k + n) size c,h') else fresh
  | none =>
   if v ≠ B.ver ∨ E ≠ B.cells.length then none else
   if en + new.length ≤ E then (writeC h (.ptr b v en) new).map fun h'=>(.slc b v o (k + n) size none,h')
   else if B.fixed then fresh
   else if o = 0 then
    if en = E then some (.slc b (v + 1) 0 (k + n) size none,h.set b ⟨v + 1,(E + new.length)::B.exts,false,B.cells++new⟩)
    else some (.slc b (v + 1) 0 (k + n) size none,h.set b ⟨v + 1,[en + new.length],false,B.cells.take en++new⟩)
   else some (.slc h.next 0 0 (k + n) size none,(h.set b ⟨v,[],false,[]⟩).new (blkOf (old++new) false))
 | .vs k s' _=>if k = 0∧s' = 0 then
   if n = 0 then some (.vs 0 size [],h) else
   if (n + 600) * bytes + n ≤ limit then some (.slc h.next 0 0 n size none,h.new (blkOf new false)) else none
  else none
 | _=>none
def intOf (x:AS):Option Int:=match x with | .int _ n=>some n | _=>none
def natOf (x:AS):Option Nat:=do
 let n ← intOf x
 if 0 ≤ n then some n.toNat else none
def appendA (t u:Nat) (h:H) (s x:AS):Option (AS × H):=do
 let el ← elemT P t
 let size ← sizeT P el
 let bytes ← bytesT P el
 match ← P.underlying u with
 | .int _=>do
  let n ← natOf x
  let z ← zeroT P el
  if z.length = size∧0 < n∧n ≤ limit∧n * bytes ≤ limit then appendL size bytes n (repL z n) h s else none
 | .slice _ | .string=>do
  let n ← lenS x
  let new ← elemsOf h size n x
  appendL size bytes n new h s
 | _=>none
def copyA (t:Nat) (h:H) (d s:AS):Option (AS × H):=do
 let size ← sizeT P (← elemT P t)
 let dn ← lenS d
 let sn ← lenS s
 let n:=Nat.min sn dn
 let l ← elemsOf h size n s
 match d with
 | .nilslc=>some (.int .i64 n,h)
 | .slc b v o _ s' _=>if s' ≠ size then none else if n = 0 then some (.int .i64 n,h) else do
  let h' ← writeC h (.ptr b v o) l
  some (.int .i64 n,h')
 | _=>none
def clearA (t:Nat) (h:H) (s:AS):Option H:=do
 let el ← elemT P t
 match s with
 | .nilslc=>some h
 | .slc b v o n s' _=>if n = 0 then some h else do
  let z ← zeroT P el
  if z.length = s' then writeC h (.ptr b v o) (repL z n) else none
 | _=>none
def capA (h:H):AS→Option Nat
 | .nilslc=>some 0
 | .slc b v o _ s c=>match c with
  | some cc=>some cc
  | none=>do
   let B ← h.f b
   let E ← B.ext v
   if B.fixed∧v = B.ver∧0 < s∧E = B.cells.length then some ((E - o) / s) else none
 | _=>none
def bound (d:Nat):Option AV→Option Nat
 | none=>some d
 | some (.one x)=>natOf x
 | _=>none
def sliceA (h:H) (size:Nat) (x:AS) (lo hi mx:Option AV):Option AS :=
 match x with
 | .str s=>if mx.isSome then none else do
  let l ← bound 0 lo
  let u ← bound s.length hi
  if l ≤ u∧u ≤ s.length then some (.str ((s.drop l).take (u - l))) else none
 | .nilslc=>do
  let l ← bound 0 lo
  let u ← bound 0 hi
  let m ← bound 0 mx
  if l = 0∧u = 0∧m = 0 then some .nilslc else none
 | .slc b v o n s c=>if s ≠ size ∨ s = 0 then none else do
  let l ← bound 0 lo
  let u ← bound n hi
  if ¬ l ≤ u then none else
  match mx with
  | some m=>do
   let m ← bound 0 (some m)
   if u ≤ m∧m ≤ n then some (.slc b v (o + l * s) (u - l) s (some (m - l))) else none
  | none =>
   if u ≤ n then some (.slc b v (o + l * s) (u - l) s (c.map (· - l)))
   else match c with
    | some _=>none
    | none=>do
     let B ← h.f b
     let E ← B.ext v
     if o + u * s ≤ E then some (.slc b v (o + l * s) (u - l) s none) else none
 | .vs n s cells=>if s ≠ size ∨ s = 0 then none else
  match mx with
  | some m=>do
   let l ← bound 0 lo
   let u ← bound n hi
   let m ← bound 0 (some m)
   if l = 0∧u = 0∧m = 0 then some (.vs 0 0 []) else none
  | none=>do
   let l ← bound 0 lo
   let u ← bound n hi
   if l ≤ u∧u ≤ n then do
    let q ← sub cells (l * s) ((u - l) * s)
    some (.vs (u - l) s q)
   else none
 | _=>none
def sliceSize (t:Nat) (x:AS):Option Nat:=do
 match ← P.underlying t,x with
 | .string,.str _=>some 1
 | .slice _,.str _=>none
 | .slice u,_=>sizeT P u
 | _,_=>none
def indexA (t:Nat) (x:AS) (i:Nat):Option AS:=do
 match ← P.underlying t with
 | .slice u=>do
  let size ← sizeT P u
  match x with
  | .slc b v o n s _=>if s = size∧0 < s∧i < n then some (.ptr b v (o + i * s)) else none
  | .vs n s cells=>if s = size∧0 < s∧i < n then some (.rp cells (i * s)) else none
  | _=>none
 | .array n u=>do
  let size ← sizeT P u
  match x with
  | .ptr b v o=>if i < n then some (.ptr b v (o + i * size)) else none
  | .rp cells o=>if i < n then some (.rp cells (o + i * size)) else none
  | _=>none
 | _=>none
def evL (fr:Fr):List Operand→Option (List AV)
 | []=>some []
 | x::l=>do
  let a ← ev fr x
  let r ← evL fr l
  some (a::r)
def evSL (fr:Fr):List Operand→Option (List AS)
 | []=>some []
 | x::l=>do
  let a ← evS fr x
  let r ← evSL fr l
  some (a::r)
def evO (fr:Fr):Option Operand→Option (Option AV)
 | none=>some none
 | some x=>do some (some (← ev fr x))
def ones (l:List AS):List AV:=l.map .one
def parts (place:Nat→Option (Nat × Nat)) (fr:Fr):List (Nat × Operand)→List AS→Option (List AS)
 | [],z=>some z
 | (i,x)::l,z=>do
  let (o,size) ← place i
  let v ← ev fr x
  let c ← v.cells
  if c.length = size∧o + size ≤ z.length then parts place fr l (lay z o c) else none
def minmax (isMax:Bool):AS→AS→Option AS
 | .int k x,.int k' y=>if k = k' then some (.int k (if isMax then (if y > x then y else x) else (if y < x then y else x))) else none
 | .str x,.str y=>if isMax then some (.str (if Op.bytesLess x y then y else x)) else none
 | _,_=>none
def minmaxL (isMax:Bool) (a:AS):List AS→Option AS
 | []=>some a
 | b::l=>do minmaxL isMax (← minmax isMax a b) l
def one (a:AS) (h:H):OR:=.val (.one a) h
def builtinA (b:Builtin) (tys:List Nat) (args:List AS) (h:H):Option OR :=
 match b,args with
 | .len,[x]=>do
  let n ← lenS x
  match x,← P.underlying (← tys[0]?) with
  | .str _,.string=>some (one (.int .i64 n) h)
  | .str _,_=>none
  | _,.slice _=>some (one (.int .i64 n) h)
  | _,_=>none
 | .cap,[x]=>do
  let .slice _ ← P.underlying (← tys[0]?) | none
  some (one (.int .i64 (← capA h x)) h)
 | .append,[s,x]=>do
  let (r,h') ← appendA P (← tys[0]?) (← tys[1]?) h s x
  some (one r h')
 | .copy,[d,s]=>do
  let (r,h') ← copyA P (← tys[0]?) h d s
  some (one r h')
 | .clear,[s]=>do
  let h' ← clearA P (← tys[0]?) h s
  some (.val (.tup []) h')
 | .max,a::l=>do some (one (← minmaxL true a l) h)
 | .min,a::l=>do some (one (← minmaxL false a l) h)
 | _,_=>none
def callA (fr:Fr) (h:H) (c:Call):Option OR :=
 match c.callee with
 | .builtin b=>do builtinA P b c.argTypes.toList (← evSL fr c.args.toList) h
 | .value f=>do
  let .fn g first caps ← evS fr f | none
  let args ← evL fr c.args.toList
  some (.call g (ones first++(args++ones caps)) h)
 | .invoke ..=>none
def convA (s d:Nat) (x:AS) (h:H):Option OR:=do
 match ← P.underlying s,← P.underlying d,x with
 | _,.int k,.int _ n=>some (one (.int k (k.wrap n)) h)
 | _,.float .f64,.int _ n=>some (one (.flt (FloatKind.nearest .f64 n)) h)
 | .int _,.string,.int _ n=>some (one (.str (Utf8.encode n).data.toList) h)
 | _,.string,.str b=>some (one (.str b) h)
 | .slice u,.string,x=>do
  if isByteT P u∧sizeT P u = some 1 then
   match x with
   | .str _=>none
   | _=>do
    let l ← elemsOf h 1 (← lenS x) x
    some (one (.str (← bytesOf l)) h)
  else none
 | .string,.slice u,.str b=>if isByteT P u∧sizeT P u = some 1∧b.length ≤ limit then some (one (.slc h.next 0 0 b.length 1 none) (h.new (blkOf (b.map byteS) false))) else none
 | .slice _,.slice u,.slc b v o n s' c=>if s = d∧isByteT P u = true∧0 < n then (h.f b).bind fun k=>(k.ext v).bind fun _=>some (one (.slc b v o n s' c) (h.set b { k with fixed:=false })) else none
 | _,_,_=>none
def opA (cmp:Nat→Option (List AS)) (fr:Fr) (h:H) (o:Oper):Option OR :=
 match o.op with
 | .move x | .assign x=>do some (.val (← ev fr x) h)
 | .pick c a b=>do
  let .bool t ← evS fr c | none
  some (.val (← ev fr (if t then a else b)) h)
 | .alloc t=>do some (one (.ptr h.next 0 0) (h.new (blkOf (← zeroT P t) true)))
 | .box _ x=>do some (one (.ptr h.next 0 0) (h.new (blkOf (← (← ev fr x).cells) true)))
 | .build t ps=>do
  match ← P.underlying t with
  | .struct fs =>
   if t < P.types.size then do
    let l ← parts (fun i=>do let f ← fs[i]?;some (f.offset,← sizeT P f.type)) fr ps.toList (← zeroT P t)
    some (.val (.agg l) h)
   else none
  | .array _ u=>do
   let size ← sizeT P u
   let l ← parts (fun i=>some (i * size,size)) fr ps.toList (← zeroT P t)
   some (.val (.agg l) h)
  | _=>none
 | .buildSlice t n ps=>do
  let el ← elemT P t
  let size ← sizeT P el
  let z ← zeroT P el
  if z.length = size∧0 < size∧n * size ≤ 16777216 then do
   let l ← parts (fun i=>some (i * size,size)) fr ps.toList (repL z n)
   some (one (.slc h.next 0 0 n size none) (h.new (blkOf l true)))
  else none
 | .load t a=>do
  let l ← readC h (← evS fr a) (← sizeT P t)
  some (.val (← ofCells (← isAggT P t) l) h)
 | .store t a x=>do
  let l ← (← ev fr x).cells
  if sizeT P t = some l.length then do some (.skip (← writeC h (← evS fr a) l)) else none
 | .nilCheck x=>do
  let a ← evS fr x
  match a with
  | .ptr .. | .rp .. | .fn ..=>some (one a h)
  | _=>none
 | .binOp op t x y _=>do some (one (← bin P cmp op t (← ev fr x) (← ev fr y)) h)
 | .unOp op _ x=>do some (one (← un op (← ev fr x)) h)
 | .convert s d x=>do convA P s d (← evS fr x) h
 | .makeInterface t x=>do
  let a ← evS fr x
  match ← P.underlying t with
  | .interface _=>none
  | _=>some (one (.ifc t a) h)
 | .makeFunc (.func f) first caps=>do some (one (.fn f (← evSL fr first.toList) (← evSL fr caps.toList)) h)
 | .makeSlice t l c=>do
  let el ← elemT P t
  let size ← sizeT P el
  let bytes ← bytesT P el
  let z ← zeroT P el
  let n ← natOf (← evS fr l)
  let m ← natOf (← evS fr c)
  if n ≤ m∧m * bytes + m ≤ limit∧z.length = size∧0 < size then
   some (one (.slc h.next 0 0 n size none) (h.new (blkOf (repL z m) true)))
  else none
 | .slice t x lo hi mx=>do
  let a ← evS fr x
  let size ← sliceSize P t a
  if mx.isSome && hi.isNone then none else
  some (one (← sliceA h size a (← evO fr lo) (← evO fr hi) (← evO fr mx)) h)
 | .fieldAddr t x f=>do
  let (o,u) ← fieldT P t f
  let n ← sizeT P u
  if n = 0 then none else
  match ← evS fr x with
  | .ptr b v q=>some (one (.ptr b v (q + o)) h)
  | .rp c q=>some (one (.rp c (q + o)) h)
  | _=>none
 | .field t x f=>do
  let (o,u) ← fieldT P t f
  let .agg l ← ev fr x | none
  let q ← sub l o (← sizeT P u)
  some (.val (← ofCells (← isAggT P u) q) h)
 | .indexAddr t x i=>do some (one (← indexA P t (← evS fr x) (← natOf (← evS fr i))) h)
 | .index t x i=>do
  let .string ← P.underlying t | none
  let .str s ← evS fr x | none
  let b ← s[(← natOf (← evS fr i))]?
  some (one (byteS b) h)
 | .extract x i=>do
  let .tup ps ← ev fr x | none
  let (g,l) ← ps[i]?
  some (.val (← ofCells g l) h)
 | .call c=>callA P fr h c
 | .panic x=>do
  let .ifc t v ← evS fr x | none
  some (.pan (.ifc t v) h)
 | _=>none
end
end Go.Ab
namespace Go.Ab
inductive Cls where
 | pure | read | make | eff
 deriving DecidableEq
def clsOf (P:Program) (o:Oper):Cls :=
 match o.op with
 | .load .. | .slice ..=>.read
 | .call { callee:=.builtin .cap,.. }=>.read
 | .convert s d _=>match P.underlying s,P.underlying d with
  | some (.slice _),some .string=>.read
  | some .string,some (.slice _)=>.make
  | some (.slice _),some (.slice _)=>.eff
  | _,_=>.pure
 | .alloc _ | .box .. | .buildSlice .. | .makeSlice ..=>.make
 | .store .. | .panic _=>.eff
 | .call { callee:=.value _,.. }=>.eff
 | .call { callee:=.builtin .append,.. } | .call { callee:=.builtin .copy,.. } | .call { callee:=.builtin .clear,.. }=>.eff
 | _=>.pure
def ancOf (acc:List Nat) (o:Oper):Nat :=
 o.after.toList.foldl (fun s e=>if Region.binds .any e then s ||| 2 ^ e.on ||| (acc[e.on]?).getD 0 else s) 0
def ancs:List Oper→List Nat→List Nat
 | [],acc=>acc
 | o::l,acc=>ancs l (acc++[ancOf acc o])
def isAnc (A:List Nat) (i j:Nat):Bool:=((A[j]?).getD 0).testBit i
def canonGo (A:List Nat) (make:Nat→Bool):List Nat→List Nat→List Nat
 | [],pend=>pend
 | j::l,pend =>
  (pend.filter fun m=>isAnc A m j) ++
   (if make j then canonGo A make l ((pend.filter fun m=>!isAnc A m j)++[j]) else j::canonGo A make l (pend.filter fun m=>!isAnc A m j))
def isMake (P:Program) (ops:List Oper) (i:Nat):Bool:=match ops[i]? with | some o=>clsOf P o == .make | none=>false
def isEff (P:Program) (ops:List Oper) (i:Nat):Bool:=match ops[i]? with | some o=>clsOf P o == .eff | none=>false
def okSink (P:Program) (ops:List Oper) (A:List Nat):List Nat→List Nat→Bool
 | [],_=>true
 | i::l,seen=>(!isEff P ops i || seen.all fun m=>!isMake P ops m || isAnc A m i) && okSink P ops A l (seen++[i])
def isLate (P:Program) (ops:List Oper) (A:List Nat) (j:Nat):Bool:=isMake P ops j || (!isEff P ops j && (List.range j).any fun m=>isMake P ops m && isAnc A m j)
def canonLate (A:List Nat) (late:Nat→Bool):List Nat→List Nat→List Nat
 | [],pend=>pend
 | j::l,pend=>if late j then canonLate A late l (pend++[j]) else (pend.filter fun m=>isAnc A m j)++j::canonLate A late l (pend.filter fun m=>!isAnc A m j)
def canonOr (P:Program) (ops:List Oper) (A c:List Nat):List Nat:=bif okSink P ops A c [] then c else canonLate A (isLate P ops A) (List.range ops.length) []
def canon (P:Program) (ops:List Oper):List Nat:=canonOr P ops (ancs ops []) (canonGo (ancs ops []) (isMake P ops) (List.range ops.length) [])
def tmpsOf (l:List Operand):List Nat:=l.filterMap fun | .tmp t=>some t | _=>none
def touches (ops:List Oper) (o:Oper):List Nat :=
 o.dst.toList++tmpsOf o.op.operands.toList++(match o.guard with | some (j,_)=>(match ops[j]? with | some q=>q.dst.toList | none=>[]) | none=>[])
def okSlots (ops:List Oper) (A:List Nat) (i j:Nat):Bool :=
 match ops[i]?,ops[j]? with
 | some x,some y=>match x.dst with
  | some d=>!(touches ops y).contains d || isAnc A i j || isAnc A j i
  | none=>true
 | _,_=>true
def okOrder (ops:List Oper):List Nat→List Nat→Bool
 | [],_=>true
 | i::l,seen=>(match ops[i]? with
   | some o=>o.after.toList.all fun e=>!Region.binds .any e || seen.contains e.on
   | none=>false) && !seen.contains i && okOrder ops l (seen++[i])
def okDraw (P:Program) (ops:List Oper):Bool :=
 let n:=ops.length
 let A:=ancs ops []
 let c:=canon P ops
 (List.range n).all (fun j=>(match ops[j]? with | some o=>o.after.toList.all (fun e=>!Region.binds .any e || e.on < j) | none=>false) &&
  (List.range n).all fun i=>i == j || ((i ≥ j || !(isEff P ops i && isEff P ops j) || isAnc A i j) && okSlots ops A i j)) &&
 (List.range n).all (fun j=>c.contains j) && okOrder ops c [] && okSink P ops A c []
inductive Ex where
 | normal | exit (id:Nat) | ret | pan (v:AS)
abbrev Out:=Option (Ex × Fr × H)
abbrev Calls':=Nat→List AV→H→Option CR
def wantedA (fr:Fr) (ops:List Oper) (o:Oper):Option Bool :=
 match o.guard with
 | none=>some true
 | some (j,want)=>do
  let q ← ops[j]?
  let d ← q.dst
  match Fr.get fr d with
  | .one (.bool b)=>some (b == want)
  | .undef=>some false
  | _=>none
section
variable (C:Conf)
inductive RO where
 | ok (v:AV) (h:H)
 | pan (v:AS) (h:H)
def runO (calls:Calls') (fr:Fr) (h:H) (o:Oper):Option RO:=do
 match ← opA C.P C.cmp fr h o with
 | .val v h'=>some (.ok v h')
 | .skip h'=>some (.ok .undef h')
 | .call f args h'=>match ← calls f args h' with
  | .ret v h''=>some (.ok v h'')
  | .pan v h''=>some (.pan v h'')
 | .pan v h'=>some (.pan v h')
def runOp (calls:Calls') (fr:Fr) (h:H) (o:Oper):Out:=do
 match ← runO C calls fr h o with
 | .ok v h'=>some (.normal,← Fr.put fr o.dst v,h')
 | .pan v h'=>some (.pan v,fr,h')
def runOps (calls:Calls') (ops:List Oper):List Oper→Fr→H→Out
 | [],fr,h=>some (.normal,fr,h)
 | o::l,fr,h=>do
  if ← wantedA fr ops o then
   match ← runOp C calls fr h o with
   | (.normal,fr',h')=>runOps calls ops l fr' h'
   | r=>some r
  else runOps calls ops l (← Fr.put fr o.dst .undef) h
def ask (fr:Fr) (o:Oper) (h:H):Option AV :=
 match opA C.P C.cmp fr h o with
 | some (.val v _)=>some v
 | _=>none
def H.ghost (e h h':H):H:=if h.next < h'.next then ⟨max e.next h'.next,fun b=>if b = h.next then h'.f b else e.f b⟩ else e
structure Seen where
 effs:List (Nat × H × H)
 rds:List (Nat × (H→Option AV) × AV)
def Seen.ghost (s:Seen) (h h':H):Seen:=⟨s.effs.map fun e=>(e.1,e.2.1,e.2.2.ghost h h'),s.rds⟩
open Classical in
noncomputable def runD (calls:Calls') (ops:List Oper) (A:List Nat):Option (Nat × AS × Fr × H)→List Nat→Fr→H→Seen→Out
 | none,[],fr,h,_=>some (.normal,fr,h)
 | some (_,v,fr,h),[],_,_,_=>some (.pan v,fr,h)
 | dead,i::l,fr,h,s =>
  if (match dead with | some (e,_)=>isAnc A e i | none=>false) then runD calls ops A dead l fr h s else do
  let o ← ops[i]?
  if ← wantedA fr ops o then
   match clsOf C.P o with
   | .eff =>
    if dead.isSome then none else
    match ← runO C calls fr h o with
    | .ok v h'=>if ∀ r ∈ s.rds,isAnc A r.1 i = true ∨ r.2.1 h' = some r.2.2 then runD calls ops A dead l (← Fr.put fr o.dst v) h' { s with effs:=(i,h,h)::s.effs } else none
    | .pan v h'=>runD calls ops A (some (i,v,fr,h')) l fr h s
   | .read=>do
    let v ← ask C fr o h
    if ∀ e ∈ s.effs,isAnc A e.1 i = true ∨ ask C fr o e.2.1 = some v ∨ ask C fr o e.2.2 = some v then
     runD calls ops A dead l (← Fr.put fr o.dst v) h { s with rds:=(i,ask C fr o,v)::s.rds }
    else none
   | _=>match ← runO C calls fr h o with
    | .ok v h'=>runD calls ops A dead l (← Fr.put fr o.dst v) h' (s.ghost h h')
    | .pan _ _=>none
  else runD calls ops A dead l (← Fr.put fr o.dst .undef) h s
noncomputable def step (calls:Calls') (rec:Code→Fr→H→Out) (c:Code) (fr:Fr) (h:H):Out :=
 match c with
 | .skip=>some (.normal,fr,h)
 | .label _=>some (.normal,fr,h)
 | .region _ ops draw =>
  if draw then if okDraw C.P ops.toList then runD C calls ops.toList (ancs ops.toList []) none (canon C.P ops.toList) fr h ⟨[],[]⟩ else none
  else runOps C calls ops.toList ops.toList fr h
 | .seq a b=>do
  match ← rec a fr h with
  | (.normal,fr',h')=>rec b fr' h'
  | r=>some r
 | .cond c a b=>do
  let .bool t ← evS fr c | none
  rec (if t then a else b) fr h
 | .block id b=>do
  match ← rec b fr h with
  | (.exit i,fr',h')=>if i = id then some (.normal,fr',h') else some (.exit i,fr',h')
  | r=>some r
 | .loop b=>do
  match ← rec b fr h with
  | (.normal,fr',h')=>rec (.loop b) fr' h'
  | r=>some r
 | .exit id=>some (.exit id,fr,h)
 | .ret=>some (.ret,fr,h)
 | _=>none
def partOf:AV→Option (Bool × List AS)
 | .one a=>some (false,[a])
 | .agg l=>some (true,l)
 | _=>none
def resVar (fr:Fr) (h:H):ResultVar→Option AV
 | .tmp t=>some (Fr.get fr t)
 | .cell a t=>do
  let .one p:=Fr.get fr a | none
  let l ← readC h p (← sizeT C.P t)
  ofCells (← isAggT C.P t) l
def resParts (fr:Fr) (h:H):List ResultVar→Option (List (Bool × List AS))
 | []=>some []
 | r::l=>do
  let p ← partOf (← resVar C fr h r)
  some (p::(← resParts fr h l))
def resultA (fr:Fr) (h:H):List ResultVar→Option AV
 | [r]=>do
  let (g,l) ← partOf (← resVar C fr h r)
  ofCells g l
 | l=>do some (.tup (← resParts C fr h l))
def cmpL (a b:List UInt8):Int:=if Op.bytesLess a b then -1 else if a == b then 0 else 1
def extA (x:Ext) (args:List AV) (h:H):Option CR :=
 match x,args with
 | .bits,[.one (.flt b)]=>some (.ret (.one (.int .u64 b)) h)
 | .bits,[.one .nan]=>some (.ret (.one .nanb) h)
 | .frombits,[.one (.int .u64 n)]=>some (.ret (.one (.flt n.toNat)) h)
 | .frombits,[.one .nanb]=>some (.ret (.one .nan) h)
 | .cmpBytes,[.one a,.one b]=>do
  let x ← bytesOf (← elemsOf h 1 (← lenS a) a)
  let y ← bytesOf (← elemsOf h 1 (← lenS b) b)
  some (.ret (.one (.int .i64 (cmpL x y))) h)
 | .cmpStr,[.one (.str a),.one (.str b)]=>some (.ret (.one (.int .i64 (cmpL a b))) h)
 | _,_=>none
mutual
def pureS (st:Bool):AS→Bool
 | .ptr _ _ _=>false
 | .slc _ _ _ _ _ _=>false
 | .rp cells _=>!st && pureL st cells
 | .vs n _ cells=>(!st || n == 0) && pureL st cells
 | .fn _ first caps=>pureL st first && pureL st caps
 | .ifc _ v=>pureS st v
 | .bool _=>true
 | .int _ _=>true
 | .flt _=>true
 | .nan=>true
 | .nanb=>true
 | .nanf=>true
 | .str _=>true
 | .nilptr=>true
 | .nilslc=>true
 | .nilfn=>true
 | .nilifc=>true
def pureL (st:Bool):List AS→Bool
 | []=>true
 | a::l=>pureS st a && pureL st l
end
def viewS (h:H):Nat→AS→Option AS
 | 0,_=>none
 | n + 1,.slc b v o k s _=>do
  let l ← readC h (.ptr b v o) (k * s)
  some (.vs k s (← l.mapM (viewS h n)))
 | n + 1,.ptr b v o=>do
  let k ← h.f b
  let e ← k.ext v
  some (.rp (← (k.cells.take e).mapM (viewS h n)) o)
 | n + 1,.fn f first caps=>do some (.fn f (← first.mapM (viewS h n)) (← caps.mapM (viewS h n)))
 | n + 1,.ifc t v=>do some (.ifc t (← viewS h n v))
 | _ + 1,a=>if pureS false a then some a else none
def pureV:AV→Bool
 | .one a=>pureS false a
 | .agg l=>pureL false l
 | .opq=>true
 | _=>false
def viewV (h:H):AV→Option AV
 | .one a=>do some (.one (← viewS h 64 a))
 | .agg l=>do some (.agg (← l.mapM (viewS h 64)))
 | .opq=>some .opq
 | _=>none
def viewA (h:H) (l:List AV):Option (List AV):=if l.all pureV then some l else l.mapM (viewV h)
def frzS (st:Bool) (h:H):Nat→AS→Option AS
 | 0,_=>none
 | n + 1,.slc b v o k s _=>do
  let l ← readC h (.ptr b v o) (k * s)
  some (.vs k s (← l.mapM (frzS st h n)))
 | _ + 1,a=>if pureS st a then some a else none
def frzP (st:Bool) (h:H):List (Bool × List AS)→Option (List (Bool × List AS))
 | []=>some []
 | p::l=>do
  let q ← p.2.mapM (frzS st h 64)
  some ((p.1,q)::(← frzP st h l))
def frzV (st:Bool) (h:H):AV→Option AV
 | .one a=>do some (.one (← frzS st h 64 a))
 | .agg l=>do some (.agg (← l.mapM (frzS st h 64)))
 | .tup ps=>do some (.tup (← frzP st h ps))
 | .opq=>some .opq
 | .undef=>none
def H.upto (h:H) (n:Nat):H:=⟨n,fun b=>if b < n then h.f b else none⟩
def H.del (h:H) (b:Nat):H:={ h with f:=fun x=>if x = b then none else h.f x }
def outV (own st:Bool) (h1 h:H) (r:AV):Option CR :=
 match own,r with
 | true,.one (.slc b v o n s c)=>do
  let B ← h1.f b
  if v = B.ver∧o = 0∧c = none∧0 < s∧B.cells.length = n * s∧B.ext v = some (n * s) then
   some (.ret (.one (.slc h.next 0 0 n s none)) (h.new (blkOf (← B.cells.mapM (frzS st (h1.del b) 64)) B.fixed)))
  else none
 | _,r=>do some (.ret (← frzV st h1 r) h)
noncomputable def callF (calls:Calls') (rec:Code→Fr→H→Out) (f:Nat) (args:List AV) (h:H):Option CR :=
 match C.prim f,C.ext f with
 | some g,_=>g calls args h
 | none,some x=>extA x args h
 | none,none=>do
  let fn ← C.P.funcs[f]?
  let c ← fn.body
  if fn.ntmps < args.length then none else
  if C.frz f then do
   let args' ← viewA h args
   match ← rec c (args'++List.replicate (fn.ntmps - args.length) .undef) H.empty with
   | (.normal,fr,h') | (.ret,fr,h')=>do
    let v ← resultA C fr h' fn.results.toList
    outV (C.own f) (!args.all pureV) h' h v
   | _=>none
  else do
  match ← rec c (args++List.replicate (fn.ntmps - args.length) .undef) h with
  | (.normal,fr,h') | (.ret,fr,h')=>do
   let v ← resultA C fr h' fn.results.toList
   some (.ret v h')
  | (.pan v,_,h')=>some (.pan v h')
  | _=>none
noncomputable def both:Nat→(Code→Fr→H→Out) × Calls'
 | 0=>(fun _ _ _=>none,fun _ _ _=>none)
 | n + 1=>let r:=both n;(step C r.2 r.1,callF C r.2 r.1)
noncomputable def exec (n:Nat):Code→Fr→H→Out:=(both C n).1
noncomputable def call (n:Nat):Calls':=(both C n).2
end
end Go.Ab
namespace Go.Ab
structure Loc where
 blk:Nat
 base:Nat
 ext:Nat
 lim:Nat
structure Phi where
 m:Nat→Nat→Option Loc
 F:Nat→Prop
 q:Value
instance:CoeFun Phi (fun _=>Nat→Nat→Option Loc):=⟨Phi.m⟩
def Nf (φ:Phi) (k:Nat):Prop:=¬ φ.F k
def IsNaN (x:Nat):Prop:=∃ s f,s < 2∧0 < f∧f < 2 ^ 52∧x = s * 2 ^ 63 + 0x7ff0000000000000 + f
section
variable (φ:Phi) (O:Nat→Prop) (w:World)
mutual
inductive VR:AS→Value→Prop
 | bool (b:Bool):VR (.bool b) (.bool b)
 | int (k:IntKind) (n:Int):VR (.int k n) (.int k n)
 | flt (b:Nat):VR (.flt b) (.float .f64 b)
 | nan (x:Nat):IsNaN x→VR .nan (.float .f64 x)
 | nanb (x:Nat):IsNaN x→VR .nanb (.int .u64 x)
 | nanf (x:Nat):0 < x→VR .nanf (.int .u64 x)
 | str (s:List UInt8):VR (.str s) (.string ⟨s.toArray⟩)
 | nilptr:VR .nilptr (.pointer none)
 | ptr (b v o:Nat) (l:Loc):φ b v = some l→VR (.ptr b v o) (.pointer (some ⟨l.blk,l.base + o,none⟩))
 | rp (cells:List AS) (o blk base:Nat) (vs:List Value):¬ O blk→blk < w.heap.size→VRL cells vs→(∀ i v,vs[i]? = some v→w.cell? ⟨blk,base + i,none⟩ = some v) →
   VR (.rp cells o) (.pointer (some ⟨blk,base + o,none⟩))
 | nilslc:VR .nilslc (.slice none 0 0)
 | slc (b v o n s:Nat) (c:Option Nat) (l:Loc) (a:Addr) (cap:Nat):φ b v = some l→0 < s→(0 < cap→a = ⟨l.blk,l.base + o,none⟩)→n ≤ cap →
   (match c with | none=>o + cap * s = l.lim | some cc=>cap = cc∧o + cc * s ≤ l.lim)→o + n * s ≤ l.ext→VR (.slc b v o n s c) (.slice (some a) n cap)
 | vs (n s:Nat) (cells:List AS) (blk base cap:Nat) (spot:Option Nat) (vs:List Value):n ≤ cap→(0 < s ∨ cap = 0)→cells.length = n * s→(0 < n→¬ O blk)→(0 < n→blk < w.heap.size)→(0 < n→spot = none)→VRL cells vs →
   (∀ i v,vs[i]? = some v→w.cell? ⟨blk,base + i,none⟩ = some v)→VR (.vs n s cells) (.slice (some ⟨blk,base,spot⟩) n cap)
 | fn (f:Nat) (first caps:List AS) (vs1 vs2:List Value):VRL first vs1→VRL caps vs2→VR (.fn f first caps) (.func (.func f) vs1.toArray vs2.toArray)
 | nilfn:VR .nilfn .nilFunc
 | ifc (t:Nat) (a:AS) (v:Value):VR a v→VR (.ifc t a) (.iface t v)
 | nilifc:VR .nilifc .nilIface
inductive VRL:List AS→List Value→Prop
 | nil:VRL [] []
 | cons (a:AS) (v:Value) (l:List AS) (vs:List Value):VR a v→VRL l vs→VRL (a::l) (v::vs)
end
def PR (p:Bool × List AS) (v:Value):Prop:=∃ vs,VRL φ O w p.2 vs∧(if p.1 then v = .agg vs.toArray else vs = [v])
inductive PRL:List (Bool × List AS)→List Value→Prop
 | nil:PRL [] []
 | cons (p:Bool × List AS) (v:Value) (l:List (Bool × List AS)) (vs:List Value):PR φ O w p v→PRL l vs→PRL (p::l) (v::vs)
inductive AVR:AV→Value→Prop
 | undef:AVR .undef Go.undef
 | opq:AVR .opq φ.q
 | one (a:AS) (v:Value):VR φ O w a v→AVR (.one a) v
 | agg (l:List AS) (vs:List Value):VRL φ O w l vs→AVR (.agg l) (.agg vs.toArray)
 | tup (l:List (Bool × List AS)) (vs:List Value):PRL φ O w l vs→AVR (.tup l) (.tuple vs.toArray)
inductive AVL:List AV→List Value→Prop
 | nil:AVL [] []
 | cons (a:AV) (v:Value) (l:List AV) (vs:List Value):AVR φ O w a v→AVL l vs→AVL (a::l) (v::vs)
end
def Own (φ:Phi) (h:H) (blk:Nat):Prop:=∃ b k v e l,h.f b = some k∧k.ext v = some e∧φ b v = some l∧l.blk = blk
def Holds (φ:Phi) (O:Nat→Prop) (w:World) (cells:List AS) (fx:Bool) (l:Loc):Prop :=
 ∃ c elem fz,w.heap[l.blk]? = some (.cells c elem fz)∧l.base + l.lim ≤ c.size∧(fz.1 = fz.2 ∨ (l.base + l.lim ≤ fz.1∧fx = false)) ∧
  ∃ vs,VRL φ O w (cells.take l.ext) vs∧∀ i v,vs[i]? = some v→c[l.base + i]? = some v
structure Rel (φ:Phi) (h:H) (w:World):Prop where
 lt:∀ b k,h.f b = some k→b < h.next
 blk:∀ b k v e,h.f b = some k→k.ext v = some e→∃ l,φ b v = some l∧l.ext = e∧e ≤ k.cells.length∧e ≤ l.lim∧(v = k.ver→e = k.cells.length∧(k.fixed = true→l.lim = e))∧Holds φ (Nf φ) w k.cells k.fixed l
 sep:∀ b k v e l b' k' v' e' l',h.f b = some k→k.ext v = some e→φ b v = some l→h.f b' = some k'→k'.ext v' = some e'→φ b' v' = some l'→l.blk = l'.blk→b = b'∧l.base = l'.base
 dom:∀ b v l,φ b v = some l→b < h.next∧l.blk < w.heap.size
 ver:∀ b k v l,h.f b = some k→φ b v = some l→v ≤ k.ver
 frz:∀ k,φ.F k→k < w.heap.size∧¬ Own φ h k
structure Grow0 (φ:Phi) (h:H) (w:World) (φ':Phi) (h':H) (w':World):Prop where
 sub:∀ b v l,φ b v = some l→φ' b v = some l
 next:h.next ≤ h'.next
 size:w.heap.size ≤ w'.heap.size
 keep:∀ k,k < w.heap.size→¬ Own φ h k→w'.heap[k]? = w.heap[k]?
 own:∀ k,k < w.heap.size→Own φ' h' k→Own φ h k
 os:w'.os = w.os
 tape:w'.tape = w.tape
 output:w'.output = w.output
 keepF:∀ k,k < w.heap.size→φ.F k→w'.heap[k]? = w.heap[k]?
 F:∀ k,φ.F k→φ'.F k
 fresh:∀ k,k < w.heap.size→φ'.F k→φ.F k
 q:φ'.q = φ.q
structure Grow (φ:Phi) (h:H) (w:World) (φ':Phi) (h':H) (w':World):Prop extends Grow0 φ h w φ' h' w' where
 names:∀ b v l,φ' b v = some l→φ b v = some l ∨ h.next ≤ b ∨ h.f b ≠ none
 keepB:∀ b,h'.f b ≠ none→h.f b ≠ none ∨ h.next ≤ b
theorem Grow.refl (φ:Phi) (h:H) (w:World):Grow φ h w φ h w :=
 ⟨⟨fun _ _ _ h=>h,Nat.le_refl _,Nat.le_refl _,fun _ _ _=>rfl,fun _ _ h=>h,rfl,rfl,rfl,fun _ _ _=>rfl,fun _ h=>h,fun _ _ h=>h,rfl⟩,fun _ _ _ h=>.inl h,fun _ h=>.inl h⟩
theorem Grow0.trans {φ h w φ' h' w' φ'' h'' w''} (a:Grow0 φ h w φ' h' w') (b:Grow0 φ' h' w' φ'' h'' w''):Grow0 φ h w φ'' h'' w'' where
 sub x v l hx:=b.sub _ _ _ (a.sub _ _ _ hx)
 next:=Nat.le_trans a.next b.next
 size:=Nat.le_trans a.size b.size
 keep k hk ho:=by
  rw [b.keep k (Nat.lt_of_lt_of_le hk a.size) (fun h=>ho (a.own k hk h)),a.keep k hk ho]
 own k hk ho:=a.own k hk (b.own k (Nat.lt_of_lt_of_le hk a.size) ho)
 os:=b.os.trans a.os
 tape:=b.tape.trans a.tape
 output:=b.output.trans a.output
 keepF k hk hF:=by rw [b.keepF k (Nat.lt_of_lt_of_le hk a.size) (a.F k hF),a.keepF k hk hF]
 F k hF:=b.F k (a.F k hF)
 fresh k hk hF:=a.fresh k hk (b.fresh k (Nat.lt_of_lt_of_le hk a.size) hF)
 q:=b.q.trans a.q
theorem Grow.trans {φ h w φ' h' w' φ'' h'' w''} (a:Grow φ h w φ' h' w') (b:Grow φ' h' w' φ'' h'' w''):Grow φ h w φ'' h'' w'' where
 toGrow0:=a.toGrow0.trans b.toGrow0
 names x v l hx:=by
  rcases b.names x v l hx with h1 | h1 | h1
  ·exact a.names x v l h1
  ·exact .inr (.inl (Nat.le_trans a.next h1))
  ·rcases a.keepB x h1 with h2 | h2
   ·exact .inr (.inr h2)
   ·exact .inr (.inl h2)
 keepB x hx:=by
  rcases b.keepB x hx with h1 | h1
  ·exact a.keepB x h1
  ·exact .inr (Nat.le_trans a.next h1)
section
variable {φ φ':Phi} {O O':Nat→Prop} {w w':World}
theorem VR.mono (hs:∀ b v l,φ b v = some l→φ' b v = some l) (hsz:w.heap.size ≤ w'.heap.size) (hk:∀ k,k < w.heap.size→¬ O k→w'.heap[k]? = w.heap[k]?)
  (ho:∀ k,k < w.heap.size→O' k→O k) {a:AS} {v:Value} (h:VR φ O w a v):VR φ' O' w' a v:=by
 refine VR.rec (motive_1:=fun a v _=>VR φ' O' w' a v) (motive_2:=fun l vs _=>VRL φ' O' w' l vs)
  ?_ ?_ ?_ ?_ ?_ ?_ ?_ ?_ ?_ ?_ ?_ ?_ ?_ ?_ ?_ ?_ ?_ ?_ ?_ h
 ·exact fun b=>.bool b
 ·exact fun k n=>.int k n
 ·exact fun b=>.flt b
 ·exact fun x hx=>.nan x hx
 ·exact fun x hx=>.nanb x hx
 ·exact fun x hx=>.nanf x hx
 ·exact fun s=>.str s
 ·exact .nilptr
 ·exact fun b v o l h=>.ptr b v o l (hs _ _ _ h)
 ·intro cells o blk base vs hO hb _ hc ih
  refine .rp cells o blk base vs (fun h=>hO (ho _ hb h)) (Nat.lt_of_lt_of_le hb hsz) ih fun i v hv=>?_
  have:=hc i v hv
  simp only [World.cell?] at this ⊢
  rw [hk blk hb hO];exact this
 ·exact .nilslc
 ·exact fun b v o n s c l a cap h1 h2 h3 h4 h5 h6=>.slc b v o n s c l a cap (hs _ _ _ h1) h2 h3 h4 h5 h6
 ·intro n s cells blk base cap spot vs h1 h2 h3 hO hb hsp _ hc ih
  refine .vs n s cells blk base cap spot vs h1 h2 h3 (fun hn h=>hO hn (ho _ (hb hn) h)) (fun hn=>Nat.lt_of_lt_of_le (hb hn) hsz) hsp ih fun i v hv=>?_
  have hn:0 < n:=by
   rcases Nat.eq_zero_or_pos n with hn | hn
   ·exfalso
    rw [hn,Nat.zero_mul] at h3
    have hcn:cells = []:=List.eq_nil_of_length_eq_zero h3
    rw [hcn] at ih
    cases ih
    simp at hv
   ·exact hn
  have:=hc i v hv
  simp only [World.cell?] at this ⊢
  rw [hk blk (hb hn) (hO hn)];exact this
 ·exact fun f first caps vs1 vs2 _ _ i1 i2=>.fn f first caps vs1 vs2 i1 i2
 ·exact .nilfn
 ·exact fun t a v _ ih=>.ifc t a v ih
 ·exact .nilifc
 ·exact .nil
 ·exact fun a v l vs _ _ i1 i2=>.cons a v l vs i1 i2
theorem VRL.mono (hs:∀ b v l,φ b v = some l→φ' b v = some l) (hsz:w.heap.size ≤ w'.heap.size) (hk:∀ k,k < w.heap.size→¬ O k→w'.heap[k]? = w.heap[k]?)
  (ho:∀ k,k < w.heap.size→O' k→O k):∀ {l:List AS} {vs:List Value},VRL φ O w l vs→VRL φ' O' w' l vs
 | _,_,.nil=>.nil
 | _,_,.cons a v l vs h t=>.cons a v l vs (h.mono hs hsz hk ho) (t.mono hs hsz hk ho)
theorem PRL.mono (hs:∀ b v l,φ b v = some l→φ' b v = some l) (hsz:w.heap.size ≤ w'.heap.size) (hk:∀ k,k < w.heap.size→¬ O k→w'.heap[k]? = w.heap[k]?)
  (ho:∀ k,k < w.heap.size→O' k→O k):∀ {l:List (Bool × List AS)} {vs:List Value},PRL φ O w l vs→PRL φ' O' w' l vs
 | _,_,.nil=>.nil
 | _,_,.cons p v l vs ⟨us,h,e⟩ t=>.cons p v l vs ⟨us,h.mono hs hsz hk ho,e⟩ (t.mono hs hsz hk ho)
theorem AVR.mono (hq:φ'.q = φ.q) (hs:∀ b v l,φ b v = some l→φ' b v = some l) (hsz:w.heap.size ≤ w'.heap.size) (hk:∀ k,k < w.heap.size→¬ O k→w'.heap[k]? = w.heap[k]?)
  (ho:∀ k,k < w.heap.size→O' k→O k) {a:AV} {v:Value} (h:AVR φ O w a v):AVR φ' O' w' a v:=by
 cases h with
 | undef=>exact .undef
 | opq=>exact hq ▸ .opq
 | one a v h=>exact .one a v (h.mono hs hsz hk ho)
 | agg l vs h=>exact .agg l vs (h.mono hs hsz hk ho)
 | tup l vs h=>exact .tup l vs (h.mono hs hsz hk ho)
theorem AVL.mono (hq:φ'.q = φ.q) (hs:∀ b v l,φ b v = some l→φ' b v = some l) (hsz:w.heap.size ≤ w'.heap.size) (hk:∀ k,k < w.heap.size→¬ O k→w'.heap[k]? = w.heap[k]?)
  (ho:∀ k,k < w.heap.size→O' k→O k):∀ {l:List AV} {vs:List Value},AVL φ O w l vs→AVL φ' O' w' l vs
 | _,_,.nil=>.nil
 | _,_,.cons a v l vs h t=>.cons a v l vs (h.mono hq hs hsz hk ho) (t.mono hq hs hsz hk ho)
end
theorem Grow0.keepN {φ h w φ' h' w'} (g:Grow0 φ h w φ' h' w') (k:Nat) (hk:k < w.heap.size) (hn:¬ Nf φ k):w'.heap[k]? = w.heap[k]?:=g.keepF k hk (Classical.not_not.1 hn)
theorem Grow0.ownN {φ h w φ' h' w'} (g:Grow0 φ h w φ' h' w') (k:Nat) (hk:k < w.heap.size) (hn:Nf φ' k):Nf φ k:=fun hF=>hn (g.F k hF)
theorem Grow0.vr {φ h w φ' h' w'} (g:Grow0 φ h w φ' h' w') {a:AS} {v:Value} (x:VR φ (Nf φ) w a v):VR φ' (Nf φ') w' a v:=x.mono g.sub g.size g.keepN g.ownN
theorem Grow0.vrl {φ h w φ' h' w'} (g:Grow0 φ h w φ' h' w') {a:List AS} {v:List Value} (x:VRL φ (Nf φ) w a v):VRL φ' (Nf φ') w' a v:=x.mono g.sub g.size g.keepN g.ownN
theorem Grow0.avl {φ h w φ' h' w'} (g:Grow0 φ h w φ' h' w') {a:List AV} {v:List Value} (x:AVL φ (Nf φ) w a v):AVL φ' (Nf φ') w' a v:=x.mono g.q g.sub g.size g.keepN g.ownN
section
variable {φ:Phi} {O:Nat→Prop} {w:World}
theorem VRL.length:∀ {l:List AS} {vs:List Value},VRL φ O w l vs→l.length = vs.length
 | _,_,.nil=>rfl
 | _,_,.cons _ _ _ _ _ t=>by simp [t.length]
theorem AVL.length:∀ {l:List AV} {vs:List Value},AVL φ O w l vs→l.length = vs.length
 | _,_,.nil=>rfl
 | _,_,.cons _ _ _ _ _ t=>by simp [t.length]
theorem VRL.append:∀ {l:List AS} {vs:List Value} {m:List AS} {us:List Value},VRL φ O w l vs→VRL φ O w m us→VRL φ O w (l++m) (vs++us)
 | _,_,_,_,.nil,h=>h
 | _,_,_,_,.cons a v l vs h t,k=>.cons a v _ _ h (t.append k)
theorem AVL.append:∀ {l:List AV} {vs:List Value} {m:List AV} {us:List Value},AVL φ O w l vs→AVL φ O w m us→AVL φ O w (l++m) (vs++us)
 | _,_,_,_,.nil,h=>h
 | _,_,_,_,.cons a v l vs h t,k=>.cons a v _ _ h (t.append k)
theorem VRL.take:∀ {l:List AS} {vs:List Value} (n:Nat),VRL φ O w l vs→VRL φ O w (l.take n) (vs.take n)
 | _,_,0,_=>by simp;exact .nil
 | _,_,_ + 1,.nil=>by simp;exact .nil
 | _,_,n + 1,.cons a v l vs h t=>by simp;exact .cons a v _ _ h (t.take n)
theorem VRL.drop:∀ {l:List AS} {vs:List Value} (n:Nat),VRL φ O w l vs→VRL φ O w (l.drop n) (vs.drop n)
 | _,_,0,h=>by simpa using h
 | _,_,_ + 1,.nil=>by simp;exact .nil
 | _,_,n + 1,.cons a v l vs h t=>by simp;exact t.drop n
theorem VRL.get:∀ {l:List AS} {vs:List Value} {i:Nat} {a:AS},VRL φ O w l vs→l[i]? = some a→∃ v,vs[i]? = some v∧VR φ O w a v
 | _,_,_,_,.nil,h=>by simp at h
 | _,_,0,_,.cons a v l vs h t,e=>by simp at e;subst e;exact ⟨v,rfl,h⟩
 | _,_,i + 1,_,.cons a v l vs h t,e=>by simp at e;simpa using t.get e
theorem VRL.of_sub {l:List AS} {vs:List Value} {o n:Nat} {q:List AS} (h:VRL φ O w l vs) (hq:sub l o n = some q):VRL φ O w q ((vs.drop o).take n)∧q.length = n:=by
 unfold sub at hq
 split at hq
 ·rename_i hle
  simp only [oqI] at hq
  subst hq
  refine ⟨(h.drop o).take n, ?_⟩
  simp;omega
 ·cases hq
theorem oneCell_of_VR {a:AS} {v:Value} (h:VR φ O w a v):v.cells = #[v]:=by cases h <;> rfl
theorem AVR.cells {x:AV} {v:Value} {l:List AS} (h:AVR φ O w x v) (hl:x.cells = some l):∃ vs,VRL φ O w l vs∧v.cells = vs.toArray:=by
 cases h with
 | undef=>cases hl
 | opq=>cases hl
 | one a v h=>simp [AV.cells] at hl;subst hl;exact ⟨[v],.cons _ _ _ _ h .nil,oneCell_of_VR h⟩
 | agg l' vs h=>simp [AV.cells] at hl;subst hl;exact ⟨vs,h,rfl⟩
 | tup _ _ _=>cases hl
end
end Go.Ab
namespace Go.Ab
theorem add_none (b o j:Nat):(⟨b,o,none⟩:Addr).add j = ⟨b,o + j,none⟩:=by
 unfold Addr.add;split <;> simp_all
def over (c:List Value) (o:Nat) (vs:List Value):List Value:=c.take o++vs++c.drop (o + vs.length)
theorem over_length (c:List Value) (o:Nat) (vs:List Value) (h:o + vs.length ≤ c.length):(over c o vs).length = c.length:=by
 simp [over];omega
theorem over_get (c:List Value) (o:Nat) (vs:List Value) (h:o + vs.length ≤ c.length) (i:Nat) :
  (over c o vs)[i]? = if i < o then c[i]? else if i < o + vs.length then vs[i - o]? else c[i]?:=by
 have ht:(c.take o).length = o:=by simp;omega
 unfold over
 rw [List.append_assoc,List.getElem?_append,ht]
 by_cases h1:i < o
 ·simp [h1]
 ·rw [if_neg h1,if_neg h1,List.getElem?_append]
  by_cases h2:i < o + vs.length
  ·rw [if_pos (by omega),if_pos h2]
  ·rw [if_neg (by omega),if_neg h2,List.getElem?_drop]
   congr 1;omega
theorem run_storeCells_any (P:Program) (g o:Nat) (t:TypeId) (fz:Nat × Nat):∀ (vs:List Value) (i:Nat) (cur:Array Value) (w:World),w.heap[g]? = some (.cells cur t fz) →
  (∀ j,j < vs.length→¬ (fz.1 ≤ o + i + j∧o + i + j < fz.2))→o + i + vs.length ≤ cur.size→(∀ v ∈ vs,v.oneCell' = true) →
  (storeCells ⟨g,o,none⟩ vs i).run P w = .ok () (w.setRow g (over cur.toList (o + i) vs).toArray)
 | [],i,cur,w,hg,_,_,_=>by
  have e:(over cur.toList (o + i) []).toArray = cur:=by simp [over]
  rw [e,setRow_self w g cur t fz hg]
  rfl
 | v::rest,i,cur,w,hg,hfz,hl,h1=>by
  have hi:o + i < cur.size:=by simp at hl;omega
  have hcell:w.cell? ⟨g,o + i,none⟩ = some cur[o + i]:=by simp [World.cell?,hg,hi]
  have hfro:w.frozen? ⟨g,o + i,none⟩ = false:=by
   obtain ⟨lo,hi'⟩:=fz
   have:=hfz 0 (by simp)
   simp only [World.frozen?,hg]
   simp only [Nat.add_zero] at this
   by_cases h1:lo ≤ o + i <;> simp [h1] <;> omega
  have hst:(store ((⟨g,o,none⟩:Addr).add i) v).run P w = .ok () (w.setRow g (cur.setIfInBounds (o + i) v)):=by
   rw [add_none,run_store P w _ v _ (h1 v (by simp)),hcell]
   simp [hfro,setCell_eq_setRow w g (o + i) cur t fz v hg]
  have ih:=run_storeCells_any P g o t fz rest (i + 1) (cur.setIfInBounds (o + i) v) (w.setRow g (cur.setIfInBounds (o + i) v)) (setRow_heap w g cur _ t _ hg)
   (fun j hj=>by have:=hfz (j + 1) (by simp;omega);rwa [show o + (i + 1) + j = o + i + (j + 1) by omega]) (by simp at hl ⊢;omega) (fun x hx=>h1 x (by simp [hx]))
  simp only [storeCells,Sem.run_bind,hst,Result.andThen_ok,ih,setRow_setRow]
  congr 3
  have e:=list_seg_step cur.toList (o + i) v rest (by simp at hl ⊢;omega)
  simpa [over,Array.toList_setIfInBounds,Nat.add_assoc] using e
section
variable {φ:Phi} {O:Nat→Prop} {w:World}
theorem oneCell'_of_VR {a:AS} {v:Value} (h:VR φ O w a v):v.oneCell' = true:=by cases h <;> rfl
theorem VRL.oneCells:∀ {l:List AS} {vs:List Value},VRL φ O w l vs→∀ v ∈ vs,v.oneCell' = true
 | _,_,.nil,_,h=>by cases h
 | _,_,.cons a v l vs h t,x,hx=>by
  rcases List.mem_cons.1 hx with rfl | hx
  ·exact oneCell'_of_VR h
  ·exact t.oneCells x hx
end
theorem cellsAt {w:World} {l:Loc} {c:Array Value} {e:TypeId} {fz:Nat × Nat} (h:w.heap[l.blk]? = some (.cells c e fz)) (i:Nat):w.cell? ⟨l.blk,i,none⟩ = c[i]?:=by simp [World.cell?,h]
theorem read_ok {φ:Phi} {h:H} {w:World} (R:Rel φ h w) {p:AS} {pv:Value} {n:Nat} {l:List AS} (hp:VR φ (Nf φ) w p pv) (hr:readC h p n = some l) :
  ∃ b o vs,pv = .pointer (some ⟨b,o,none⟩)∧VRL φ (Nf φ) w l vs∧vs.length = n∧∀ j v,vs[j]? = some v→w.cell? ⟨b,o + j,none⟩ = some v:=by
 cases hp with
 | ptr b v o L hφ =>
  simp only [readC,oqE,oqB] at hr
  obtain ⟨k,hk,e,he,hr⟩:=hr
  split at hr
  ·rename_i hle
   obtain ⟨L',hL',hext,hec,helim,_,c,ty,fz,hc,hsz,_,us,hus,hcell⟩:=R.blk b k v e hk he
   rw [hφ] at hL';cases hL'
   have hq:=hus
   have hsub:sub (k.cells.take L.ext) o n = some l:=by
    unfold sub at hr ⊢
    split at hr
    ·rename_i h1
     have:o + n ≤ (k.cells.take L.ext).length:=by simp;omega
     rw [if_pos this,← hr]
     congr 1
     rw [List.drop_take,List.take_take]
     congr 1;omega
    ·cases hr
   obtain ⟨h1,h2⟩:=VRL.of_sub hus hsub
   refine ⟨_,_,_,rfl,h1,by rw [← h1.length,h2],fun j x hj=>?_⟩
   rw [cellsAt hc,show L.base + o + j = L.base + (o + j) by omega]
   apply hcell
   simp only [List.getElem?_take,List.getElem?_drop] at hj
   split at hj
   ·exact hj
   ·cases hj
  ·cases hr
 | rp cells o blk base vs hO hb hv hc =>
  simp only [readC] at hr
  obtain ⟨h1,h2⟩:=VRL.of_sub hv hr
  refine ⟨_,_,_,rfl,h1,by rw [← h1.length,h2],fun j x hj=>?_⟩
  rw [show base + o + j = base + (o + j) by omega]
  apply hc
  simp only [List.getElem?_take,List.getElem?_drop] at hj
  split at hj
  ·exact hj
  ·cases hj
 | _=>simp [readC] at hr
theorem run_loadCells_at (P:Program) (w:World) (b o:Nat) (vs:List Value) (h:∀ j v,vs[j]? = some v→w.cell? ⟨b,o + j,none⟩ = some v) :
  (loadCells ⟨b,o,none⟩ vs.length).run P w = .ok vs.toArray w :=
 run_loadCells_list w ⟨b,o,none⟩ vs fun j v hj=>by rw [add_none];exact h j v hj
theorem heap_setRow (w:World) (g:Nat) (c':Array Value) (k:Nat):(w.setRow g c').heap[k]? = if k = g then (match w.heap[g]? with | some (.cells _ e fz)=>some (.cells c' e fz) | o=>o) else w.heap[k]?:=by
 by_cases hk:k = g
 ·subst hk
  rw [if_pos rfl]
  cases hw:w.heap[k]? with
  | none =>
   have:w.heap.size ≤ k:=by simpa using hw
   simp [World.setRow];omega
  | some o =>
   have hlt:k < w.heap.size:=(Array.getElem?_eq_some_iff.1 hw).1
   have hv:w.heap[k] = o:=(Array.getElem?_eq_some_iff.1 hw).2
   unfold World.setRow
   rw [Array.getElem?_eq_getElem (by simpa using hlt),Array.getElem_modify]
   cases o <;> simp [hv]
 ·rw [if_neg hk,setRow_other w g k c' hk]
theorem write_ok {P:Program} {φ:Phi} {h h':H} {w:World} (R:Rel φ h w) {p:AS} {pv:Value} {l:List AS} {vs:List Value} (hp:VR φ (Nf φ) w p pv) (hl:VRL φ (Nf φ) w l vs)
  (hw:writeC h p l = some h') :
  ∃ b o w',pv = .pointer (some ⟨b,o,none⟩)∧(storeCells ⟨b,o,none⟩ vs).run P w = .ok () w'∧Rel φ h' w'∧Grow φ h w φ h' w':=by
 cases hp with
 | ptr b v o L hφ =>
  simp only [writeC,oqE,oqB] at hw
  obtain ⟨k,hk,e,he,hw⟩:=hw
  split at hw
  ·rename_i hcond
   obtain ⟨hv,hle,hlen⟩:=hcond
   simp only [oqI] at hw
   subst hv
   obtain ⟨L',hL',hext,hec,helim,hnew,c,ty,fz,hc,hsz,hfz,us,hus,hcell⟩:=R.blk b k k.ver e hk he
   rw [hφ] at hL';cases hL'
   have hfz2:fz.1 = fz.2 ∨ L.base + L.lim ≤ fz.1:=hfz.imp id And.left
   have hvl:=hl.length
   have hrun:=run_storeCells_any P L.blk (L.base + o) ty fz vs 0 c w hc (fun j hj=>by omega) (by omega) hl.oneCells
   simp only [Nat.add_zero] at hrun
   let w':=w.setRow L.blk (over c.toList (L.base + o) vs).toArray
   have hblk:L.blk < w.heap.size:=(R.dom _ _ _ hφ).2
   have hown:Own φ h L.blk:=⟨b,k,k.ver,e,L,hk,he,hφ,rfl⟩
   have hlive:∀ b2 k2 v2 e2,h'.f b2 = some k2→k2.ext v2 = some e2→∃ k1,h.f b2 = some k1∧k1.ext v2 = some e2∧(b2 ≠ b∧k2 = k1 ∨ b2 = b∧v2 = k.ver∧e2 = e∧k1 = k∧k2.cells = lay k.cells o l∧k2.fixed = k.fixed∧k2.ver = k.ver):=by
    intro b2 k2 v2 e2 h2 e2h
    rw [← hw] at h2
    simp only [H.set] at h2
    split at h2
    ·rename_i hb;subst hb
     simp only [oqI] at h2;subst h2
     simp only [Blk.ext] at e2h
     split at e2h
     ·rename_i hle2
      have:k.ver - v2 = 0:=by
       rcases Nat.eq_zero_or_pos (k.ver - v2) with h0 | h0
       ·exact h0
       ·rw [List.getElem?_cons,if_neg (by omega)] at e2h;simp at e2h
      have hv2:v2 = k.ver:=by omega
      subst hv2
      simp at e2h
      subst e2h
      exact ⟨k,hk,he,.inr ⟨rfl,rfl,rfl,rfl,rfl,rfl,rfl⟩⟩
     ·cases e2h
    ·rename_i hb
     exact ⟨k2,h2,e2h,.inl ⟨hb,rfl⟩⟩
   have hownsub:∀ q,Own φ h' q→Own φ h q:=by
    rintro q ⟨b2,k2,v2,e2,l2,h1,h2,h3,h4⟩
    obtain ⟨k1,hk1,he1,_⟩:=hlive b2 k2 v2 e2 h1 h2
    exact ⟨b2,k1,v2,e2,l2,hk1,he1,h3,h4⟩
   have hkeep:∀ q,q < w.heap.size→¬ Own φ h q→w'.heap[q]? = w.heap[q]?:=by
    intro q hq hn
    show (w.setRow _ _).heap[q]? = _
    rw [heap_setRow,if_neg (fun hq2:q = L.blk=>hn (hq2 ▸ hown))]
   have hsize:w'.heap.size = w.heap.size:=setRow_size _ _ _
   have G:Grow φ h w φ h' w':=⟨⟨fun _ _ _ h=>h,by rw [← hw];exact Nat.le_refl _,by omega,hkeep,fun q _ ho=>hownsub q ho,rfl,rfl,rfl,fun q hq hF=>hkeep q hq (R.frz q hF).2,fun _ h=>h,fun _ _ h=>h,rfl⟩,fun _ _ _ h=>.inl h,fun q hq=>by
    rw [← hw] at hq
    simp only [H.set] at hq
    split at hq
    ·rename_i hqb;subst hqb;left;simp [hk]
    ·exact .inl hq⟩
   refine ⟨_,_,w',rfl,hrun, ?_,G⟩
   have hmono:∀ {l vs},VRL φ (Nf φ) w l vs→VRL φ (Nf φ) w' l vs:=fun h=>G.vrl h
   refine ⟨?_, ?_, ?_, ?_, ?_, ?_⟩
   ·intro b2 k2 h2
    rw [← hw] at h2 ⊢
    simp only [H.set] at h2 ⊢
    split at h2
    ·rename_i hb;subst hb;exact R.lt _ _ hk
    ·exact R.lt _ _ h2
   ·intro b2 k2 v2 e2 h2 e2h
    obtain ⟨k1,hk1,he1,hcase⟩:=hlive b2 k2 v2 e2 h2 e2h
    obtain ⟨l2,hl2,hx2,hc2,hm2,hn2,hh2⟩:=R.blk b2 k1 v2 e2 hk1 he1
    rcases hcase with ⟨hne,rfl⟩ | ⟨rfl,rfl,rfl,rfl,hcells,hfix,hver⟩
    ·refine ⟨l2,hl2,hx2,hc2,hm2,hn2, ?_⟩
     obtain ⟨c2,t2,z2,a1,a2,a3,vs2,a4,a5⟩:=hh2
     have hdiff:l2.blk ≠ L.blk:=fun hqq=>hne (R.sep b2 k2 v2 e2 l2 b k k.ver e L hk1 he1 hl2 hk he hφ hqq).1
     refine ⟨c2,t2,z2, ?_,a2,a3,vs2,hmono a4,a5⟩
     show (w.setRow _ _).heap[_]? = _
     rw [heap_setRow,if_neg hdiff,a1]
    ·rw [hφ] at hl2;cases hl2
     refine ⟨L,hφ,hx2, ?_,hm2,fun hv=>⟨?_, ?_⟩, ?_⟩
     ·rw [hcells];simp [lay];omega
     ·rw [hcells];simp [lay];omega
     ·rw [hfix];exact (hnew rfl).2
     ·refine ⟨(over c.toList (L.base + o) vs).toArray,ty,fz, ?_, ?_,hfix ▸ hfz,over us o vs, ?_, ?_⟩
      ·show (w.setRow _ _).heap[_]? = _
       rw [heap_setRow,if_pos rfl,hc]
      ·simp only [List.size_toArray];rw [over_length _ _ _ (by simp;omega)];simpa using hsz
      ·have hul:=hus.length
       have e1:k2.cells.take L.ext = (lay k1.cells o l):=by
        rw [hcells]
        apply List.take_of_length_le
        simp [lay];omega
       rw [e1]
       have e2:k1.cells.take L.ext = k1.cells:=List.take_of_length_le (by omega)
       rw [e2] at hus
       have hus':=hmono hus
       have hl':=hmono hl
       simp only [lay,over,List.append_assoc]
       rw [hvl]
       exact (hus'.take o).append (hl'.append (hus'.drop _))
      ·intro i x hi
       have e2:k1.cells.take L.ext = k1.cells:=List.take_of_length_le (by omega)
       rw [e2] at hus
       have hul:=hus.length
       rw [over_get _ _ _ (by omega)] at hi
       rw [List.getElem?_toArray,over_get _ _ _ (by simp;omega)]
       by_cases h1:i < o
       ·rw [if_pos h1] at hi
        rw [if_pos (by omega),Array.getElem?_toList]
        exact hcell i x hi
       ·rw [if_neg h1] at hi
        rw [if_neg (by omega)]
        by_cases h2:i < o + vs.length
        ·rw [if_pos h2] at hi
         rw [if_pos (by omega),← hi]
         congr 1;omega
        ·rw [if_neg h2] at hi
         rw [if_neg (by omega),Array.getElem?_toList]
         exact hcell i x hi
   ·intro b2 k2 v2 e2 l2 b3 k3 v3 e3 l3 h1 h2 h3 h4 h5 h6 h7
    obtain ⟨k1,hk1,he1,_⟩:=hlive b2 k2 v2 e2 h1 h2
    obtain ⟨k1',hk1',he1',_⟩:=hlive b3 k3 v3 e3 h4 h5
    exact R.sep b2 k1 v2 e2 l2 b3 k1' v3 e3 l3 hk1 he1 h3 hk1' he1' h6 h7
   ·intro b2 v2 l2 h2
    have:=R.dom b2 v2 l2 h2
    rw [← hw]
    exact ⟨this.1,by omega⟩
   ·intro b2 k2 v2 l2 h2 h3
    rw [← hw] at h2
    simp only [H.set] at h2
    split at h2
    ·rename_i hb;subst hb;simp only [oqI] at h2;subst h2
     exact (R.ver _ k _ _ hk h3:_ ≤ k.ver)
    ·exact R.ver _ _ _ _ h2 h3
   ·exact fun q hF=>⟨by have:=(R.frz q hF).1;omega,fun ho=>(R.frz q hF).2 (hownsub q ho)⟩
  ·cases hw
 | _=>simp [writeC] at hw
theorem alter_ok {φ φ':Phi} {h h':H} {w w':World} (R:Rel φ h w) (b0 v0:Nat) (L':Loc) (k0:Blk) (hk0:h'.f b0 = some k0)
  (hb0:h.f b0 ≠ none ∨ h.next ≤ b0) (hkb:∀ b,h'.f b ≠ none→h.f b ≠ none ∨ h.next ≤ b) (hnext:h.next ≤ h'.next) (hlt:∀ b k,h'.f b = some k→b < h'.next)
  (hF:φ'.F = φ.F∧φ'.q = φ.q) (hφ:∀ b v,φ' b v = if b = b0∧v = v0 then some L' else φ b v) (hφ0:φ b0 v0 = none) (hL':L'.blk < w'.heap.size)
  (hver:∀ b k v l,h'.f b = some k→φ' b v = some l→v ≤ k.ver)
  (hlive:∀ b k v e,h'.f b = some k→k.ext v = some e→(b = b0∧v = v0∧L'.ext = e∧e = k.cells.length∧e ≤ L'.lim∧(k.fixed = true→L'.lim = e)) ∨
   (¬ (b = b0∧v = v0)∧∃ k1,h.f b = some k1∧k1.ext v = some e∧e ≤ k.cells.length∧k.cells.take e = k1.cells.take e∧(k.fixed = true→k1.fixed = true)∧(v = k.ver→v = k1.ver∧k.cells = k1.cells∧(k.fixed = true→k1.fixed = true)) ∧
    ∀ l,φ b v = some l→(l.blk = L'.blk→b = b0∧l.base = L'.base) ∧
     ∀ c ty fz,w.heap[l.blk]? = some (.cells c ty fz)→∃ c',w'.heap[l.blk]? = some (.cells c' ty fz)∧c'.size = c.size∧∀ i,i < e→c'[l.base + i]? = c[l.base + i]?))
  (hsize:w.heap.size ≤ w'.heap.size) (hkeep:∀ k,k < w.heap.size→¬ Own φ h k→w'.heap[k]? = w.heap[k]?) (hos:w'.os = w.os) (htape:w'.tape = w.tape) (hout:w'.output = w.output)
  (hown:L'.blk < w.heap.size→Own φ h L'.blk)
  (hH:∃ c ty fz us,w'.heap[L'.blk]? = some (.cells c ty fz)∧L'.base + L'.lim ≤ c.size∧(fz.1 = fz.2 ∨ (L'.base + L'.lim ≤ fz.1∧k0.fixed = false))∧VRL φ (Nf φ) w (k0.cells.take L'.ext) us∧∀ i v,us[i]? = some v→c[L'.base + i]? = some v) :
  Rel φ' h' w'∧Grow φ h w φ' h' w':=by
 obtain ⟨hF,hFq⟩:=hF
 have hsub:∀ b v l,φ b v = some l→φ' b v = some l:=by
  intro b v l hb
  rw [hφ]
  split
  ·rename_i hc;obtain ⟨rfl,rfl⟩:=hc;rw [hφ0] at hb;cases hb
  ·exact hb
 have hback:∀ b v l,φ' b v = some l→¬ (b = b0∧v = v0)→φ b v = some l:=by
  intro b v l hb hn
  rw [hφ,if_neg hn] at hb;exact hb
 have hnew:∀ l,φ' b0 v0 = some l→l = L':=by
  intro l hb;rw [hφ,if_pos ⟨rfl,rfl⟩] at hb;exact (Option.some.inj hb).symm
 have hownsub:∀ q,q < w.heap.size→Own φ' h' q→Own φ h q:=by
  rintro q hq ⟨b,k,v,e,l,h1,h2,h3,h4⟩
  rcases hlive b k v e h1 h2 with ⟨rfl,rfl,_⟩ | ⟨hn,k1,hk1,he1,_⟩
  ·have:=hnew l h3;subst this;rw [← h4];exact hown (h4 ▸ hq)
  ·exact ⟨b,k1,v,e,l,hk1,he1,hback _ _ _ h3 hn,h4⟩
 have G:Grow φ h w φ' h' w':=⟨⟨hsub,hnext,hsize,hkeep,hownsub,hos,htape,hout,fun q hq hf=>hkeep q hq (R.frz q hf).2,fun q hq=>by rw [hF];exact hq,fun q _ hq=>by rw [hF] at hq;exact hq,hFq⟩,fun b v l hb=>by
  rw [hφ] at hb
  split at hb
  ·rename_i hc;obtain ⟨rfl,rfl⟩:=hc;exact .inr hb0.symm
  ·exact .inl hb,hkb⟩
 refine ⟨⟨hlt, ?_, ?_, ?_,hver,fun q hq=>by rw [hF] at hq;exact ⟨Nat.lt_of_lt_of_le (R.frz q hq).1 hsize,fun ho=>(R.frz q hq).2 (hownsub q (R.frz q hq).1 ho)⟩⟩,G⟩
 ·intro b k v e hb he
  rcases hlive b k v e hb he with ⟨rfl,rfl,hx,hcl,hlim,hfix⟩ | ⟨hn,k1,hk1,he1,hle,htk,hfxx,hnw,hall⟩
  ·rw [hk0] at hb;cases hb
   obtain ⟨c,ty,fz,us,a1,a2,a3,a4,a5⟩:=hH
   exact ⟨L',by rw [hφ,if_pos ⟨rfl,rfl⟩],hx,by omega,hlim,fun _=>⟨hcl,hfix⟩,c,ty,fz,a1,a2,a3,us,G.vrl a4,a5⟩
  ·obtain ⟨l,hl,hx,hc1,hm,hn1,c,ty,fz,a1,a2,a3,us,a4,a5⟩:=R.blk b k1 v e hk1 he1
   obtain ⟨hsepl,hpres⟩:=hall l hl
   obtain ⟨c',b1,b2,b3⟩:=hpres c ty fz a1
   refine ⟨l,hsub _ _ _ hl,hx,hle,hm,fun hv=>?_,c',ty,fz,b1,by omega,a3.imp id fun q=>⟨q.1,by cases hkf:k.fixed with
    | false=>rfl
    | true=>rw [hfxx hkf] at q;exact absurd q.2 (by simp)⟩,us, ?_, ?_⟩
   ·obtain ⟨q1,q2,q3⟩:=hnw hv
    rw [q2]
    exact ⟨(hn1 q1).1,fun hf=>(hn1 q1).2 (q3 hf)⟩
   ·rw [hx,htk,← hx];exact G.vrl a4
   ·intro i x hi
    have hlen:us.length ≤ e:=by have:=a4.length;simp at this;omega
    have hi':i < us.length:=(List.getElem?_eq_some_iff.1 hi).1
    rw [b3 i (by omega)];exact a5 i x hi
 ·intro b k v e l b2 k2 v2 e2 l2 h1 h2 h3 h4 h5 h6 h7
  rcases hlive b k v e h1 h2 with ⟨rfl,rfl,_⟩ | ⟨hn,k1,hk1,he1,_,_,_,_,hall⟩ <;>
  rcases hlive b2 k2 v2 e2 h4 h5 with ⟨rfl,rfl,_⟩ | ⟨hn2,k3,hk3,he3,_,_,_,_,hall2⟩
  ·have q1:=hnew l h3;have q2:=hnew l2 h6;subst q1;subst q2;exact ⟨rfl,rfl⟩
  ·have q1:=hnew l h3;subst q1
   have:=(hall2 l2 (hback _ _ _ h6 hn2)).1 h7.symm
   exact ⟨this.1.symm,this.2.symm⟩
  ·have q1:=hnew l2 h6;subst q1
   exact (hall l (hback _ _ _ h3 hn)).1 h7
  ·exact R.sep b k1 v e l b2 k3 v2 e2 l2 hk1 he1 (hback _ _ _ h3 hn) hk3 he3 (hback _ _ _ h6 hn2) h7
 ·intro b v l hb
  by_cases hc:b = b0∧v = v0
  ·obtain ⟨rfl,rfl⟩:=hc
   have:=hnew l hb;subst this
   exact ⟨hlt _ _ hk0,hL'⟩
  ·have:=R.dom b v l (hback _ _ _ hb hc)
   exact ⟨by omega,by omega⟩
theorem new_ok {φ:Phi} {h:H} {w:World} (R:Rel φ h w) {l:List AS} {vs:List Value} (hl:VRL φ (Nf φ) w l vs) (fixed:Bool) (c:Array Value) (ty:TypeId) (fz:Nat × Nat) (extra:List Value)
  (hc:c.toList = vs++extra) (hfix:fixed = true→extra = []) (hfz:fz.1 = fz.2 ∨ (c.size ≤ fz.1∧fixed = false)) (w':World) (hw:w'.heap = w.heap.push (.cells c ty fz)) (hos:w'.os = w.os) (htape:w'.tape = w.tape) (hout:w'.output = w.output) :
  ∃ φ',Rel φ' (h.new (blkOf l fixed)) w'∧Grow φ h w φ' (h.new (blkOf l fixed)) w'∧φ' h.next 0 = some ⟨w.heap.size,0,l.length,c.size⟩:=by
 have hsz:c.size = vs.length + extra.length:=by rw [← Array.length_toList,hc,List.length_append]
 have hll:=hl.length
 have hφ0:∀ v,φ h.next v = none:=by
  intro v
  cases hq:φ h.next v with
  | none=>rfl
  | some l=>have:=(R.dom _ _ _ hq).1;omega
 have hold:∀ k,k < w.heap.size→w'.heap[k]? = w.heap[k]?:=by
  intro k hk
  rw [hw,Array.getElem?_push,if_neg (by omega)]
 refine ⟨⟨fun b v=>if b = h.next∧v = 0 then some ⟨w.heap.size,0,l.length,c.size⟩ else φ b v,φ.F,φ.q⟩, ?_⟩
 have:=alter_ok (φ':=⟨fun b v=>if b = h.next∧v = 0 then some ⟨w.heap.size,0,l.length,c.size⟩ else φ b v,φ.F,φ.q⟩) (h':=h.new (blkOf l fixed)) (w':=w') R h.next 0 ⟨w.heap.size,0,l.length,c.size⟩ (blkOf l fixed) (by simp [H.new])
  (.inr (Nat.le_refl _)) (by
   intro b hb
   simp only [H.new] at hb
   split at hb
   ·exact .inr (by omega)
   ·exact .inl hb) (by simp [H.new]) (by
   intro b k hb
   simp only [H.new] at hb ⊢
   split at hb
   ·omega
   ·have:=R.lt _ _ hb;omega) ⟨rfl,rfl⟩ (fun b v=>rfl) (hφ0 0) (by rw [hw];simp) (by
   intro b k v L hb hL
   dsimp only at hL
   simp only [H.new] at hb
   split at hb
   ·rename_i hbn;subst hbn
    simp only [oqI] at hb;subst hb
    by_cases hv:v = 0
    ·subst hv;simp [blkOf]
    ·rw [if_neg (by simp [hv]),hφ0] at hL;cases hL
   ·rename_i hbn
    rw [if_neg (by simp [hbn])] at hL
    exact R.ver _ _ _ _ hb hL) (by
   intro b k v e hb he
   simp only [H.new] at hb
   split at hb
   ·rename_i hbn;subst hbn
    simp only [oqI] at hb;subst hb
    left
    by_cases hv:v ≤ 0
    ·have hv0:v = 0:=by omega
     subst hv0
     simp [Blk.ext,blkOf] at he
     subst he
     refine ⟨rfl,rfl,rfl,rfl,by simp;omega, ?_⟩
     intro hf
     have:extra = []:=hfix (by simpa [blkOf] using hf)
     subst this;simp at hsz;simp;omega
    ·simp [Blk.ext,blkOf,hv] at he
   ·rename_i hbn
    right
    refine ⟨by simp [hbn],k,hb,he, ?_,rfl,id,fun hv=>⟨hv,rfl,id⟩, ?_⟩
    ·obtain ⟨_,_,_,q,_⟩:=R.blk b k v e hb he;exact q
    ·intro L hL
     have hd:=(R.dom _ _ _ hL).2
     refine ⟨fun e=>by simp only at e;omega,fun c2 t2 z2 h2=>⟨c2,by rw [hold _ hd];exact h2,rfl,fun _ _=>rfl⟩⟩)
  (by rw [hw];simp) (fun k hk _=>hold k hk) hos htape hout (fun hlt=>by simp only at hlt;omega)
  ⟨c,ty,fz,vs,by rw [hw];simp,by simp,by simpa [blkOf] using hfz,by simpa [blkOf] using hl,fun i v hv=>by
   have:c.toList[i]? = some v:=by rw [hc,List.getElem?_append_left (List.getElem?_eq_some_iff.1 hv).1];exact hv
   simpa using this⟩
 exact ⟨this.1,this.2,by simp⟩
theorem rel_same {φ:Phi} {h:H} {w w':World} (R:Rel φ h w) (hw:w'.heap = w.heap) (hos:w'.os = w.os) (htape:w'.tape = w.tape) (hout:w'.output = w.output):Rel φ h w'∧Grow φ h w φ h w':=by
 have G:Grow φ h w φ h w':=⟨⟨fun _ _ _ h=>h,Nat.le_refl _,by rw [hw];exact Nat.le_refl _,fun _ _ _=>by rw [hw],fun _ _ h=>h,hos,htape,hout,fun _ _ _=>by rw [hw],fun _ h=>h,fun _ _ h=>h,rfl⟩,fun _ _ _ h=>.inl h,fun _ h=>.inl h⟩
 refine ⟨⟨R.lt, ?_,R.sep, ?_,R.ver,fun q hq=>by rw [hw];exact R.frz q hq⟩,G⟩
 ·intro b k v e hb he
  obtain ⟨l,a1,a2,a3,a4,a5,c,ty,fz,a6,a7,a8,us,a9,a10⟩:=R.blk b k v e hb he
  exact ⟨l,a1,a2,a3,a4,a5,c,ty,fz,by rw [hw];exact a6,a7,a8,us,G.vrl a9,a10⟩
 ·intro b v l hb;rw [hw];exact R.dom b v l hb
end Go.Ab
namespace Go.Ab
inductive Src (P:Program) (w:World) (u:TypeId) (info:TypeInfo) (n:Nat) (us:List Value):Value→Prop
 | cells (x:Value) (d:TypeDesc):P.underlying u = some d→((∃ e,d = .slice e) ∨ d = .string)→(∀ w2:World,(Builtin.lenOf x).run P w2 = .ok n w2) →
   (∀ w2:World,w2.heap = w.heap→(Builtin.firstCells info.size n x).run P w2 = .ok us.toArray w2)→Src P w u info n us x
 | zeros (k kd:IntKind) (nn:Int) (z:Value):0 < n→P.underlying u = some (.int kd)→IntKind.i64.wrap nn = (n:Int)→(n:Int) * info.bytes ≤ 2 ^ 48→info.zero = some z→0 < info.size →
   us.toArray = Builtin.zeroCells z.cells n→Src P w u info n us (.int k nn)
theorem run_append_fit (P:Program) (t u ty:TypeId) (w w':World) (base:Option Addr) (k cap n el:Nat) (info:TypeInfo) (x:Value) (us:List Value)
  (ht:P.underlying t = some (.slice el)) (hi:P.info? el = some info) (hx:Src P w u info n us x) (hfit:k + n ≤ cap)
  (hst:match base with | some a=>(storeCells (a.add (k * info.size)) us).run P w = .ok () w' | none=>w' = w) :
  (Builtin.append_ #[t,u] ty #[.slice base k cap,x]).run P w = .ok (.slice base (k + n) cap) w':=by
 cases hx with
 | cells x d hu hd hl hf =>
  have hf':=hf w rfl
  rcases hd with ⟨e,rfl⟩ | rfl <;> cases base with
  | none=>simp at hst;subst hst;simp [Builtin.append_,run_underlying ht,run_underlying hu,sizeOf,typeInfo,hi,hl,hfit,hf']
  | some a=>simp at hst;simp [Builtin.append_,run_underlying ht,run_underlying hu,sizeOf,typeInfo,hi,hl,hfit,hf',hst]
 | zeros kx kd nn z hn0 hu hw hb hz hs hz2 =>
  have hneg:¬ ((n:Int) < 0):=by omega
  have hbig:¬ ((281474976710656:Int) < (n:Int) * info.bytes):=by omega
  have hn:n ≠ 0:=by omega
  have hne:¬ (n * info.size = 0):=by have:=Nat.mul_pos hn0 hs;omega
  have hz3:us = (Builtin.zeroCells z.cells n).toList:=by rw [← hz2]
  cases base with
  | none =>
   simp at hst;subst hst
   simp [Builtin.append_,run_underlying ht,run_underlying hu,sizeOf,typeInfo,hi,asInt,asIntOf,hw,hneg,hbig,hfit,hs,zeroValue,hz,hn,hne]
  | some a =>
   simp at hst
   subst hz3
   simp [Builtin.append_,run_underlying ht,run_underlying hu,sizeOf,typeInfo,hi,asInt,asIntOf,hw,hneg,hbig,hfit,hs,zeroValue,hz,hn,hne,hst]
theorem nextcap_fits {need old bytes:Nat} (h:old < need) (hb:(need + 600) * bytes ≤ 17592186044416):Builtin.nextslicecap need old * bytes ≤ 281474976710656:=by
 have h1:Builtin.nextslicecap need old ≤ 2 * need:=Go.nextslicecap_le h
 calc Builtin.nextslicecap need old * bytes ≤ (2 * need) * bytes:=Nat.mul_le_mul_right _ h1
  _ = 2 * (need * bytes):=by rw [Nat.mul_assoc]
  _ ≤ 281474976710656:=by
   have:need * bytes ≤ (need + 600) * bytes:=Nat.mul_le_mul_right _ (by omega)
   omega
theorem run_append_new (P:Program) (t u ty:TypeId) (w:World) (s:Value) (base:Option Addr) (k cap n el:Nat) (info:TypeInfo) (z:Value) (x:Value) (us olds:List Value)
  (ht:P.underlying t = some (.slice el)) (hi:P.info? el = some info) (hz:info.zero = some z) (hx:Src P w u info n us x) (hs0:s = .slice base k cap)
  (ho:∀ w2:World,w2.heap = w.heap→(Builtin.firstCells info.size k s).run P w2 = .ok olds.toArray w2) (hfit:cap < k + n) (hb:(k + n + 600) * info.bytes ≤ 17592186044416) (hb0:k + n ≤ 17592186044416) :
  ∃ c:Nat,k + n ≤ c∧(Builtin.append_ #[t,u] ty #[s,x]).run P w =
   .ok (.slice (some ⟨w.heap.size,0,none⟩) (k + n) c) (w.drew.alloc (.cells (olds++(us++(Builtin.zeroCells z.cells (c - (k + n))).toList)).toArray el)):=by
 subst hs0
 refine ⟨grownCap w (k + n) cap el,grownCap_ge w (k + n) cap el, ?_⟩
 have hn:¬ (k + n ≤ cap):=by omega
 have h63':¬ (9223372036854775807 < ((k:Int) + (n:Int))):=by omega
 have h48':¬ (281474976710656 < Builtin.nextslicecap (k + n) cap * info.bytes):=by have:=nextcap_fits (bytes:=info.bytes) hfit hb;omega
 have ho':=ho w.drew rfl
 cases hx with
 | cells x d hu hd hl hf =>
  have hf':=hf w.drew rfl
  rcases hd with ⟨e,rfl⟩ | rfl
  all_goals
   simp [Builtin.append_,run_underlying ht,run_underlying hu,sizeOf,typeInfo,zeroValue,hi,hz,hl,hn,h63',h48',Question.forced,hf',ho',newRow,grownCap]
   congr 2
   apply Array.ext'
   simp [List.append_assoc]
 | zeros kx kd nn z' hn0 hu hw hbb hz' hs hz2 =>
  rw [hz] at hz';cases hz'
  have hneg:¬ ((n:Int) < 0):=by omega
  have hbig:¬ ((281474976710656:Int) < (n:Int) * info.bytes):=by omega
  have hn1:n ≠ 0:=by omega
  have hne:¬ (n * info.size = 0):=by have:=Nat.mul_pos hn0 hs;omega
  have hz3:us = (Builtin.zeroCells z.cells n).toList:=by rw [← hz2]
  subst hz3
  simp [Builtin.append_,run_underlying ht,run_underlying hu,sizeOf,typeInfo,zeroValue,hi,hz,asInt,asIntOf,hw,hneg,hbig,hs,hn,hn1,hne,h63',h48',Question.forced,ho',newRow,grownCap]
  congr 2
  apply Array.ext'
  simp [List.append_assoc]
end Go.Ab
namespace Go.Ab
theorem firstCells_slice (P:Program) (w2:World) (b o k cap size:Nat) (spot:Option Nat) (vs:List Value) (hl:vs.length = k * size) (hs:0 < k * size→spot = none)
  (h:∀ j v,vs[j]? = some v→w2.cell? ⟨b,o + j,none⟩ = some v):(Builtin.firstCells size k (.slice (some ⟨b,o,spot⟩) k cap)).run P w2 = .ok vs.toArray w2:=by
 by_cases h0:k * size = 0
 ·have:vs = []:=List.eq_nil_of_length_eq_zero (by omega)
  subst this
  simp [Builtin.firstCells,loadCells,loadCellsFrom,h0]
 ·have hs0:=hs (by omega)
  subst hs0
  have:=run_loadCells_at P w2 b o vs h
  rw [hl] at this
  simpa [Builtin.firstCells] using this
theorem readC_ptr {h:H} {b v o n:Nat} {l:List AS} (hr:readC h (.ptr b v o) n = some l):∃ k e,h.f b = some k∧k.ext v = some e∧o + n ≤ e∧sub k.cells o n = some l:=by
 simp only [readC,oqE,oqB] at hr
 obtain ⟨k,hk,e,he,hr⟩:=hr
 split at hr
 ·rename_i hle;exact ⟨k,e,hk,he,hle,hr⟩
 ·cases hr
theorem grown_new {φ:Phi} {h:H} {w:World} (R:Rel φ h w) {l:List AS} {vs:List Value} (hl:VRL φ (Nf φ) w l vs) (el size m c:Nat) (zs:List Value) (hlen:l.length = m * size) (hs:0 < size) (hmc:m ≤ c) (hz:zs.length = (c - m) * size) :
  ∃ φ',Rel φ' (h.new (blkOf l false)) (w.drew.alloc (.cells (vs++zs).toArray el))∧Grow φ h w φ' (h.new (blkOf l false)) (w.drew.alloc (.cells (vs++zs).toArray el)) ∧
   VR φ' (Nf φ') (w.drew.alloc (.cells (vs++zs).toArray el)) (.slc h.next 0 0 m size none) (.slice (some ⟨w.heap.size,0,none⟩) m c):=by
 have hvl:=hl.length
 obtain ⟨φ',h1,h2,h3⟩:=new_ok R hl false (vs++zs).toArray el (0,0) zs (by simp) (by simp) (.inl rfl) (w.drew.alloc (.cells (vs++zs).toArray el)) rfl rfl rfl rfl
 refine ⟨φ',h1,h2,.slc _ _ _ _ _ _ _ _ _ h3 hs (fun _=>by simp) hmc ?_ ?_⟩
 ·simp only [List.size_toArray,List.length_append,← hvl,hlen,hz,← Nat.add_mul]
  rw [show m + (c - m) = c by omega];omega
 ·simp [hlen]
theorem bump_ok {φ:Phi} {h:H} {w w':World} (R:Rel φ h w) {b:Nat} {B:Blk} {E:Nat} {L L':Loc} (hB:h.f b = some B) (hE:B.ext B.ver = some E) (hEl:E = B.cells.length) (hφ:φ b B.ver = some L) (keep:Bool) (en:Nat)
  (hen:en ≤ E) (hkeep:keep = true→en = E) {new:List AS} {us us0:List Value} (hL:L'.ext = en + new.length) (hlim:L'.ext ≤ L'.lim)
  (hpres:∀ q,q < w.heap.size→q ≠ L.blk→w'.heap[q]? = w.heap[q]?)
  (hpl:keep = true→∀ c ty fz,w.heap[L.blk]? = some (.cells c ty fz)→∃ c',w'.heap[L.blk]? = some (.cells c' ty fz)∧c'.size = c.size∧∀ i,i < L.base + E→c'[i]? = c[i]?)
  (hb:(L'.blk = L.blk∧L'.base = L.base) ∨ w.heap.size ≤ L'.blk) (hb':L'.blk < w'.heap.size) (hsize:w.heap.size ≤ w'.heap.size) (hos:w'.os = w.os) (htape:w'.tape = w.tape) (hout:w'.output = w.output)
  (hH:∃ c ty fz us,w'.heap[L'.blk]? = some (.cells c ty fz)∧L'.base + L'.lim ≤ c.size∧(fz.1 = fz.2 ∨ L'.base + L'.lim ≤ fz.1)∧VRL φ (Nf φ) w (B.cells.take en++new) us∧∀ i v,us[i]? = some v→c[L'.base + i]? = some v) :
  ∃ φ',Rel φ' (h.set b ⟨B.ver + 1,if keep then (en + new.length)::B.exts else [en + new.length],false,B.cells.take en++new⟩) w'∧Grow φ h w φ' (h.set b ⟨B.ver + 1,if keep then (en + new.length)::B.exts else [en + new.length],false,B.cells.take en++new⟩) w'∧φ' b (B.ver + 1) = some L':=by
 have hown:Own φ h L.blk:=⟨b,B,B.ver,E,L,hB,hE,hφ,rfl⟩
 have hφ0:φ b (B.ver + 1) = none:=by
  cases hq:φ b (B.ver + 1) with
  | none=>rfl
  | some l=>have:=R.ver _ _ _ _ hB hq;omega
 have hcl:(B.cells.take en++new).length = en + new.length:=by simp;omega
 refine ⟨⟨fun b2 v2=>if b2 = b∧v2 = B.ver + 1 then some L' else φ b2 v2,φ.F,φ.q⟩, ?_⟩
 have:=alter_ok (φ':=⟨fun b2 v2=>if b2 = b∧v2 = B.ver + 1 then some L' else φ b2 v2,φ.F,φ.q⟩) (h':=h.set b ⟨B.ver + 1,if keep then (en + new.length)::B.exts else [en + new.length],false,B.cells.take en++new⟩) (w':=w') R b (B.ver + 1) L'
  ⟨B.ver + 1,if keep then (en + new.length)::B.exts else [en + new.length],false,B.cells.take en++new⟩ (by simp [H.set]) (.inl (by simp [hB])) (fun q hq=>by
   simp only [H.set] at hq
   split at hq
   ·rename_i hqb;subst hqb;left;simp [hB]
   ·exact .inl hq) (Nat.le_refl _) (by
   intro b2 k2 h2
   simp only [H.set] at h2 ⊢
   split at h2
   ·rename_i hb2;subst hb2;exact R.lt _ _ hB
   ·exact R.lt _ _ h2) ⟨rfl,rfl⟩ (fun _ _=>rfl) hφ0 hb' (by
   intro b2 k2 v2 l2 h2 h3
   dsimp only at h3
   simp only [H.set] at h2
   split at h2
   ·rename_i hb2;subst hb2
    simp only [oqI] at h2;subst h2
    by_cases hv:v2 = B.ver + 1
    ·simp [hv]
    ·rw [if_neg (by simp [hv])] at h3
     have:=R.ver _ _ _ _ hB h3;simp only;omega
   ·rename_i hb2
    rw [if_neg (by simp [hb2])] at h3
    exact R.ver _ _ _ _ h2 h3) (by
   intro b2 k2 v2 e2 h2 he2
   simp only [H.set] at h2
   split at h2
   ·rename_i hb2;subst hb2
    simp only [oqI] at h2;subst h2
    by_cases hv:v2 = B.ver + 1
    ·left
     subst hv
     have:e2 = en + new.length:=by
      simp only [Blk.ext,Nat.le_refl,if_true,Nat.sub_self] at he2
      cases keep <;> simp at he2 <;> exact he2.symm
     subst this
     exact ⟨rfl,rfl,hL,hcl.symm,hL ▸ hlim,by simp⟩
    ·right
     refine ⟨by simp [hv], ?_⟩
     simp only [Blk.ext] at he2
     split at he2
     ·rename_i hle
      have hpos:B.ver + 1 - v2 = (B.ver - v2) + 1:=by omega
      rw [hpos] at he2
      cases keep with
      | false=>simp at he2
      | true =>
       have hee:=hkeep rfl
       simp at he2
       have hext:B.ext v2 = some e2:=by simp [Blk.ext,he2];omega
       obtain ⟨l2,hl2,hx2,hc2,hm2,hn2,_⟩:=R.blk b2 B v2 e2 hB hext
       have htake:List.take e2 (B.cells.take en++new) = List.take e2 B.cells:=by
        rw [hee,hEl,List.take_length,List.take_append_of_le_length hc2]
       refine ⟨B,hB,hext,by rw [hcl];omega,htake,(fun hvv=>by cases hvv),fun hvv=>by simp only at hvv;omega, ?_⟩
       intro l hl
       rw [hl2] at hl;cases hl
       have hd:=(R.dom _ _ _ hl2).2
       refine ⟨fun hq=>?_,fun c ty fz hc=>?_⟩
       ·rcases hb with ⟨hb1,hb2⟩ | hb1
        ·exact ⟨rfl,by rw [hb2];exact (R.sep b2 B v2 e2 l2 b2 B B.ver E L hB hext hl2 hB hE hφ (hq.trans hb1)).2⟩
        ·omega
       ·by_cases hq:l2.blk = L.blk
        ·have hbase:=(R.sep b2 B v2 e2 l2 b2 B B.ver E L hB hext hl2 hB hE hφ hq).2
         obtain ⟨c',g1,g2,g3⟩:=hpl rfl c ty fz (hq ▸ hc)
         exact ⟨c',hq ▸ g1,g2,fun i hi=>g3 _ (by omega)⟩
        ·exact ⟨c,by rw [hpres _ hd hq];exact hc,rfl,fun _ _=>rfl⟩
     ·cases he2
   ·rename_i hb2
    right
    refine ⟨by simp [hb2],k2,h2,he2, ?_,rfl,id,fun hv=>⟨hv,rfl,id⟩, ?_⟩
    ·obtain ⟨_,_,_,q,_⟩:=R.blk b2 k2 v2 e2 h2 he2;exact q
    ·intro l hl
     have hd:=(R.dom _ _ _ hl).2
     have hne:l.blk ≠ L.blk:=fun hq=>hb2 (R.sep b2 k2 v2 e2 l b B B.ver E L h2 he2 hl hB hE hφ hq).1
     refine ⟨fun hq=>?_,fun c ty fz hc=>⟨c,by rw [hpres _ hd hne];exact hc,rfl,fun _ _=>rfl⟩⟩
     rcases hb with ⟨hb1,_⟩ | hb1
     ·exact absurd (hq.trans hb1) hne
     ·omega)
  hsize (fun q hq ho=>hpres q hq (fun hqq=>ho (hqq ▸ hown))) hos htape hout (fun hlt=>by
   rcases hb with ⟨hb1,_⟩ | hb1
   ·rw [hb1];exact hown
   ·omega) (by
   obtain ⟨c,ty,fz,us,a1,a2,a3,a4,a5⟩:=hH
   refine ⟨c,ty,fz,us,a1,a2,a3.imp id fun q=>⟨q,rfl⟩, ?_,a5⟩
   simp only
   rw [List.take_of_length_le (by rw [hcl,hL];omega)]
   exact a4)
 exact ⟨this.1,this.2,by simp⟩
theorem swap_ok {φ:Phi} {h:H} {w w':World} (R:Rel φ h w) {b:Nat} {B:Blk} {E:Nat} {L L':Loc} (hB:h.f b = some B) (hE:B.ext B.ver = some E) (hφ:φ b B.ver = some L) {l:List AS} (hL:L'.ext = l.length) (hlim:L'.ext ≤ L'.lim)
  (hpres:∀ q,q < w.heap.size→q ≠ L.blk→w'.heap[q]? = w.heap[q]?)
  (hb:L'.blk = L.blk ∨ w.heap.size ≤ L'.blk) (hb':L'.blk < w'.heap.size) (hsize:w.heap.size ≤ w'.heap.size) (hos:w'.os = w.os) (htape:w'.tape = w.tape) (hout:w'.output = w.output)
  (hH:∃ c ty fz us,w'.heap[L'.blk]? = some (.cells c ty fz)∧L'.base + L'.lim ≤ c.size∧(fz.1 = fz.2 ∨ L'.base + L'.lim ≤ fz.1)∧VRL φ (Nf φ) w l us∧∀ i v,us[i]? = some v→c[L'.base + i]? = some v) :
  ∃ φ',Rel φ' ((h.set b ⟨B.ver,[],false,[]⟩).new (blkOf l false)) w'∧Grow φ h w φ' ((h.set b ⟨B.ver,[],false,[]⟩).new (blkOf l false)) w'∧φ' h.next 0 = some L':=by
 have hown:Own φ h L.blk:=⟨b,B,B.ver,E,L,hB,hE,hφ,rfl⟩
 have hbn:b < h.next:=R.lt _ _ hB
 have hφ0:∀ v,φ h.next v = none:=by
  intro v
  cases hq:φ h.next v with
  | none=>rfl
  | some l=>have:=(R.dom _ _ _ hq).1;omega
 have hf:∀ x,((h.set b ⟨B.ver,[],false,[]⟩).new (blkOf l false)).f x = if x = h.next then some (blkOf l false) else if x = b then some ⟨B.ver,[],false,[]⟩ else h.f x:=fun _=>rfl
 refine ⟨⟨fun b2 v2=>if b2 = h.next∧v2 = 0 then some L' else φ b2 v2,φ.F,φ.q⟩, ?_⟩
 have:=alter_ok (φ':=⟨fun b2 v2=>if b2 = h.next∧v2 = 0 then some L' else φ b2 v2,φ.F,φ.q⟩) (h':=(h.set b ⟨B.ver,[],false,[]⟩).new (blkOf l false)) (w':=w') R h.next 0 L' (blkOf l false) (by simp [H.new,H.set])
  (.inr (Nat.le_refl _)) (fun q hq=>by
   rw [hf] at hq
   split at hq
   ·exact .inr (by omega)
   ·split at hq
    ·rename_i hqb;subst hqb;left;simp [hB]
    ·exact .inl hq)
  (by simp [H.new,H.set]) (by
   intro b2 k2 h2
   rw [hf] at h2
   show b2 < h.next + 1
   split at h2
   ·omega
   ·split at h2
    ·omega
    ·have:=R.lt _ _ h2;omega) ⟨rfl,rfl⟩ (fun _ _=>rfl) (hφ0 0) hb' (by
   intro b2 k2 v2 l2 h2 h3
   dsimp only at h3
   rw [hf] at h2
   split at h2
   ·rename_i hb2;subst hb2
    simp only [oqI] at h2;subst h2
    by_cases hv:v2 = 0
    ·subst hv;simp [blkOf]
    ·rw [if_neg (by simp [hv]),hφ0] at h3;cases h3
   ·rename_i hb2
    rw [if_neg (by simp [hb2])] at h3
    split at h2
    ·rename_i hb3;subst hb3
     simp only [oqI] at h2;subst h2
     exact (R.ver _ B _ _ hB h3:_ ≤ B.ver)
    ·exact R.ver _ _ _ _ h2 h3) (by
   intro b2 k2 v2 e2 h2 he2
   rw [hf] at h2
   split at h2
   ·rename_i hb2;subst hb2
    simp only [oqI] at h2;subst h2
    left
    by_cases hv:v2 ≤ 0
    ·have hv0:v2 = 0:=by omega
     subst hv0
     simp [Blk.ext,blkOf] at he2
     subst he2
     exact ⟨rfl,rfl,hL,rfl,hL ▸ hlim,by simp [blkOf]⟩
    ·simp [Blk.ext,blkOf,hv] at he2
   ·rename_i hb2
    split at h2
    ·simp only [oqI] at h2;subst h2
     simp [Blk.ext] at he2
    ·rename_i hb3
     right
     refine ⟨by simp [hb2],k2,h2,he2, ?_,rfl,id,fun hv=>⟨hv,rfl,id⟩, ?_⟩
     ·obtain ⟨_,_,_,q,_⟩:=R.blk b2 k2 v2 e2 h2 he2;exact q
     ·intro l2 hl2
      have hd:=(R.dom _ _ _ hl2).2
      have hne:l2.blk ≠ L.blk:=fun hq=>hb3 (R.sep b2 k2 v2 e2 l2 b B B.ver E L h2 he2 hl2 hB hE hφ hq).1
      refine ⟨fun hq=>?_,fun c ty fz hc=>⟨c,by rw [hpres _ hd hne];exact hc,rfl,fun _ _=>rfl⟩⟩
      rcases hb with hb1 | hb1
      ·exact absurd (hq.trans hb1) hne
      ·omega)
  hsize (fun q hq ho=>hpres q hq (fun hqq=>ho (hqq ▸ hown))) hos htape hout (fun hlt=>by
   rcases hb with hb1 | hb1
   ·rw [hb1];exact hown
   ·omega) (by
   obtain ⟨c,ty,fz,us,a1,a2,a3,a4,a5⟩:=hH
   exact ⟨c,ty,fz,us,a1,a2,a3.imp id fun q=>⟨q,rfl⟩,by rw [hL];simpa [blkOf] using a4,a5⟩)
 exact ⟨this.1,this.2,by simp⟩
structure OkT (P:Program):Prop where
 zero:∀ t i,t < P.types.size→P.info? t = some i→∃ z,i.zero = some z∧z.cells.size = i.size
 fields:∀ t fs,t < P.types.size→P.underlying t = some (.struct fs)→∀ f ∈ fs.toList,(P.info? f.type).isSome = true
theorem appendL_gen {P:Program} {φ:Phi} {h h':H} {w:World} (hP:OkT P) (R:Rel φ h w) (el:TypeId) (info:TypeInfo) (n:Nat) (new:List AS) (us:List Value) (s r:AS) (sv z:Value) (Rn:Value→World→Prop)
  (hel:el < P.types.size) (hi:P.info? el = some info) (hz:info.zero = some z) (hs:VR φ (Nf φ) w s sv) (hn:VRL φ (Nf φ) w new us)
  (hfit0:∀ k cap,sv = .slice none k cap→k + n ≤ cap→Rn (.slice none (k + n) cap) w)
  (hfit1:∀ a k cap w',sv = .slice (some a) k cap→k + n ≤ cap→(storeCells (a.add (k * info.size)) us).run P w = .ok () w'→Rn (.slice (some a) (k + n) cap) w')
  (hgrow:∀ base k cap (olds:List Value),sv = .slice base k cap→(∀ w2:World,w2.heap = w.heap→(Builtin.firstCells info.size k sv).run P w2 = .ok olds.toArray w2)→olds.length = k * info.size→cap < k + n→(k + n + 600) * info.bytes ≤ 17592186044416→k + n ≤ 17592186044416 →
   ∃ c:Nat,k + n ≤ c∧Rn (.slice (some ⟨w.heap.size,0,none⟩) (k + n) c) (w.drew.alloc (.cells (olds++(us++(Builtin.zeroCells z.cells (c - (k + n))).toList)).toArray el)))
  (hA:appendL info.size info.bytes n new h s = some (r,h')) :
  ∃ rv w' φ',Rn rv w'∧VR φ' (Nf φ') w' r rv∧Rel φ' h' w'∧Grow φ h w φ' h' w':=by
 have hzs:z.cells.size = info.size:=by
  obtain ⟨z',hz',hzs'⟩:=hP.zero el info hel hi
  rw [hz] at hz';cases hz';exact hzs'
 have hul:=hn.length
 unfold appendL at hA
 split at hA
 ·cases hA
 rename_i hc0
 have hlen:new.length = n * info.size:=by
  rcases Nat.decEq new.length (n * info.size) with h | h
  ·exact absurd (.inl h) hc0
  ·exact h
 have hsz:0 < info.size:=Nat.pos_of_ne_zero fun h=>hc0 (.inr h)
 cases hs with
 | nilslc =>
  simp only at hA
  split at hA
  ·rename_i hn0
   subst hn0
   simp only [oqI,oqM] at hA
   obtain ⟨rfl,rfl⟩:=hA
   exact ⟨_,w,φ,hfit0 0 0 rfl (by omega),.nilslc,R,Grow.refl _ _ _⟩
  ·rename_i hn0
   split at hA
   ·rename_i hlim
    simp only [oqI,oqM] at hA
    obtain ⟨rfl,rfl⟩:=hA
    simp only [limit] at hlim
    obtain ⟨c,hc,hrun⟩:=hgrow none 0 0 [] rfl (fun w2 _=>by simp [Builtin.firstCells]) (by simp) (by omega) (by simpa using (by omega:(n + 600) * info.bytes ≤ 17592186044416)) (by omega)
    simp only [Nat.zero_add,List.nil_append] at hrun hc
    obtain ⟨φ',g1,g2,g3⟩:=grown_new R hn el info.size n c ((Builtin.zeroCells z.cells (c - n)).toList) hlen hsz hc (by simp [size_zeroCells,hzs])
    exact ⟨_,_,φ',hrun,g3,g1,g2⟩
   ·cases hA
 | slc b v o k s' c L a cap hφ hs' ha hkc hcap hext =>
  simp only at hA
  split at hA
  ·cases hA
  rename_i hss
  have hss:s' = info.size:=by
   rcases Nat.decEq s' info.size with h | h
   ·exact absurd h hss
   ·exact h
  subst hss
  split at hA
  ·rename_i hn0
   subst hn0
   simp only [oqI,oqM] at hA
   obtain ⟨rfl,rfl⟩:=hA
   have hus:us = []:=List.eq_nil_of_length_eq_zero (by rw [← hul,hlen];simp)
   subst hus
   refine ⟨_,w,φ,hfit1 a k cap w rfl (by omega) (by simp [storeCells]), ?_,R,Grow.refl _ _ _⟩
   exact .slc b v o k _ c L a cap hφ hs' ha hkc hcap hext
  rename_i hn0
  split at hA
  ·cases hA
  rename_i hlim
  simp only [limit] at hlim
  simp only [oqE,oqB] at hA
  obtain ⟨B,hB,E,hE,old,hold,hA⟩:=hA
  have hcellsR:=read_ok R (VR.ptr b v o L hφ) hold
  obtain ⟨b1,o1,olds,hpv,holds,hol,hocell⟩:=hcellsR
  simp only [Value.pointer.injEq,oqI,Addr.mk.injEq] at hpv
  obtain ⟨rfl,rfl,_⟩:=hpv
  have hap:0 < cap→a = ⟨L.blk,L.base + o,none⟩:=ha
  have hfirst:∀ w2:World,w2.heap = w.heap→(Builtin.firstCells info.size k (.slice (some a) k cap)).run P w2 = .ok olds.toArray w2:=by
   intro w2 hw2
   by_cases hk0:k = 0
   ·subst hk0
    have:olds = []:=List.eq_nil_of_length_eq_zero (by simpa using hol)
    subst this
    simp [Builtin.firstCells,loadCells,loadCellsFrom]
   ·rw [hap (by omega)]
    exact firstCells_slice P w2 L.blk (L.base + o) k cap info.size none olds hol (fun _=>rfl) (fun j v hj=>by
     have:=hocell j v hj;simpa [World.cell?,hw2] using this)
  have hfresh:cap < k + n→∀ r h',some (AS.slc h.next 0 0 (k + n) info.size none,h.new (blkOf (old++new) false)) = some (r,h') →
    ∃ rv w' φ',Rn rv w'∧VR φ' (Nf φ') w' r rv∧Rel φ' h' w'∧Grow φ h w φ' h' w':=by
   intro hlt r h' he
   simp only [oqI,oqM] at he
   obtain ⟨rfl,rfl⟩:=he
   obtain ⟨c',hc',hrun⟩:=hgrow (some a) k cap olds rfl hfirst hol hlt (by omega) (by omega)
   obtain ⟨φ',g1,g2,g3⟩:=grown_new R (holds.append hn) el info.size (k + n) c' ((Builtin.zeroCells z.cells (c' - (k + n))).toList)
    (by rw [List.length_append,hlen,holds.length,hol,← Nat.add_mul]) hsz hc' (by simp [size_zeroCells,hzs])
   simp only [List.append_assoc] at g1 g2 g3
   exact ⟨_,_,φ',hrun,g3,g1,g2⟩
  have hplace:k + n ≤ cap→∀ h'',writeC h (.ptr b v (o + k * info.size)) new = some h''→∃ w',Rn (.slice (some a) (k + n) cap) w'∧Rel φ h'' w'∧Grow φ h w φ h'' w':=by
   intro hle h'' hw
   obtain ⟨b2,o2,w',hpv,hst,R',G'⟩:=write_ok (P:=P) R (VR.ptr b v (o + k * info.size) L hφ) hn hw
   simp only [Value.pointer.injEq,oqI,Addr.mk.injEq] at hpv
   obtain ⟨rfl,rfl,_⟩:=hpv
   refine ⟨w',hfit1 a k cap w' rfl hle ?_,R',G'⟩
   try simp only
   rw [hap (by omega),add_none,← hst]
   congr 3;omega
  cases c with
  | some cc =>
   obtain ⟨rfl,hcl⟩:=hcap
   simp only at hA
   split at hA
   ·rename_i hle
    simp only [Option.map_eq_some_iff,oqM] at hA
    obtain ⟨h2,hw,rfl,rfl⟩:=hA
    obtain ⟨w',hr,R',G'⟩:=hplace hle h2 hw
    refine ⟨_,w',φ,hr,.slc b v o (k + n) _ (some cap) L a cap hφ hs' ha hle ⟨rfl,hcl⟩ ?_,R',G'⟩
    simp only [writeC,oqE,oqB] at hw
    obtain ⟨B2,hB2,E2,hE2,hw⟩:=hw
    split at hw
    ·rename_i hcond
     obtain ⟨L2,hL2,hx2,_⟩:=R.blk b B2 v E2 hB2 hE2
     rw [hφ] at hL2;cases hL2
     have:=hcond.2.1
     rw [hlen] at this
     rw [hx2,Nat.add_mul];omega
    ·cases hw
   ·exact hfresh (by omega) _ _ hA
  | none =>
   simp only at hcap
   simp only at hA
   split at hA
   ·cases hA
   rename_i hnew
   have hv:v = B.ver:=by
    rcases Nat.decEq v B.ver with h | h
    ·exact absurd (.inl h) hnew
    ·exact h
   have hEl:E = B.cells.length:=by
    rcases Nat.decEq E B.cells.length with h | h
    ·exact absurd (.inr h) hnew
    ·exact h
   subst hv
   obtain ⟨L2,hL2,hx2,hc2,hm2,hn2,c0,ty0,fz0,hc0',hsz0,hfz0',us0,hus0,hcell0⟩:=R.blk b B B.ver E hB hE
   rw [hφ] at hL2;cases hL2
   have hfz0:fz0.1 = fz0.2 ∨ L.base + L.lim ≤ fz0.1:=hfz0'.imp id And.left
   have hkn:(k + n) * info.size = k * info.size + n * info.size:=Nat.add_mul _ _ _
   have hfits:k + n ≤ cap ↔ o + (k + n) * info.size ≤ L.lim:=by
    rw [← hcap]
    constructor
    ·intro hle;have:=Nat.mul_le_mul_right info.size hle;omega
    ·intro hle
     exact Nat.le_of_mul_le_mul_right (by omega:(k + n) * info.size ≤ cap * info.size) hsz
   split at hA
   ·rename_i hin
    simp only [Option.map_eq_some_iff,oqM] at hA
    obtain ⟨h2,hw,rfl,rfl⟩:=hA
    have hle:k + n ≤ cap:=hfits.2 (by rw [hlen] at hin;omega)
    obtain ⟨w',hr,R',G'⟩:=hplace hle h2 hw
    refine ⟨_,w',φ,hr,.slc b _ o (k + n) _ none L a cap hφ hs' ha hle hcap ?_,R',G'⟩
    rw [hx2];rw [hlen] at hin;omega
   rename_i hin
   split at hA
   ·rename_i hfix
    have hlimE:=(hn2 rfl).2 hfix
    exact hfresh (by
     rcases Nat.lt_or_ge cap (k + n) with h | h
     ·exact h
     ·exact absurd (hfits.1 h) (by rw [hlen] at hin;omega)) _ _ hA
   have hrunIn:k + n ≤ cap→Rn (.slice (some a) (k + n) cap) (w.setRow L.blk (over c0.toList (L.base + (o + k * info.size)) us).toArray):=by
    intro hle
    refine hfit1 a k cap _ rfl hle ?_
    try simp only
    rw [hap (by omega),add_none,show L.base + o + k * info.size = L.base + (o + k * info.size) by omega]
    have hh:=hfits.1 hle
    have:=run_storeCells_any P L.blk (L.base + (o + k * info.size)) ty0 fz0 us 0 c0 w hc0' (fun j hj=>by omega) (by omega) hn.oneCells
    simpa using this
   have hblk:L.blk < w.heap.size:=(R.dom _ _ _ hφ).2
   have hus1:VRL φ (Nf φ) w B.cells us0:=by
    have:B.cells.take L.ext = B.cells:=List.take_of_length_le (by omega)
    rwa [this] at hus0
   have hul0:=hus1.length
   split at hA
   ·-- from the block's own beginning
    rename_i ho0
    subst ho0
    simp only [Nat.zero_add] at hA hin hold hext hfits hcap
    have main:∀ keep:Bool,(keep = true→k * info.size = E) →
      some (AS.slc b (B.ver + 1) 0 (k + n) info.size none,h.set b ⟨B.ver + 1,if keep then (k * info.size + new.length)::B.exts else [k * info.size + new.length],false,B.cells.take (k * info.size)++new⟩) = some (r,h') →
      ∃ rv w' φ',Rn rv w'∧VR φ' (Nf φ') w' r rv∧Rel φ' h' w'∧Grow φ h w φ' h' w':=by
     intro keep hkeep he
     simp only [oqI,oqM] at he
     obtain ⟨rfl,rfl⟩:=he
     by_cases hle:k + n ≤ cap
     ·have hh:=hfits.1 hle
      obtain ⟨φ',g1,g2,g3⟩:=bump_ok (w':=w.setRow L.blk (over c0.toList (L.base + k * info.size) us).toArray) (L':=⟨L.blk,L.base,k * info.size + new.length,L.lim⟩) (us:=us) (us0:=us0) R hB hE hEl hφ keep (k * info.size) (by omega) hkeep rfl
       (by simp only;rw [hlen];omega) (fun q hq hne=>by rw [heap_setRow,if_neg hne]) (fun hk c ty fz hc=>by
        rw [hc0'] at hc;cases hc
        refine ⟨_,by rw [heap_setRow,if_pos rfl,hc0'], ?_,fun i hi=>?_⟩
        ·simp only [List.size_toArray];rw [over_length _ _ _ (by simp;omega)];simp
        ·have:=hkeep hk
         rw [List.getElem?_toArray,over_get _ _ _ (by simp;omega),if_pos (by omega)];simp) (.inl ⟨rfl,rfl⟩) (by simpa using hblk) (by simp) rfl rfl rfl
       ⟨_,ty0,fz0,us0.take (k * info.size)++us,by rw [heap_setRow,if_pos rfl,hc0'],by
        simp only [List.size_toArray];rw [over_length _ _ _ (by simp;omega)];simpa using hsz0,hfz0,(hus1.take _).append hn,fun i y hy=>by
        rw [List.getElem?_toArray,over_get _ _ _ (by simp;omega)]
        have ht0:(us0.take (k * info.size)).length = k * info.size:=by simp;omega
        rw [List.getElem?_append,ht0] at hy
        by_cases hi2:i < k * info.size
        ·rw [if_pos hi2,List.getElem?_take,if_pos hi2] at hy
         rw [if_pos (by simp only;omega)]
         have:=hcell0 i y hy
         simpa using this
        ·rw [if_neg hi2] at hy
         have hlt:i - k * info.size < us.length:=(List.getElem?_eq_some_iff.1 hy).1
         rw [if_neg (by simp only;omega),if_pos (by simp only;omega),← hy]
         congr 1;simp only;omega⟩
      have hrr:=hrunIn hle
      simp only [Nat.zero_add] at hrr
      refine ⟨_,_,φ',hrr,.slc b _ 0 (k + n) _ none _ a cap g3 hsz (by simpa using ha) hle (by simpa using hcap) ?_,g1,g2⟩
      simp only [Nat.zero_add];rw [hlen];omega
     ·obtain ⟨c',hc',hrun⟩:=hgrow (some a) k cap olds rfl hfirst hol (by omega) (by omega) (by omega)
      have holdE:old = B.cells.take (k * info.size):=by
       obtain ⟨B3,E3,q1,q2,q3,q4⟩:=readC_ptr hold
       rw [hB] at q1;cases q1
       unfold sub at q4
       split at q4
       ·simp only [oqI,List.drop_zero] at q4;exact q4.symm
       ·cases q4
      have hsize':(Builtin.zeroCells z.cells (c' - (k + n))).toList.length = (c' - (k + n)) * info.size:=by simp [size_zeroCells,hzs]
      have hcs:(olds++(us++(Builtin.zeroCells z.cells (c' - (k + n))).toList)).length = c' * info.size:=by
       rw [List.length_append,List.length_append,hol,← hul,hlen,hsize',← Nat.add_mul,← Nat.add_mul]
       congr 1;omega
      obtain ⟨φ',g1,g2,g3⟩:=bump_ok (w':=w.drew.alloc (.cells (olds++(us++(Builtin.zeroCells z.cells (c' - (k + n))).toList)).toArray el)) (L':=⟨w.heap.size,0,k * info.size + new.length,c' * info.size⟩) (us:=us) (us0:=us0) R hB hE hEl hφ keep (k * info.size) (by omega) hkeep rfl
       (by simp only;rw [hlen,← hkn];exact Nat.mul_le_mul_right _ hc') (fun q hq hne=>heap_alloc_old w.drew _ q hq) (fun hk c ty fz hc=>⟨c,by rw [heap_alloc_old w.drew _ _ hblk];exact hc,rfl,fun _ _=>rfl⟩) (.inr (Nat.le_refl _)) (by simp) (by simp) rfl rfl rfl
       ⟨_,el,(0,0),olds++us,heap_alloc_new w.drew _,by simp only [List.size_toArray];rw [hcs];simp,.inl rfl,by rw [← holdE];exact holds.append hn,fun i y hy=>by
        rw [List.getElem?_toArray,← List.append_assoc,List.getElem?_append_left (by have:=(List.getElem?_eq_some_iff.1 hy).1;simpa using this)];simpa using hy⟩
      refine ⟨_,_,φ',hrun,.slc b _ 0 (k + n) _ none _ _ c' g3 hsz (fun _=>by simp) hc' (by simp) ?_,g1,g2⟩
      simp only [Nat.zero_add];rw [hlen];omega
    split at hA
    ·rename_i hee
     refine main true (fun _=>hee) ?_
     rw [← hA]
     simp only [if_true,hee]
     rw [hEl,List.take_length]
    ·rename_i hee
     refine main false (by simp) ?_
     rw [← hA];simp
   ·-- from further on
    rename_i ho0
    simp only [oqI,oqM] at hA
    obtain ⟨rfl,rfl⟩:=hA
    have hon:(old++new).length = (k + n) * info.size:=by rw [List.length_append,hlen,holds.length,hol,← Nat.add_mul]
    by_cases hle:k + n ≤ cap
    ·have hh:=hfits.1 hle
     obtain ⟨φ',g1,g2,g3⟩:=swap_ok (w':=w.setRow L.blk (over c0.toList (L.base + (o + k * info.size)) us).toArray) (L':=⟨L.blk,L.base + o,(k + n) * info.size,L.lim - o⟩) (l:=old++new) R hB hE hφ hon.symm
      (by simp only;omega) (fun q hq hne=>by rw [heap_setRow,if_neg hne]) (.inl rfl) (by simpa using hblk) (by simp) rfl rfl rfl
      ⟨_,ty0,fz0,olds++us,by rw [heap_setRow,if_pos rfl,hc0'],by
        simp only [List.size_toArray];rw [over_length _ _ _ (by simp;omega)];simp only [Array.length_toList];omega,by simp only;omega,holds.append hn,fun i y hy=>by
        rw [List.getElem?_toArray,over_get _ _ _ (by simp;omega)]
        rw [List.getElem?_append,hol] at hy
        by_cases hi2:i < k * info.size
        ·rw [if_pos hi2] at hy
         rw [if_pos (by simp only;omega)]
         have:=hocell i y hy
         rw [cellsAt hc0'] at this
         simpa using this
        ·rw [if_neg hi2] at hy
         have hlt:i - k * info.size < us.length:=(List.getElem?_eq_some_iff.1 hy).1
         rw [if_neg (by simp only;omega),if_pos (by simp only;omega),← hy]
         congr 1;simp only;omega⟩
     refine ⟨_,_,φ',hrunIn hle,.slc _ _ 0 (k + n) _ none _ a cap g3 hsz (fun hc=>by rw [hap hc];rfl) hle (by simp only;omega) (by simp),g1,g2⟩
    ·obtain ⟨c',hc',hrun⟩:=hgrow (some a) k cap olds rfl hfirst hol (by omega) (by omega) (by omega)
     have hsize':(Builtin.zeroCells z.cells (c' - (k + n))).toList.length = (c' - (k + n)) * info.size:=by simp [size_zeroCells,hzs]
     have hcs:(olds++(us++(Builtin.zeroCells z.cells (c' - (k + n))).toList)).length = c' * info.size:=by
      rw [List.length_append,List.length_append,hol,← hul,hlen,hsize',← Nat.add_mul,← Nat.add_mul]
      congr 1;omega
     obtain ⟨φ',g1,g2,g3⟩:=swap_ok (w':=w.drew.alloc (.cells (olds++(us++(Builtin.zeroCells z.cells (c' - (k + n))).toList)).toArray el)) (L':=⟨w.heap.size,0,(k + n) * info.size,c' * info.size⟩) (l:=old++new) R hB hE hφ hon.symm
      (by simp only;exact Nat.mul_le_mul_right _ hc') (fun q hq hne=>heap_alloc_old w.drew _ q hq) (.inr (Nat.le_refl _)) (by simp) (by simp) rfl rfl rfl
      ⟨_,el,(0,0),olds++us,heap_alloc_new w.drew _,by simp only [List.size_toArray];rw [hcs];simp,.inl rfl,holds.append hn,fun i y hy=>by
        rw [List.getElem?_toArray,← List.append_assoc,List.getElem?_append_left (by have:=(List.getElem?_eq_some_iff.1 hy).1;simpa using this)];simpa using hy⟩
     exact ⟨_,_,φ',hrun,.slc _ _ 0 (k + n) _ none _ _ c' g3 hsz (fun _=>by simp) hc' (by simp) (by simp),g1,g2⟩
 | vs k s' cells blk base cap spot vs0 hkc hs' hcl hO hb0 hsp hv hc =>
  simp only at hA
  split at hA
  ·rename_i h00
   obtain ⟨rfl,rfl⟩:=h00
   have hcap:cap = 0:=by rcases hs' with h | h;omega;exact h
   subst hcap
   split at hA
   ·rename_i hn0
    subst hn0
    simp only [oqI,oqM] at hA
    obtain ⟨rfl,rfl⟩:=hA
    have hus:us = []:=List.eq_nil_of_length_eq_zero (by rw [← hul,hlen];simp)
    subst hus
    refine ⟨_,w,φ,hfit1 ⟨blk,base,spot⟩ 0 0 w rfl (by omega) (by simp [storeCells]), ?_,R,Grow.refl _ _ _⟩
    exact .vs 0 info.size [] blk base 0 spot [] (Nat.le_refl _) (.inl hsz) (by simp) (fun h=>absurd h (by omega)) (fun h=>absurd h (by omega)) (fun h=>absurd h (by omega)) .nil (by simp)
   ·rename_i hn0
    split at hA
    ·rename_i hlim
     simp only [oqI,oqM] at hA
     obtain ⟨rfl,rfl⟩:=hA
     simp only [limit] at hlim
     obtain ⟨c,hc,hrun⟩:=hgrow (some ⟨blk,base,spot⟩) 0 0 [] rfl (fun w2 _=>by simp [Builtin.firstCells,loadCells,loadCellsFrom]) (by simp) (by omega) (by simpa using (by omega:(n + 600) * info.bytes ≤ 17592186044416)) (by omega)
     simp only [Nat.zero_add,List.nil_append] at hrun hc
     obtain ⟨φ',g1,g2,g3⟩:=grown_new R hn el info.size n c ((Builtin.zeroCells z.cells (c - n)).toList) hlen hsz hc (by simp [size_zeroCells,hzs])
     exact ⟨_,_,φ',hrun,g3,g1,g2⟩
    ·cases hA
  ·cases hA
 | _=>simp at hA
theorem appendL_ok {P:Program} {φ:Phi} {h h':H} {w:World} (hP:OkT P) (R:Rel φ h w) (t u ty el:TypeId) (info:TypeInfo) (n:Nat) (new:List AS) (us:List Value) (s r:AS) (sv x:Value)
  (ht:P.underlying t = some (.slice el)) (hel:el < P.types.size) (hi:P.info? el = some info) (hs:VR φ (Nf φ) w s sv) (hn:VRL φ (Nf φ) w new us) (hx:Src P w u info n us x)
  (hA:appendL info.size info.bytes n new h s = some (r,h')) :
  ∃ rv w' φ',(Builtin.append_ #[t,u] ty #[sv,x]).run P w = .ok rv w'∧VR φ' (Nf φ') w' r rv∧Rel φ' h' w'∧Grow φ h w φ' h' w':=by
 obtain ⟨z,hz,hzs⟩:=hP.zero el info hel hi
 exact appendL_gen hP R el info n new us s r sv z (fun rv w'=>(Builtin.append_ #[t,u] ty #[sv,x]).run P w = .ok rv w') hel hi hz hs hn
  (fun k cap e hf=>by subst e;exact run_append_fit P t u ty w w none k cap n el info x us ht hi hx hf rfl)
  (fun a k cap w' e hf hst=>by subst e;exact run_append_fit P t u ty w w' (some a) k cap n el info x us ht hi hx hf hst)
  (fun base k cap olds e ho _ hc hb1 hb2=>run_append_new P t u ty w sv base k cap n el info z x us olds ht hi hz hx e ho hc hb1 hb2) hA
end Go.Ab
namespace Go.Ab
section
variable {φ:Phi} {O:Nat→Prop} {w:World}
theorem constS_ok:∀ {v:Value} {a:AS},constS v = some a→VR φ O w a v:=by
 intro v a h
 cases v with
 | bool b=>simp [constS] at h;subst h;exact .bool b
 | int k n=>simp [constS] at h;subst h;exact .int k n
 | float k b=>cases k <;> simp [constS] at h;subst h;exact .flt b
 | string s=>simp [constS] at h;subst h;have:=VR.str (φ:=φ) (O:=O) (w:=w) s.data.toList;simpa using this
 | pointer p=>cases p <;> simp [constS] at h;subst h;exact .nilptr
 | slice p n c =>
  cases p with
  | none =>
   cases n <;> cases c <;> simp [constS] at h
   subst h;exact .nilslc
  | some p=>simp [constS] at h
 | nilFunc=>simp [constS] at h;subst h;exact .nilfn
 | nilIface=>simp [constS] at h;subst h;exact .nilifc
 | _=>simp [constS] at h
theorem constL_ok:∀ {vs:List Value} {l:List AS},constL vs = some l→VRL φ O w l vs
 | [],l,h=>by simp [constL] at h;subst h;exact .nil
 | v::vs,l,h=>by
  simp only [constL,oqE,oqB,oqI] at h
  obtain ⟨a,ha,r,hr,rfl⟩:=h
  exact .cons _ _ _ _ (constS_ok ha) (constL_ok hr)
theorem constV_ok {v:Value} {a:AV} (h:constV v = some a):AVR φ O w a v:=by
 have hone:∀ {v a},(do some (AV.one (← constS v)):Option AV) = some a→AVR φ O w a v:=by
  intro v a h
  simp only [oqE,oqB,oqI] at h
  obtain ⟨s,hs,rfl⟩:=h
  exact .one _ _ (constS_ok hs)
 cases v with
 | agg cs =>
  simp only [constV,oqE,oqB,oqI] at h
  obtain ⟨l,hl,rfl⟩:=h
  have:=AVR.agg (φ:=φ) (O:=O) (w:=w) l cs.toList (constL_ok hl)
  simpa using this
 | _=>exact hone (by simpa [constV] using h)
theorem AVL.get {l:List AV} {vs:List Value} (h:AVL φ O w l vs) (i:Nat):AVR φ O w (Fr.get l i) (vs.getD i Go.undef):=by
 induction h generalizing i with
 | nil=>simp [Fr.get];exact .undef
 | cons a v l vs h t ih =>
  cases i with
  | zero=>simpa [Fr.get] using h
  | succ i=>simpa [Fr.get] using ih i
theorem AVL.set {l:List AV} {vs:List Value} (h:AVL φ O w l vs) (i:Nat) {a:AV} {v:Value} (hv:AVR φ O w a v):AVL φ O w (l.set i a) (vs.set i v):=by
 induction h generalizing i with
 | nil=>simp;exact .nil
 | cons b u l vs h t ih =>
  cases i with
  | zero=>simp;exact .cons _ _ _ _ hv t
  | succ i=>simp;exact .cons _ _ _ _ h (ih i)
theorem ev_ok {fr:Fr} {a:Act} (hf:AVL φ O w fr a.tmps.toList) {x:Operand} {v:AV} (h:ev fr x = some v):AVR φ O w v (a.eval x):=by
 cases x with
 | tmp t =>
  simp only [ev,oqI] at h;subst h
  have:=hf.get t
  simpa [Act.eval,List.getD_eq_getElem?_getD,Array.getD_eq_getD_getElem?] using this
 | const c=>exact constV_ok h
 | global g=>cases h
 | func f =>
  simp only [ev,oqI] at h;subst h
  exact .one _ _ (.fn f [] [] [] [] .nil .nil)
theorem evS_ok {fr:Fr} {a:Act} (hf:AVL φ O w fr a.tmps.toList) {x:Operand} {s:AS} (h:evS fr x = some s):VR φ O w s (a.eval x):=by
 simp only [evS,oqE,oqB] at h
 obtain ⟨v,hv,h⟩:=h
 have:=ev_ok hf hv
 split at h
 ·simp only [oqI] at h;subst h
  cases this with | one _ _ h=>exact h
 ·cases h
theorem evL_ok {fr:Fr} {a:Act} (hf:AVL φ O w fr a.tmps.toList):∀ {l:List Operand} {vs:List AV},evL fr l = some vs→AVL φ O w vs (l.map a.eval)
 | [],vs,h=>by simp [evL] at h;subst h;exact .nil
 | x::l,vs,h=>by
  simp only [evL,oqE,oqB,oqI] at h
  obtain ⟨v,hv,r,hr,rfl⟩:=h
  exact .cons _ _ _ _ (ev_ok hf hv) (evL_ok hf hr)
theorem evSL_ok {fr:Fr} {a:Act} (hf:AVL φ O w fr a.tmps.toList):∀ {l:List Operand} {vs:List AS},evSL fr l = some vs→VRL φ O w vs (l.map a.eval)
 | [],vs,h=>by simp [evSL] at h;subst h;exact .nil
 | x::l,vs,h=>by
  simp only [evSL,oqE,oqB,oqI] at h
  obtain ⟨v,hv,r,hr,rfl⟩:=h
  exact .cons _ _ _ _ (evS_ok hf hv) (evSL_ok hf hr)
theorem ones_ok:∀ {l:List AS} {vs:List Value},VRL φ O w l vs→AVL φ O w (ones l) vs
 | _,_,.nil=>.nil
 | _,_,.cons _ _ _ _ h t=>.cons _ _ _ _ (.one _ _ h) (ones_ok t)
theorem put_ok {fr fr':Fr} {a:Act} (hf:AVL φ O w fr a.tmps.toList) {d:Option Nat} {v:AV} {cv:Value} (hv:AVR φ O w v cv) (h:Fr.put fr d v = some fr'):AVL φ O w fr' (a.put d cv).tmps.toList:=by
 cases d with
 | none=>simp [Fr.put] at h;subst h;exact hf
 | some d =>
  simp only [Fr.put] at h
  split at h
  ·simp only [oqI] at h;subst h
   simpa [Act.put,Array.toList_setIfInBounds] using hf.set d hv
  ·cases h
theorem ofCells_ok {g:Bool} {l:List AS} {vs:List Value} {v:AV} (hl:VRL φ O w l vs) (h:ofCells g l = some v):(g = true∧AVR φ O w v (.agg vs.toArray)) ∨ (g = false∧∃ x,vs = [x]∧AVR φ O w v x):=by
 cases g with
 | true=>simp [ofCells] at h;subst h;exact .inl ⟨rfl,.agg _ _ hl⟩
 | false =>
  simp only [ofCells,oqF,if_false] at h
  split at h
  ·simp only [oqI] at h;subst h
   cases hl with
   | cons a x _ _ hx ht=>cases ht;exact .inr ⟨rfl,x,rfl,.one _ _ hx⟩
  ·cases h
end
section
variable {P:Program}
theorem isAggT_run {t:Nat} {g:Bool} (h:isAggT P t = some g) (w:World):(isAgg t).run P w = .ok g w:=by
 simp only [isAggT,oqE,oqB] at h
 obtain ⟨d,hd,h⟩:=h
 cases d <;> simp at h <;> subst h <;> simp [isAgg,run_underlying hd]
theorem sizeT_info {t n:Nat} (h:sizeT P t = some n):∃ i,P.info? t = some i∧i.size = n:=by
 simp only [sizeT,oqE,oqB,oqI] at h
 obtain ⟨i,hi,rfl⟩:=h;exact ⟨i,hi,rfl⟩
theorem sizeT_run {t n:Nat} (h:sizeT P t = some n) (w:World):(sizeOf t).run P w = .ok n w:=by
 obtain ⟨i,hi,rfl⟩:=sizeT_info h
 simp [sizeOf,typeInfo,hi]
theorem zeroT_info {t:Nat} {l:List AS} (h:zeroT P t = some l):∃ i z,P.info? t = some i∧i.zero = some z∧constL z.cells.toList = some l:=by
 simp only [zeroT,oqE,oqB] at h
 obtain ⟨i,hi,z,hz,hl⟩:=h
 exact ⟨i,z,hi,hz,hl⟩
theorem elemT_run {t el:Nat} (h:elemT P t = some el):P.underlying t = some (.slice el):=by
 simp only [elemT,oqE,oqB] at h
 obtain ⟨d,hd,h⟩:=h
 cases d <;> simp at h
 obtain ⟨_,rfl⟩:=h;exact hd
theorem elemT_lt {t el:Nat} (h:elemT P t = some el):el < P.types.size:=by
 simp only [elemT,oqE,oqB] at h
 obtain ⟨d,hd,h⟩:=h
 cases d <;> simp at h
 exact h.2 ▸ h.1
theorem fieldT_run {t i o u:Nat} (h:fieldT P t i = some (o,u)):∃ fs f,P.underlying t = some (.struct fs)∧fs[i]? = some f∧f.offset = o∧f.type = u:=by
 simp only [fieldT,oqE,oqB] at h
 obtain ⟨d,hd,h⟩:=h
 split at h
 ·simp only [oqB,oqI,oqM] at h
  obtain ⟨f,hf,rfl,rfl⟩:=h
  exact ⟨_,f,hd,hf,rfl,rfl⟩
 ·cases h
end
def OpR (P:Program) (φ:Phi) (h:H) (w:World) (r:OR) (res:Result Next):Prop :=
 match r with
 | .val v h'=>∃ cv w' φ',res = .ok (.value cv) w'∧AVR φ' (Nf φ') w' v cv∧Rel φ' h' w'∧Grow φ h w φ' h' w'
 | .skip h'=>∃ w' φ',res = .ok .skip w'∧Rel φ' h' w'∧Grow φ h w φ' h' w'
 | .call f args h'=>h' = h∧∃ cargs,AVL φ (Nf φ) w args cargs∧res = (callFunc f cargs.toArray).run P w
 | .pan v h'=>h' = h∧∃ cv,res = .halt (.panic cv) w∧VR φ (Nf φ) w v cv
section
variable {P:Program} {cmp:Nat→Option (List AS)} {φ:Phi} {h:H} {w:World} {fr:Fr} {a:Act} {r:OR}
theorem OpR.same (R:Rel φ h w) {v:AV} {cv:Value} (hv:AVR φ (Nf φ) w v cv):OpR P φ h w (.val v h) (.ok (.value cv) w):=⟨cv,w,φ,rfl,hv,R,Grow.refl _ _ _⟩
theorem OpR.same1 (R:Rel φ h w) {v:AS} {cv:Value} (hv:VR φ (Nf φ) w v cv):OpR P φ h w (one v h) (.ok (.value cv) w):=OpR.same R (.one _ _ hv)
theorem row_ok (R:Rel φ h w) {l:List AS} {vs:List Value} (hl:VRL φ (Nf φ) w l vs) (ty:TypeId) :
  ∃ φ',Rel φ' (h.new (blkOf l true)) (w.alloc (.cells vs.toArray ty))∧Grow φ h w φ' (h.new (blkOf l true)) (w.alloc (.cells vs.toArray ty))∧φ' h.next 0 = some ⟨w.heap.size,0,l.length,l.length⟩:=by
 have:=new_ok R hl true vs.toArray ty (0,0) [] (by simp) (by simp) (.inl rfl) (w.alloc (.cells vs.toArray ty)) rfl rfl rfl rfl
 simpa [hl.length] using this
end
end Go.Ab
namespace Go.Ab
theorem loadCellsRun {P:Program} {w:World} {b o n:Nat} {vs:List Value} (hlen:vs.length = n) (h:∀ j v,vs[j]? = some v→w.cell? ⟨b,o + j,none⟩ = some v) :
  (loadCells ⟨b,o,none⟩ n).run P w = .ok vs.toArray w:=by
 subst hlen;exact run_loadCells_at P w b o vs h
section
variable {φ:Phi} {O:Nat→Prop} {w:World}
theorem VR.bool_inv {b:Bool} {v:Value} (h:VR φ O w (.bool b) v):v = .bool b:=by cases h;rfl
theorem VR.int_inv {k:IntKind} {n:Int} {v:Value} (h:VR φ O w (.int k n) v):v = .int k n:=by cases h;rfl
theorem VR.flt_inv {b:Nat} {v:Value} (h:VR φ O w (.flt b) v):v = .float .f64 b:=by cases h;rfl
theorem VR.nan_inv {v:Value} (h:VR φ O w .nan v):∃ x,IsNaN x∧v = .float .f64 x:=by cases h;exact ⟨_,‹_›,rfl⟩
theorem VR.nanb_inv {v:Value} (h:VR φ O w .nanb v):∃ x,IsNaN x∧v = .int .u64 x:=by cases h;exact ⟨_,‹_›,rfl⟩
theorem VR.nanf_inv {v:Value} (h:VR φ O w .nanf v):∃ x,0 < x∧v = .int .u64 (x:Nat):=by cases h;exact ⟨_,‹_›,rfl⟩
theorem VR.str_inv {s:List UInt8} {v:Value} (h:VR φ O w (.str s) v):v = .string ⟨s.toArray⟩:=by cases h;rfl
theorem VR.nilslc_inv {v:Value} (h:VR φ O w .nilslc v):v = .slice none 0 0:=by cases h;rfl
theorem VR.fn_inv {f:Nat} {x c:List AS} {v:Value} (h:VR φ O w (.fn f x c) v):∃ vs1 vs2,VRL φ O w x vs1∧VRL φ O w c vs2∧v = .func (.func f) vs1.toArray vs2.toArray:=by cases h;exact ⟨_,_,‹_›,‹_›,rfl⟩
theorem VR.ifc_inv {t:Nat} {x:AS} {v:Value} (h:VR φ O w (.ifc t x) v):∃ u,VR φ O w x u∧v = .iface t u:=by cases h;exact ⟨_,‹_›,rfl⟩
theorem VR.ptr_inv {b v o:Nat} {x:Value} (h:VR φ O w (.ptr b v o) x):∃ l:Loc,φ b v = some l∧x = .pointer (some ⟨l.blk,l.base + o,none⟩):=by cases h;exact ⟨_,‹_›,rfl⟩
theorem AVR.one_inv {a:AS} {v:Value} (h:AVR φ O w (.one a) v):VR φ O w a v:=by cases h;assumption
theorem AVR.agg_inv {l:List AS} {v:Value} (h:AVR φ O w (.agg l) v):∃ vs,VRL φ O w l vs∧v = .agg vs.toArray:=by cases h;exact ⟨_,‹_›,rfl⟩
theorem AVR.tup_inv {l:List (Bool × List AS)} {v:Value} (h:AVR φ O w (.tup l) v):∃ vs,PRL φ O w l vs∧v = .tuple vs.toArray:=by cases h;exact ⟨_,‹_›,rfl⟩
theorem PRL.get:∀ {l:List (Bool × List AS)} {vs:List Value} {i:Nat} {p:Bool × List AS},PRL φ O w l vs→l[i]? = some p→∃ v,vs[i]? = some v∧PR φ O w p v
 | _,_,_,_,.nil,h=>by simp at h
 | _,_,0,_,.cons a v l vs h t,e=>by simp at e;subst e;exact ⟨v,rfl,h⟩
 | _,_,i + 1,_,.cons a v l vs h t,e=>by simp at e;simpa using t.get e
end
section
variable {P:Program} {cmp:Nat→Option (List AS)} {φ:Phi} {h:H} {w:World} {fr:Fr} {a:Act} {r:OR} {o:Oper}
theorem op_move (R:Rel φ h w) (hf:AVL φ (Nf φ) w fr a.tmps.toList) {x:Operand} (ho:o.op = .move x ∨ o.op = .assign x) (hr:opA P cmp fr h o = some r) :
  OpR P φ h w r ((execOp a.eval o).run P w):=by
 rcases ho with ho | ho <;>
 ·simp only [opA,ho,oqE,oqB,oqI] at hr
  obtain ⟨v,hv,rfl⟩:=hr
  simp only [execOp,ho,Sem.run_pure]
  exact OpR.same R (ev_ok hf hv)
theorem op_pick (R:Rel φ h w) (hf:AVL φ (Nf φ) w fr a.tmps.toList) {c x y:Operand} (ho:o.op = .pick c x y) (hr:opA P cmp fr h o = some r) :
  OpR P φ h w r ((execOp a.eval o).run P w):=by
 simp only [opA,ho,oqE,oqB] at hr
 obtain ⟨s,hs,hr⟩:=hr
 have h1:=evS_ok hf hs
 split at hr
 ·rename_i b
  simp only [oqB,oqI] at hr
  obtain ⟨v,hv,rfl⟩:=hr
  simp only [execOp,ho,h1.bool_inv,asBool,Sem.run_bind,Sem.run_pure,Result.andThen_ok]
  refine OpR.same R ?_
  cases b
  ·exact ev_ok hf (by simpa using hv)
  ·exact ev_ok hf (by simpa using hv)
 ·cases hr
theorem op_alloc (R:Rel φ h w) {t:Nat} (ho:o.op = .alloc t) (hr:opA P cmp fr h o = some r) :
  OpR P φ h w r ((execOp a.eval o).run P w):=by
 simp only [opA,ho,oqE,oqB,oqI] at hr
 obtain ⟨z,hz,rfl⟩:=hr
 obtain ⟨i,zv,hi,hzv,hl⟩:=zeroT_info hz
 obtain ⟨φ',R',G,hφ⟩:=row_ok R (constL_ok (φ:=φ) (O:=Nf φ) (w:=w) hl) t
 refine ⟨.pointer (some ⟨w.heap.size,0,none⟩),w.alloc (.cells zv.cells t),φ', ?_, ?_,by simpa using R',by simpa using G⟩
 ·simp [execOp,ho,Instr.alloc,zeroValue,typeInfo,hi,hzv,newVar,newRow,newObj,Sem.run]
 ·refine .one _ _ ?_
  have:=VR.ptr (φ:=φ') (O:=Nf φ') (w:=w.alloc (.cells zv.cells t)) h.next 0 0 _ hφ
  simpa using this
theorem op_box (R:Rel φ h w) (hf:AVL φ (Nf φ) w fr a.tmps.toList) {t:Nat} {x:Operand} (ho:o.op = .box t x) (hr:opA P cmp fr h o = some r) :
  OpR P φ h w r ((execOp a.eval o).run P w):=by
 simp only [opA,ho,oqE,oqB,oqI] at hr
 obtain ⟨v,hv,l,hl,rfl⟩:=hr
 obtain ⟨vs,hvs,hc⟩:=(ev_ok hf hv).cells hl
 obtain ⟨φ',R',G,hφ⟩:=row_ok R hvs t
 refine ⟨.pointer (some ⟨w.heap.size,0,none⟩),w.alloc (.cells vs.toArray t),φ', ?_, ?_,R',G⟩
 ·simp [execOp,ho,Instr.box,newVar,newRow,newObj,Sem.run,hc]
 ·refine .one _ _ ?_
  have:=VR.ptr (φ:=φ') (O:=Nf φ') (w:=w.alloc (.cells vs.toArray t)) h.next 0 0 _ hφ
  simpa using this
theorem loadVar_ok (R:Rel φ h w) {t:Nat} {p:AS} {pv:Value} {n:Nat} {l:List AS} {g:Bool} {v:AV} (hp:VR φ (Nf φ) w p pv) (hn:sizeT P t = some n) (hg:isAggT P t = some g)
  (hr:readC h p n = some l) (hv:ofCells g l = some v):∃ b q cv,pv = .pointer (some ⟨b,q,none⟩)∧(loadVar t ⟨b,q,none⟩).run P w = .ok cv w∧AVR φ (Nf φ) w v cv:=by
 obtain ⟨b,q,vs,rfl,hvs,hlen,hc⟩:=read_ok R hp hr
 rcases ofCells_ok hvs hv with ⟨rfl,hx⟩ | ⟨rfl,x,rfl,hx⟩
 ·exact ⟨b,q,_,rfl,by simp [loadVar,isAggT_run hg,sizeT_run hn,loadCellsRun hlen hc],hx⟩
 ·refine ⟨b,q,_,rfl, ?_,hx⟩
  have:=hc 0 x rfl
  simp only [Nat.add_zero] at this
  simp [loadVar,isAggT_run hg,load,Sem.run,this]
theorem op_load (R:Rel φ h w) (hf:AVL φ (Nf φ) w fr a.tmps.toList) {t:Nat} {x:Operand} (ho:o.op = .load t x) (hr:opA P cmp fr h o = some r) :
  OpR P φ h w r ((execOp a.eval o).run P w):=by
 simp only [opA,ho,oqE,oqB,oqI] at hr
 obtain ⟨p,hp,n,hn,l,hl,g,hg,v,hv,rfl⟩:=hr
 obtain ⟨b,q,cv,hpv,hrun,hx⟩:=loadVar_ok R (evS_ok hf hp) hn hg hl hv
 simp only [execOp,ho,Instr.loadAt,hpv,Instr.sureAddr,Sem.run_bind,Sem.run_pure,Result.andThen_ok,hrun]
 exact OpR.same R hx
theorem op_store (R:Rel φ h w) (hf:AVL φ (Nf φ) w fr a.tmps.toList) {t:Nat} {x y:Operand} (ho:o.op = .store t x y) (hr:opA P cmp fr h o = some r) :
  OpR P φ h w r ((execOp a.eval o).run P w):=by
 simp only [opA,ho,oqE,oqB,oqI] at hr
 obtain ⟨v,hv,l,hl,hr⟩:=hr
 split at hr
 ·rename_i hn
  simp only [oqB,oqI] at hr
  obtain ⟨p,hp,h',hw,rfl⟩:=hr
  obtain ⟨vs,hvs,hc⟩:=(ev_ok hf hv).cells hl
  obtain ⟨b,q,w',hpv,hrun,R',G⟩:=write_ok (P:=P) R (evS_ok hf hp) hvs hw
  refine ⟨w',φ, ?_,R',G⟩
  simp [execOp,ho,Instr.storeAt,hpv,Instr.sureAddr,storeVar,sizeT_run hn,hc,hvs.length,hrun]
 ·cases hr
theorem op_nilCheck (R:Rel φ h w) (hf:AVL φ (Nf φ) w fr a.tmps.toList) {x:Operand} (ho:o.op = .nilCheck x) (hr:opA P cmp fr h o = some r) :
  OpR P φ h w r ((execOp a.eval o).run P w):=by
 simp only [opA,ho,oqE,oqB,oqI] at hr
 obtain ⟨s,hs,hr⟩:=hr
 have h1:=evS_ok hf hs
 generalize hcv:a.eval x = cv at h1
 cases h1 <;> simp at hr <;> subst hr <;> simp only [execOp,ho,hcv,Sem.run_pure]
 ·exact OpR.same1 R (.ptr _ _ _ _ ‹_›)
 ·exact OpR.same1 R (.rp _ _ _ _ _ ‹_› ‹_› ‹_› ‹_›)
 ·exact OpR.same1 R (.fn _ _ _ _ _ ‹_› ‹_›)
theorem op_makeInterface (R:Rel φ h w) (hf:AVL φ (Nf φ) w fr a.tmps.toList) {t:Nat} {x:Operand} (ho:o.op = .makeInterface t x) (hr:opA P cmp fr h o = some r) :
  OpR P φ h w r ((execOp a.eval o).run P w):=by
 simp only [opA,ho,oqE,oqB,oqI] at hr
 obtain ⟨s,hs,d,hd,hr⟩:=hr
 have h1:=evS_ok hf hs
 split at hr
 ·cases hr
 ·rename_i hne
  simp only [oqI] at hr;subst hr
  have:(Instr.makeInterface t (a.eval x)).run P w = .ok (.iface t (a.eval x)) w:=by
   cases d <;> first | exact absurd rfl (hne _) | simp [Instr.makeInterface,run_underlying hd]
  simp only [execOp,ho,Sem.run_bind,this,Sem.run_pure,Result.andThen_ok]
  exact OpR.same1 R (.ifc _ _ _ h1)
theorem op_makeFunc (R:Rel φ h w) (hf:AVL φ (Nf φ) w fr a.tmps.toList) {f:Fn} {x y:Array Operand} (ho:o.op = .makeFunc f x y) (hr:opA P cmp fr h o = some r) :
  OpR P φ h w r ((execOp a.eval o).run P w):=by
 cases f with
 | func f =>
  simp only [opA,ho,oqE,oqB,oqI] at hr
  obtain ⟨l,hl,m,hm,rfl⟩:=hr
  simp only [execOp,ho,Instr.makeFunc,Sem.run_bind,Sem.run_pure,Result.andThen_ok]
  have:=VR.fn f l m _ _ (evSL_ok hf hl) (evSL_ok hf hm)
  refine OpR.same1 R ?_
  have e:∀ z:Array Operand,Array.map a.eval z = (z.toList.map a.eval).toArray:=fun z=>by rw [← Array.toList_map]
  rw [e,e]
  exact this
 | _=>simp [opA,ho] at hr
theorem op_extract (R:Rel φ h w) (hf:AVL φ (Nf φ) w fr a.tmps.toList) {x:Operand} {i:Nat} (ho:o.op = .extract x i) (hr:opA P cmp fr h o = some r) :
  OpR P φ h w r ((execOp a.eval o).run P w):=by
 simp only [opA,ho,oqE,oqB,oqI] at hr
 obtain ⟨s,hs,hr⟩:=hr
 have h1:=ev_ok hf hs
 split at hr
 ·rename_i ps
  obtain ⟨vs,hvs,he⟩:=h1.tup_inv
  simp only [oqB,oqI] at hr
  obtain ⟨⟨g,l⟩,hp,v,hv,rfl⟩:=hr
  obtain ⟨u,hu,us,hus,hpr⟩:=hvs.get hp
  have hrun:(execOp a.eval o).run P w = .ok (.value u) w:=by
   simp [execOp,ho,Instr.extract,he,hu]
  rw [hrun]
  refine OpR.same R ?_
  rcases ofCells_ok hus hv with ⟨rfl,hx⟩ | ⟨rfl,x,rfl,hx⟩
  ·simp at hpr;subst hpr;exact hx
  ·simp at hpr;subst hpr;exact hx
 ·cases hr
theorem op_panic (R:Rel φ h w) (hf:AVL φ (Nf φ) w fr a.tmps.toList) {x:Operand} (ho:o.op = .panic x) (hr:opA P cmp fr h o = some r) :
  OpR P φ h w r ((execOp a.eval o).run P w):=by
 simp only [opA,ho,oqE,oqB,oqI] at hr
 obtain ⟨s,hs,hr⟩:=hr
 have h1:=evS_ok hf hs
 split at hr
 ·rename_i t q
  simp only [oqI] at hr;subst hr
  obtain ⟨u,hu,he⟩:=h1.ifc_inv
  refine ⟨rfl,_, ?_,h1⟩
  simp [execOp,ho,Instr.panic,he,goPanic,Sem.run]
 ·cases hr
theorem part_ok {t o n:Nat} {g:Bool} {l q:List AS} {vs:List Value} {v:AV} (hvs:VRL φ (Nf φ) w l vs) (hq:sub l o n = some q) (hn:sizeT P t = some n) (hg:isAggT P t = some g) (hv:ofCells g q = some v) :
  ∃ cv,(part t vs.toArray o).run P w = .ok cv w∧AVR φ (Nf φ) w v cv:=by
 obtain ⟨h1,h2⟩:=hvs.of_sub hq
 rcases ofCells_ok h1 hv with ⟨rfl,hx⟩ | ⟨rfl,x,hxs,hx⟩
 ·refine ⟨_, ?_,hx⟩
  simp [part,isAggT_run hg,sizeT_run hn,List.extract_eq_drop_take']
 ·refine ⟨x, ?_,hx⟩
  have:vs[o]? = some x:=by
   have h3:((vs.drop o).take n)[0]? = some x:=by rw [hxs];rfl
   simp only [List.getElem?_take,List.getElem?_drop,Nat.add_zero] at h3
   split at h3
   ·exact h3
   ·cases h3
  simp [part,isAggT_run hg,this]
theorem op_field (R:Rel φ h w) (hf:AVL φ (Nf φ) w fr a.tmps.toList) {t:Nat} {x:Operand} {i:Nat} (ho:o.op = .field t x i) (hr:opA P cmp fr h o = some r) :
  OpR P φ h w r ((execOp a.eval o).run P w):=by
 simp only [opA,ho,oqE,oqB,oqI] at hr
 obtain ⟨⟨q,u⟩,hq,s,hs,hr⟩:=hr
 have h1:=ev_ok hf hs
 split at hr
 ·rename_i l
  simp only [oqB,oqI] at hr
  obtain ⟨n,hn,c,hc,g,hg,v,hv,rfl⟩:=hr
  obtain ⟨vs,hvs,he⟩:=h1.agg_inv
  obtain ⟨fs,f,hu,hfi,rfl,rfl⟩:=fieldT_run hq
  obtain ⟨cv,hrun,hx⟩:=part_ok hvs hc hn hg hv
  have:(execOp a.eval o).run P w = .ok (.value cv) w:=by
   simp [execOp,ho,Instr.field,run_underlying hu,hfi,he,asAgg,hrun]
  rw [this]
  exact OpR.same R hx
 ·cases hr
theorem op_fieldAddr (R:Rel φ h w) (hf:AVL φ (Nf φ) w fr a.tmps.toList) {t:Nat} {x:Operand} {i:Nat} (ho:o.op = .fieldAddr t x i) (hr:opA P cmp fr h o = some r) :
  OpR P φ h w r ((execOp a.eval o).run P w):=by
 simp only [opA,ho,oqE,oqB,oqI] at hr
 obtain ⟨⟨q,u⟩,hq,n,hn,hr⟩:=hr
 split at hr
 ·cases hr
 ·rename_i hn0
  simp only [oqB] at hr
  obtain ⟨s,hs,hr⟩:=hr
  have h1:=evS_ok hf hs
  obtain ⟨fs,f,hu,hfi,rfl,rfl⟩:=fieldT_run hq
  have hrun:∀ b e,a.eval x = .pointer (some ⟨b,e,none⟩)→(execOp a.eval o).run P w = .ok (.value (.pointer (some ⟨b,e + f.offset,none⟩))) w:=by
   intro b e he
   simp [execOp,ho,Instr.fieldAt,run_underlying hu,hfi,he,Instr.sureAddr,fieldPlace,sizeT_run hn,hn0,add_none]
  generalize hcv:a.eval x = cv at h1
  cases h1 <;> simp at hr <;> subst hr
  ·rename_i b v e L hφ
   rw [hrun _ _ hcv]
   refine OpR.same1 R ?_
   have:=VR.ptr (φ:=φ) (O:=Nf φ) (w:=w) b v (e + f.offset) _ hφ
   rwa [← Nat.add_assoc] at this
  ·rename_i cells e blk base vs hO hb hv hc
   rw [hrun _ _ hcv]
   refine OpR.same1 R ?_
   have:=VR.rp (φ:=φ) (O:=Nf φ) (w:=w) cells (e + f.offset) blk base vs hO hb hv hc
   rwa [← Nat.add_assoc] at this
theorem op_indexAddr (R:Rel φ h w) (hf:AVL φ (Nf φ) w fr a.tmps.toList) {t:Nat} {x y:Operand} (ho:o.op = .indexAddr t x y) (hr:opA P cmp fr h o = some r) :
  OpR P φ h w r ((execOp a.eval o).run P w):=by
 simp only [opA,ho,oqE,oqB,oqI] at hr
 obtain ⟨s,hs,j,hj,i,hi,p,hp,rfl⟩:=hr
 have h1:=evS_ok hf hs
 have h2:=evS_ok hf hj
 simp only [natOf,oqE,oqB] at hi
 obtain ⟨z,hz,hi⟩:=hi
 split at hi
 ·rename_i hz0
  simp only [oqI] at hi;subst hi
  cases j <;> simp [intOf] at hz
  rename_i k z'
  subst hz
  have hy:=h2.int_inv
  simp only [indexA,oqE,oqB] at hp
  obtain ⟨d,hd,hp⟩:=hp
  split at hp
  ·rename_i u
   simp only [oqB] at hp
   obtain ⟨size,hsz,hp⟩:=hp
   have hrun:∀ b q n cap,a.eval x = .slice (some ⟨b,q,none⟩) n cap→z'.toNat < n→(execOp a.eval o).run P w = .ok (.value (.pointer (some ⟨b,q + z'.toNat * size,none⟩))) w:=by
    intro b q n cap he hlt
    have:0 ≤ z'∧z' < (n:Int):=⟨hz0,by omega⟩
    simp [execOp,ho,Instr.indexAt,run_underlying hd,he,hy,asIntOf,sizeT_run hsz,add_none,this]
   generalize hcv:a.eval x = cv at h1
   cases h1 <;> simp at hp
   ·rename_i b v e n s c L A cap hφ hs0 hA hn hc hle
    obtain ⟨⟨rfl,h3,h4⟩,rfl⟩:=hp
    rw [hA (by omega)] at hcv
    rw [hrun _ _ _ _ hcv h4]
    refine OpR.same1 R ?_
    have:=VR.ptr (φ:=φ) (O:=Nf φ) (w:=w) b v (e + z'.toNat * s) _ hφ
    rwa [← Nat.add_assoc] at this
   ·rename_i n s cells blk base cap spot vs hn hs0 hlen hO hb hsp hv hc
    obtain ⟨⟨rfl,h3,h4⟩,rfl⟩:=hp
    rw [hsp (by omega)] at hcv
    rw [hrun _ _ _ _ hcv h4]
    refine OpR.same1 R ?_
    exact VR.rp (φ:=φ) (O:=Nf φ) (w:=w) cells (z'.toNat * s) blk base vs (hO (by omega)) (hb (by omega)) hv hc
  ·rename_i m u
   simp only [oqB] at hp
   obtain ⟨size,hsz,hp⟩:=hp
   have hrun:∀ b q,a.eval x = .pointer (some ⟨b,q,none⟩)→z'.toNat < m→(execOp a.eval o).run P w = .ok (.value (.pointer (some ⟨b,q + z'.toNat * size,none⟩))) w:=by
    intro b q he hlt
    have:0 ≤ z'∧z' < (m:Int):=⟨hz0,by omega⟩
    simp [execOp,ho,Instr.indexAt,run_underlying hd,he,hy,asIntOf,sizeT_run hsz,add_none,this,Instr.sureAddr]
   generalize hcv:a.eval x = cv at h1
   cases h1 <;> simp at hp
   ·rename_i b v e L hφ
    obtain ⟨h4,rfl⟩:=hp
    rw [hrun _ _ hcv h4]
    refine OpR.same1 R ?_
    have:=VR.ptr (φ:=φ) (O:=Nf φ) (w:=w) b v (e + z'.toNat * size) _ hφ
    rwa [← Nat.add_assoc] at this
   ·rename_i cells e blk base vs hO hb hv hc
    obtain ⟨h4,rfl⟩:=hp
    rw [hrun _ _ hcv h4]
    refine OpR.same1 R ?_
    have:=VR.rp (φ:=φ) (O:=Nf φ) (w:=w) cells (e + z'.toNat * size) blk base vs hO hb hv hc
    rwa [← Nat.add_assoc] at this
  ·cases hp
 ·cases hi
theorem op_index (R:Rel φ h w) (hf:AVL φ (Nf φ) w fr a.tmps.toList) {t:Nat} {x y:Operand} (ho:o.op = .index t x y) (hr:opA P cmp fr h o = some r) :
  OpR P φ h w r ((execOp a.eval o).run P w):=by
 simp only [opA,ho,oqE,oqB,oqI] at hr
 obtain ⟨d,hd,hr⟩:=hr
 split at hr
 ·simp only [oqB] at hr
  obtain ⟨s,hs,hr⟩:=hr
  have h1:=evS_ok hf hs
  split at hr
  ·rename_i l
   simp only [oqB,oqI] at hr
   obtain ⟨j,hj,i,hi,c,hc,rfl⟩:=hr
   have h2:=evS_ok hf hj
   simp only [natOf,oqE,oqB] at hi
   obtain ⟨z,hz,hi⟩:=hi
   split at hi
   ·rename_i hz0
    simp only [oqI] at hi;subst hi
    cases j <;> simp [intOf] at hz
    rename_i k z'
    subst hz
    have hy:=h2.int_inv
    have hx:=h1.str_inv
    have hget:(ByteArray.mk l.toArray)[z'.toNat]? = some c:=by
     obtain ⟨hlt,he⟩:=List.getElem?_eq_some_iff.1 hc
     have:z'.toNat < (ByteArray.mk l.toArray).size:=hlt
     rw [getElem?_pos (ByteArray.mk l.toArray) z'.toNat this,← he]
     rfl
    have:(execOp a.eval o).run P w = .ok (.value (.int .u8 c.toNat)) w:=by
     simp [execOp,ho,Instr.index,run_underlying hd,hx,hy,asIntOf,hz0,hget]
    rw [this]
    exact OpR.same1 R (.int _ _)
   ·cases hi
  ·cases hr
 ·cases hr
end
end Go.Ab
namespace Go.Ab
structure CmpT (P:Program) (t:Nat) (z:List AS):Prop where
 guard:P.eqGuardType P.depth t = false
 eq:∀ (w:World) (φ:Phi) (O:Nat→Prop) (l m:List AS) (xs ys:List Value) (r:Bool),VRL φ O w l xs→VRL φ O w m ys→kindsA z l = true→kindsA z m = true→eqL l m = some r →
  (Op.equal t (.agg xs.toArray) (.agg ys.toArray)).run P w = .ok r w
def sideV:Value→Bool
 | .nilIface | .agg _ | .int .. | .float .. | .complex .. | .string ..=>false
 | _=>true
theorem eqGuard_other {P:Program} {w:World} {op:BinOp} {t:TypeId} {X Y:Operand} {a b:Value} (h:(match a with | .nilIface | .agg _=>false | _=>true) = true) :
  (eqGuard op t X Y a b).run P w = .ok () w:=by
 cases a <;> simp at h <;> cases op <;> simp [eqGuard]
theorem nan_read {x:Nat} (h:IsNaN x):∃ s f,(FloatKind.format .f64).read x = .nan s f:=by
 obtain ⟨s,f,hs,h0,hf,rfl⟩:=h
 have e1:(FloatKind.format .f64).signWeight = 2 ^ 63:=rfl
 have e2:(FloatKind.format .f64).binade = 2 ^ 52:=rfl
 have e3:(FloatKind.format .f64).infRung = 0x7ff0000000000000:=rfl
 have e:(s * 2 ^ 63 + 0x7ff0000000000000 + f) % 2 ^ 63 = 0x7ff0000000000000 + f:=by
  rw [Nat.add_assoc,Nat.mul_comm,Nat.mul_add_mod];apply Nat.mod_eq_of_lt;omega
 unfold Ieee.Format.read
 simp only [e1,e2,e3,e]
 rw [if_neg (by omega),if_neg (by omega),if_neg (by omega)]
 exact ⟨_,_,rfl⟩
theorem nan_order1 {x y:Nat} (h:IsNaN x):(FloatKind.format .f64).order x y = none:=by
 obtain ⟨s,f,e⟩:=nan_read h
 simp [Ieee.Format.order,e,Ieee.Datum.order]
theorem nan_order2 {x y:Nat} (h:IsNaN y):(FloatKind.format .f64).order x y = none:=by
 obtain ⟨s,f,e⟩:=nan_read h
 unfold Ieee.Format.order
 rw [e]
 cases (FloatKind.format .f64).read x <;> simp [Ieee.Datum.order]
theorem nan_cut (x y t:Nat):IsNaN (Question.cut (.nanBits .f64 x y) t) :=
 ⟨t % 2,1 + (t / 2) % (2 ^ 52 - 1),by omega,by omega,by omega,by simp [Question.cut];omega⟩
theorem nan_sum1 {x y:Nat} (h:IsNaN x):(FloatKind.format .f64).add x y = none∧(FloatKind.format .f64).sub x y = none∧(FloatKind.format .f64).mul x y = none:=by
 obtain ⟨s,f,e⟩:=nan_read h
 simp [Ieee.Format.add,Ieee.Format.sub,Ieee.Format.mul,e,Ieee.Datum.sum,Ieee.Datum.product]
theorem nan_sum2 {x y:Nat} (h:IsNaN y):(FloatKind.format .f64).add x y = none∧(FloatKind.format .f64).sub x y = none∧(FloatKind.format .f64).mul x y = none:=by
 obtain ⟨s,f,e⟩:=nan_read h
 unfold Ieee.Format.add Ieee.Format.sub Ieee.Format.mul
 rw [e]
 cases (FloatKind.format .f64).read x <;> simp [Ieee.Datum.sum,Ieee.Datum.product,Ieee.Datum.opposite]
theorem land_mask (x m:Nat) (hx:x < 2 ^ 64) (hm:m < 2 ^ 64):IntKind.u64.wrap (((BitVec.ofInt IntKind.u64.bits (x:Nat) &&& BitVec.ofInt IntKind.u64.bits (m:Nat)).toNat:Nat):Int) = ((x &&& m:Nat):Int):=by
 have hb:IntKind.u64.bits = 64:=rfl
 have h1:(BitVec.ofInt 64 ((x:Nat):Int)).toNat = x:=by simp;omega
 have h2:(BitVec.ofInt 64 ((m:Nat):Int)).toNat = m:=by simp;omega
 have h3:(BitVec.ofInt IntKind.u64.bits (x:Nat) &&& BitVec.ofInt IntKind.u64.bits (m:Nat)).toNat = x &&& m:=by
  show (BitVec.ofInt 64 ((x:Nat):Int) &&& BitVec.ofInt 64 ((m:Nat):Int)).toNat = x &&& m
  rw [BitVec.toNat_and,h1,h2]
 rw [h3]
 have:x &&& m < 2 ^ 64:=Nat.lt_of_le_of_lt Nat.and_le_left hx
 simp [IntKind.wrap,IntKind.signed,IntKind.bits]
 omega
theorem nan_mask1 {x:Nat} (h:IsNaN x):x < 2 ^ 64∧x &&& 9218868437227405312 = 9218868437227405312:=by
 obtain ⟨s,f,hs,h0,hf,rfl⟩:=h
 refine ⟨by omega, ?_⟩
 have e:s * 2 ^ 63 + 0x7ff0000000000000 + f = (s * 2 ^ 11 + 2047) * 2 ^ 52 + f:=by omega
 have em:9218868437227405312 = 2047 * 2 ^ 52:=by decide
 rw [e,em]
 apply Nat.eq_of_testBit_eq
 intro i
 rw [Nat.testBit_and,Nat.testBit_mul_two_pow,Nat.mul_comm,Nat.testBit_two_pow_mul_add _ hf]
 by_cases hi:i < 52
 ·have:¬ (52 ≤ i):=by omega
  simp [hi,this]
 ·have:52 ≤ i:=by omega
  simp only [hi,this,decide_true,Bool.true_and,if_false]
  have e47:(2047:Nat) = 2 ^ 11 - 1:=by decide
  rw [Nat.mul_comm,e47,Nat.testBit_two_pow_mul_add _ (by omega:2 ^ 11 - 1 < 2 ^ 11),Nat.testBit_two_pow_sub_one]
  by_cases h11:i - 52 < 11 <;> simp [h11]
theorem nan_mask2 {x:Nat} (h:IsNaN x):0 < x &&& 4503599627370495:=by
 obtain ⟨s,f,hs,h0,hf,rfl⟩:=h
 have e:s * 2 ^ 63 + 0x7ff0000000000000 + f = 2 ^ 52 * (s * 2 ^ 11 + 2047) + f:=by omega
 have em:4503599627370495 = 2 ^ 52 - 1:=by decide
 rw [e,em,Nat.and_two_pow_sub_one_eq_mod,Nat.mul_add_mod,Nat.mod_eq_of_lt hf]
 exact h0
def Quiet (w w':World):Prop:=w'.heap = w.heap∧w'.os = w.os∧w'.tape = w.tape∧w'.output = w.output
theorem Quiet.refl (w:World):Quiet w w:=⟨rfl,rfl,rfl,rfl⟩
section
variable {P:Program} {w:World}
theorem bin1 {op:BinOp} {t:TypeId} {X Y:Operand} {a b rv:Value} {s:AS} (hg:(match a with | .nilIface | .agg _=>false | _=>true) = true) (hr:(binOp op t a b).run P w = .ok rv w) (hv:∀ φ O w',VR φ O w' s rv) :
  ∃ rv w',((do eqGuard op t X Y a b;binOp op t a b):Sem Value).run P w = .ok rv w'∧Quiet w w'∧∀ φ O,VR φ O w' s rv :=
 ⟨rv,w,by rw [Sem.run_bind,eqGuard_other hg,Result.andThen_ok];exact hr,Quiet.refl w,fun φ O=>hv φ O w⟩
theorem ints_ok {op:BinOp} {t:TypeId} {k:IntKind} {x y:Int} {s:AS} (h:binI op k x y = some s) (h1:op ≠ .shl) (h2:op ≠ .shr) :
  ∃ rv,(binOp op t (.int k x) (.int k y)).run P w = .ok rv w∧∀ φ O w',VR φ O w' s rv:=by
 cases op <;> simp [binI,andI,orI,xorI,andNotI] at h <;> try contradiction
 all_goals first
  | (subst h;exact ⟨_,by simp [binOp,Op.intArith,Op.intBits,Op.intCmp];rfl,fun _ _ _=>by constructor⟩)
  | (obtain ⟨h0,h⟩:=h;subst h;exact ⟨_,by simp [binOp,Op.intDiv,h0];rfl,fun _ _ _=>by constructor⟩)
theorem shift_ok {op:BinOp} {t:TypeId} {k k':IntKind} {x y:Int} {s:AS} (h:shiftI op k x y = some s) (hop:op = .shl ∨ op = .shr) :
  ∃ rv,(binOp op t (.int k x) (.int k' y)).run P w = .ok rv w∧∀ φ O w',VR φ O w' s rv:=by
 rcases hop with rfl | rfl <;> simp [shiftI] at h <;> obtain ⟨h0,rfl⟩:=h
 ·exact ⟨.int k (k.wrap (x * 2 ^ min y.toNat k.bits)),by simp [binOp,Op.shift];omega,fun _ _ _=>.int _ _⟩
 ·exact ⟨.int k (x.fdiv (2 ^ min y.toNat k.bits)),by simp [binOp,Op.shift];omega,fun _ _ _=>.int _ _⟩
theorem strs_ok {op:BinOp} {t:TypeId} {x y:List UInt8} {s:AS} (h:strOp op x y = some s) :
  ∃ rv,(binOp op t (.string ⟨x.toArray⟩) (.string ⟨y.toArray⟩)).run P w = .ok rv w∧∀ φ O w',VR φ O w' s rv:=by
 have hs:∀ z:List UInt8,(ByteArray.mk z.toArray).size = z.length:=fun z=>by simp [ByteArray.size]
 cases op <;> simp [strOp] at h <;> try contradiction
 all_goals try subst h
 ·obtain ⟨hl,rfl⟩:=h
  refine ⟨.string ⟨(x++y).toArray⟩, ?_,fun _ _ _=>.str _⟩
  have e:ByteArray.mk x.toArray++ByteArray.mk y.toArray = ByteArray.mk (x++y).toArray:=by
   apply ByteArray.ext;simp [ByteArray.data_append]
  have hm:IntKind.i64.max = 9223372036854775807:=by decide
  have:¬ ((((ByteArray.mk x.toArray).size + (ByteArray.mk y.toArray).size:Nat):Int) > IntKind.i64.max):=by rw [hs,hs,hm];omega
  simp only [binOp,Op.stringOp,if_neg this,Sem.run_pure,e]
 all_goals exact ⟨_,by simp only [binOp,Op.stringOp,ByteArray.toList_mk,Sem.run_pure];rfl,fun _ _ _=>by first | constructor | (rw [← Bool.not_or];constructor)⟩
theorem floatCmp_ok {op:BinOp} {t:TypeId} {x y:Nat} {b:Bool} (h:fcmp op ((FloatKind.format .f64).order x y) = some b) :
  (binOp op t (.float .f64 x) (.float .f64 y)).run P w = .ok (.bool b) w:=by
 cases op <;> simp [fcmp] at h <;> try contradiction
 all_goals subst h;simp [binOp,Op.floatCmp]
theorem floatArith_ok {op:BinOp} {t:TypeId} {x y:Nat} (o:Option Nat)
  (h:(op = .add∧(FloatKind.format .f64).add x y = o) ∨ (op = .sub∧(FloatKind.format .f64).sub x y = o) ∨ (op = .mul∧(FloatKind.format .f64).mul x y = o)) :
  ∃ rv w',(binOp op t (.float .f64 x) (.float .f64 y)).run P w = .ok rv w'∧Quiet w w'∧∀ φ O,VR φ O w' (fres o) rv:=by
 cases o with
 | some r =>
  refine ⟨.float .f64 r,w, ?_,Quiet.refl w,fun _ _=>.flt r⟩
  rcases h with ⟨rfl,h⟩ | ⟨rfl,h⟩ | ⟨rfl,h⟩ <;> simp [binOp,Op.floatArith,h]
 | none =>
  refine ⟨.float .f64 (Question.cut (.nanBits .f64 x y) (w.tape w.drawn (.nanBits .f64 x y))),{ w with drawn:=w.drawn + 1 }, ?_,⟨rfl,rfl,rfl,rfl⟩,fun _ _=>.nan _ (nan_cut _ _ _)⟩
  rcases h with ⟨rfl,h⟩ | ⟨rfl,h⟩ | ⟨rfl,h⟩ <;> simp [binOp,Op.floatArith,h,choose,Sem.run,Question.forced]
theorem ford_inv {φ:Phi} {O:Nat→Prop} {a b:AS} {av bv:Value} {c:Option Ordering} (h:ford a b = some c) (ha:VR φ O w a av) (hb:VR φ O w b bv) :
  ∃ x y,av = .float .f64 x∧bv = .float .f64 y∧(FloatKind.format .f64).order x y = c∧∀ op s,farith op a b = some s→∃ o,s = fres o ∧
   ((op = .add∧(FloatKind.format .f64).add x y = o) ∨ (op = .sub∧(FloatKind.format .f64).sub x y = o) ∨ (op = .mul∧(FloatKind.format .f64).mul x y = o)):=by
 unfold ford at h
 split at h
 ·rename_i x y
  simp only [oqI] at h;subst h
  refine ⟨x,y,ha.flt_inv,hb.flt_inv,rfl,fun op s hs=>?_⟩
  cases op <;> simp [farith] at hs <;> subst hs <;> exact ⟨_,rfl,by simp⟩
 ·rename_i y
  simp only [oqI] at h;subst h
  obtain ⟨x,hx,rfl⟩:=ha.nan_inv
  refine ⟨x,y,rfl,hb.flt_inv,nan_order1 hx,fun op s hs=>?_⟩
  obtain ⟨h1,h2,h3⟩:=nan_sum1 (y:=y) hx
  cases op <;> simp [farith] at hs <;> subst hs <;> exact ⟨none,rfl,by simp [h1,h2,h3]⟩
 ·rename_i x
  simp only [oqI] at h;subst h
  obtain ⟨y,hy,rfl⟩:=hb.nan_inv
  refine ⟨x,y,ha.flt_inv,rfl,nan_order2 hy,fun op s hs=>?_⟩
  obtain ⟨h1,h2,h3⟩:=nan_sum2 (x:=x) hy
  cases op <;> simp [farith] at hs <;> subst hs <;> exact ⟨none,rfl,by simp [h1,h2,h3]⟩
 ·simp only [oqI] at h;subst h
  obtain ⟨x,hx,rfl⟩:=ha.nan_inv
  obtain ⟨y,hy,rfl⟩:=hb.nan_inv
  refine ⟨x,y,rfl,rfl,nan_order1 hx,fun op s hs=>?_⟩
  obtain ⟨h1,h2,h3⟩:=nan_sum1 (y:=y) hx
  cases op <;> simp [farith] at hs <;> subst hs <;> exact ⟨none,rfl,by simp [h1,h2,h3]⟩
 ·cases h
theorem equalA_ok {φ:Phi} {O:Nat→Prop} {t:TypeId} {a b:AS} {av bv:Value} {r:Bool} (h:equalA P t (.one a) (.one b) = some r) (ha:VR φ O w a av) (hb:VR φ O w b bv) :
  (Op.equal t av bv).run P w = .ok r w∧sideV av = true:=by
 simp only [equalA,oqE,oqB] at h
 obtain ⟨d,hd,h⟩:=h
 split at h <;> try (cases h;done)
 all_goals simp only [oqI,AV.one.injEq] at *
 all_goals subst_vars
 all_goals
  refine (fun (k:∀ d,(Op.equalIn (d + 1) t av bv).run P w = .ok _ w) q=>⟨k 9999,q⟩) ?_ ?_
  ·intro d;cases ha <;> cases hb <;> simp [Op.equalIn,run_underlying hd]
  ·cases ha <;> rfl
theorem bin_ok {cmp:Nat→Option (List AS)} (hC:∀ t z,cmp t = some z→CmpT P t z) {φ:Phi} {O:Nat→Prop} {op:BinOp} {t:TypeId} {x y:AV} {xv yv:Value} {s:AS} (hx:AVR φ O w x xv) (hy:AVR φ O w y yv)
  (hb:bin P cmp op t x y = some s) (X Y:Operand) :
  ∃ rv w',((do eqGuard op t X Y xv yv;binOp op t xv yv):Sem Value).run P w = .ok rv w'∧Quiet w w'∧∀ φ O,VR φ O w' s rv:=by
 unfold bin at hb
 split at hb
 ·rename_i k a k' b
  have e1:=hx.one_inv.int_inv;subst e1
  have e2:=hy.one_inv.int_inv;subst e2
  by_cases hs:op = .shl ∨ op = .shr
  ·have hb':shiftI op k a b = some s:=by rcases hs with rfl | rfl <;> exact hb
   obtain ⟨rv,h1,h2⟩:=shift_ok (P:=P) (w:=w) (t:=t) (k':=k') hb' hs
   exact bin1 rfl h1 h2
  ·have hb':(if k = k' then binI op k a b else none) = some s:=by
    cases op <;> first | exact hb | (exact absurd (.inl rfl) hs) | (exact absurd (.inr rfl) hs)
   split at hb'
   ·rename_i hk;subst hk
    obtain ⟨rv,h1,h2⟩:=ints_ok (P:=P) (w:=w) (t:=t) hb' (fun h=>hs (.inl h)) (fun h=>hs (.inr h))
    exact bin1 rfl h1 h2
   ·cases hb'
 ·rename_i a b
  have e1:=hx.one_inv.str_inv;subst e1
  have e2:=hy.one_inv.str_inv;subst e2
  obtain ⟨rv,h1,h2⟩:=strs_ok (P:=P) (w:=w) (t:=t) hb
  exact bin1 rfl h1 h2
 ·rename_i m
  obtain ⟨x,hn,e1⟩:=hx.one_inv.nanb_inv;subst e1
  have e2:=hy.one_inv.int_inv;subst e2
  split at hb
  ·rename_i hm;obtain ⟨rfl,rfl⟩:=hm
   simp only [oqI] at hb;subst hb
   refine bin1 rfl (rv:=.int .u64 9218868437227405312) ?_ fun _ _ _=>.int _ _
   have:=land_mask x 9218868437227405312 (nan_mask1 hn).1 (by decide)
   rw [(nan_mask1 hn).2] at this
   simpa [binOp,Op.intBits] using this
  ·split at hb
   ·rename_i hm;obtain ⟨rfl,rfl⟩:=hm
    simp only [oqI] at hb;subst hb
    refine bin1 rfl (rv:=.int .u64 ((x &&& 4503599627370495:Nat):Int)) ?_ fun _ _ _=>.nanf _ (nan_mask2 hn)
    have:=land_mask x 4503599627370495 (nan_mask1 hn).1 (by decide)
    simpa [binOp,Op.intBits] using this
   ·cases hb
 ·rename_i m
  obtain ⟨x,hn,e1⟩:=hx.one_inv.nanf_inv;subst e1
  have e2:=hy.one_inv.int_inv;subst e2
  split at hb
  ·rename_i hm;subst hm
   split at hb
   ·simp only [oqI] at hb;subst hb
    refine bin1 rfl (rv:=.bool true) ?_ fun _ _ _=>.bool _
    simp [binOp,Op.intCmp];omega
   ·simp only [oqI] at hb;subst hb
    refine bin1 rfl (rv:=.bool false) ?_ fun _ _ _=>.bool _
    simp [binOp,Op.intCmp];omega
   ·cases hb
  ·cases hb
 ·rename_i a b
  obtain ⟨xs,hxs,e1⟩:=hx.agg_inv;subst e1
  obtain ⟨ys,hys,e2⟩:=hy.agg_inv;subst e2
  split at hb
  ·rename_i z hz
   split at hb
   ·rename_i hk
    simp only [Bool.and_eq_true] at hk
    have C:=hC t z hz
    split at hb <;> try (cases hb;done)
    all_goals
     simp only [oqE,oqB,oqI] at hb
     obtain ⟨r,hr,rfl⟩:=hb
     have:=C.eq w φ O a b xs ys r hxs hys hk.1 hk.2 hr
     refine ⟨_,w, ?_,Quiet.refl w,fun _ _=>.bool _⟩
     simp [eqGuard,C.guard,binOp,this]
   ·cases hb
  ·cases hb
 ·rename_i a b _ _ _ _
  split at hb
  ·rename_i c hc
   obtain ⟨x,y,e1,e2,ho,hf⟩:=ford_inv hc hx.one_inv hy.one_inv
   subst e1;subst e2
   have hg:(eqGuard op t X Y (.float .f64 x) (.float .f64 y)).run P w = .ok () w:=eqGuard_other rfl
   by_cases har:op = .add ∨ op = .sub ∨ op = .mul
   ·have hb':farith op a b = some s:=by rcases har with rfl | rfl | rfl <;> exact hb
    obtain ⟨o,rfl,h3⟩:=hf op s hb'
    obtain ⟨rv,w',h4,h5,h6⟩:=floatArith_ok (P:=P) (w:=w) (t:=t) o h3
    exact ⟨rv,w',by rw [Sem.run_bind,hg,Result.andThen_ok];exact h4,h5,h6⟩
   ·have hb':(do some (AS.bool (← fcmp op c)):Option AS) = some s:=by
     cases op <;> first | exact hb | (exact absurd (by simp) har)
    simp only [oqE,oqB,oqI] at hb'
    obtain ⟨b',hb',rfl⟩:=hb'
    refine bin1 rfl (floatCmp_ok (by rw [ho];exact hb')) fun _ _ _=>.bool _
  ·split at hb <;> try (cases hb;done)
   all_goals
    simp only [oqE,oqB,oqI] at hb
    obtain ⟨r,hr,rfl⟩:=hb
    obtain ⟨h1,h2⟩:=equalA_ok (P:=P) (w:=w) hr hx.one_inv hy.one_inv
    refine bin1 (by clear h1 hx;cases xv <;> first | rfl | simp [sideV] at h2) (rv:=.bool _) ?_ fun _ _ _=>.bool _
    clear hx;cases xv <;> simp [sideV] at h2 <;> simp [binOp,h1]
 ·cases hb
theorem un_ok {φ:Phi} {O:Nat→Prop} {op:UnOp} {x:AV} {xv:Value} {s:AS} (hx:AVR φ O w x xv) (hu:un op x = some s) :
  ∃ rv,(Op.unary op xv).run P w = .ok rv w∧∀ φ O w',VR φ O w' s rv:=by
 unfold un at hu
 split at hu <;> simp only [oqI,reduceCtorEq] at hu <;> subst hu
 ·have e:=hx.one_inv.int_inv;subst e
  exact ⟨_,by simp [Op.unary,Op.intArith];rfl,fun _ _ _=>by first | exact .int _ _ | (simp;exact .int _ _)⟩
 ·have e:=hx.one_inv.int_inv;subst e
  exact ⟨_,by simp only [Op.unary,Op.intBits,notI,Sem.run_pure],fun _ _ _=>.int _ _⟩
 ·have e:=hx.one_inv.flt_inv;subst e
  exact ⟨_,by simp only [Op.unary,Sem.run_pure],fun _ _ _=>.flt _⟩
 ·have e:=hx.one_inv.bool_inv;subst e
  exact ⟨_,by simp only [Op.unary,Sem.run_pure],fun _ _ _=>.bool _⟩
end
section
variable {P:Program} {cmp:Nat→Option (List AS)} {φ:Phi} {h:H} {w:World} {fr:Fr} {a:Act} {r:OR} {o:Oper}
theorem OpR.quiet (R:Rel φ h w) {w':World} (q:Quiet w w') {s:AS} {cv:Value} (hv:VR φ (Nf φ) w' s cv):OpR P φ h w (one s h) (.ok (.value cv) w'):=by
 obtain ⟨R',G⟩:=rel_same R q.1 q.2.1 q.2.2.1 q.2.2.2
 exact ⟨cv,w',φ,rfl,.one _ _ hv,R',G⟩
theorem op_binOp (hC:∀ t z,cmp t = some z→CmpT P t z) (R:Rel φ h w) (hf:AVL φ (Nf φ) w fr a.tmps.toList) {op:BinOp} {t u:Nat} {x y:Operand} (ho:o.op = .binOp op t x y u) (hr:opA P cmp fr h o = some r) :
  OpR P φ h w r ((execOp a.eval o).run P w):=by
 simp only [opA,ho,oqE,oqB,oqI] at hr
 obtain ⟨x',hx,y',hy,s,hs,rfl⟩:=hr
 obtain ⟨rv,w',h1,h2,h3⟩:=bin_ok hC (ev_ok hf hx) (ev_ok hf hy) hs x y
 have:(execOp a.eval o).run P w = .ok (.value rv) w':=by
  simp only [execOp,ho]
  rw [Sem.run_bind,h1,Result.andThen_ok,Sem.run_pure]
 rw [this]
 exact OpR.quiet R h2 (h3 _ _)
theorem op_unOp (R:Rel φ h w) (hf:AVL φ (Nf φ) w fr a.tmps.toList) {op:UnOp} {t:Nat} {x:Operand} (ho:o.op = .unOp op t x) (hr:opA P cmp fr h o = some r) :
  OpR P φ h w r ((execOp a.eval o).run P w):=by
 simp only [opA,ho,oqE,oqB,oqI] at hr
 obtain ⟨x',hx,s,hs,rfl⟩:=hr
 obtain ⟨rv,h1,h2⟩:=un_ok (P:=P) (w:=w) (ev_ok hf hx) hs
 have:(execOp a.eval o).run P w = .ok (.value rv) w:=by
  simp only [execOp,ho]
  rw [Sem.run_bind,h1,Result.andThen_ok,Sem.run_pure]
 rw [this]
 exact OpR.same1 R (h2 _ _ _)
end
end Go.Ab
namespace Go.Ab
theorem firstCells_any (P:Program) (w2:World) (a:Addr) (n k cap size:Nat) (vs:List Value) (hl:vs.length = n * size) (hs:0 < n * size→a.spot = none)
  (h:∀ j v,vs[j]? = some v→w2.cell? ⟨a.block,a.off + j,none⟩ = some v):(Builtin.firstCells size n (.slice (some a) k cap)).run P w2 = .ok vs.toArray w2:=by
 by_cases h0:n * size = 0
 ·have:vs = []:=List.eq_nil_of_length_eq_zero (by omega)
  subst this
  simp [Builtin.firstCells,loadCells,loadCellsFrom,h0]
 ·obtain ⟨b,o,s⟩:=a
  have hs0:s = none:=hs (by omega)
  subst hs0
  have:=run_loadCells_at P w2 b o vs h
  rw [hl] at this
  simpa [Builtin.firstCells] using this
section
variable {P:Program} {φ:Phi} {h:H} {w:World}
theorem bytes_ok {O:Nat→Prop}:∀ (s:List UInt8),VRL φ O w (s.map byteS) (s.map fun b=>Value.int .u8 b.toNat)
 | []=>.nil
 | b::s=>.cons _ _ _ _ (.int _ _) (bytes_ok s)
theorem elems_ok (R:Rel φ h w) {x:AS} {xv:Value} {N n size:Nat} {l:List AS} (hx:VR φ (Nf φ) w x xv) (hN:lenS x = some N) (he:elemsOf h size n x = some l) :
  ∃ us,VRL φ (Nf φ) w l us∧(∀ w2:World,(Builtin.lenOf xv).run P w2 = .ok N w2)∧(∀ w2:World,w2.heap = w.heap→(Builtin.firstCells size n xv).run P w2 = .ok us.toArray w2):=by
 cases hx with
 | str s =>
  simp only [elemsOf] at he
  split at he
  ·rename_i hle
   simp only [oqI] at he hN
   simp only [lenS,oqI] at hN
   subst he;subst hN
   refine ⟨_,bytes_ok _,fun w2=>by simp [Builtin.lenOf,ByteArray.size],fun w2 _=>?_⟩
   simp only [Builtin.firstCells,Sem.run_pure]
   congr 1
   apply Array.toList_inj.1
   simp [ByteArray.data_extract,List.extract_eq_drop_take']
  ·cases he
 | nilslc =>
  simp only [elemsOf] at he
  split at he
  ·simp only [oqI] at he
   simp only [lenS,oqI] at hN
   subst he;subst hN
   exact ⟨[],.nil,fun w2=>by simp [Builtin.lenOf],fun w2 _=>by simp [Builtin.firstCells]⟩
  ·cases he
 | slc b v o k s c L a cap hφ hs ha hk hc hx =>
  simp only [elemsOf] at he
  split at he
  ·rename_i hc2
   obtain ⟨rfl,hle⟩:=hc2
   simp only [lenS,oqI] at hN;subst hN
   obtain ⟨b',q,vs,e,hvs,hlen,hcell⟩:=read_ok R (VR.ptr b v o L hφ) he
   simp only [Value.pointer.injEq,oqI,Addr.mk.injEq,and_true] at e
   obtain ⟨rfl,rfl⟩:=e
   refine ⟨vs,hvs,fun w2=>by simp [Builtin.lenOf],fun w2 hw=>?_⟩
   by_cases h0:n = 0
   ·subst h0
    refine firstCells_any P w2 a 0 k cap s vs hlen (by simp) fun j v hj=>?_
    have:vs = []:=List.eq_nil_of_length_eq_zero (by omega)
    subst this;simp at hj
   ·have ha':=ha (by omega)
    subst ha'
    exact firstCells_any P w2 _ n k cap s vs hlen (fun _=>rfl) fun j v hj=>by
     have:=hcell j v hj
     simp only [World.cell?] at this ⊢
     rw [hw];exact this
  ·cases he
 | vs k s cells blk base cap spot ws hk hs hlen hO hb hsp hv hcell =>
  simp only [elemsOf] at he
  split at he
  ·rename_i hc2
   obtain ⟨rfl,hle⟩:=hc2
   simp only [lenS,oqI] at hN;subst hN
   obtain ⟨h1,h2⟩:=hv.of_sub he
   refine ⟨_,h1,fun w2=>by simp [Builtin.lenOf],fun w2 hw=>?_⟩
   refine firstCells_any P w2 _ n k cap s _ (by rw [← h1.length,h2]) (fun h0=>hsp ?_) fun j v hj=>?_
   ·have:0 < n:=Nat.pos_of_ne_zero fun e=>by simp [e] at h0
    omega
   ·simp only [List.drop_zero,List.getElem?_take] at hj
    split at hj
    ·have:=hcell j v hj
     simp only [World.cell?] at this ⊢
     rw [hw];exact this
    ·cases hj
  ·cases he
 | _=>simp [elemsOf] at he
def repV (z:List Value):Nat→List Value
 | 0=>[]
 | n + 1=>z++repV z n
theorem rep_ok {O:Nat→Prop} {z:List AS} {zs:List Value} (hz:VRL φ O w z zs):∀ n,VRL φ O w (repL z n) (repV zs n)
 | 0=>.nil
 | n + 1=>hz.append (rep_ok hz n)
theorem repV_length (z:List Value):∀ n,(repV z n).length = n * z.length
 | 0=>by simp [repV]
 | n + 1=>by simp [repV,repV_length z n,Nat.succ_mul,Nat.add_comm]
theorem repL_length (z:List AS):∀ n,(repL z n).length = n * z.length
 | 0=>by simp [repL]
 | n + 1=>by simp [repL,repL_length z n,Nat.succ_mul,Nat.add_comm]
theorem repV_get (z:List Value):∀ (n i:Nat),i < n * z.length→(repV z n)[i]? = z[i % z.length]?
 | 0,i,h=>by simp at h
 | n + 1,i,h=>by
  simp only [repV]
  by_cases hi:i < z.length
  ·rw [List.getElem?_append_left hi,Nat.mod_eq_of_lt hi]
  ·have hle:z.length ≤ i:=by omega
   rw [List.getElem?_append_right hle,repV_get z n (i - z.length) (by rw [Nat.succ_mul] at h;omega)]
   congr 1
   exact (Nat.mod_eq_sub_mod hle).symm
theorem zeros_eq (z:Array Value) (n:Nat) (hz:0 < z.size):((Array.range (n * z.size)).map fun i=>z[i % z.size]!) = (repV z.toList n).toArray:=by
 apply Array.ext
 ·simp [repV_length]
 ·intro i h1 h2
  have h1':i < n * z.size:=by simpa using h1
  have hm:i % z.size < z.size:=Nat.mod_lt _ hz
  have e:=repV_get z.toList n i (by simpa using h1')
  have e2:z.toList[i % z.toList.length]? = some z[i % z.size]:=by simp [hm]
  rw [e2] at e
  obtain ⟨_,e3⟩:=List.getElem?_eq_some_iff.1 e
  simp only [Array.getElem_map,Array.getElem_range,List.getElem_toArray]
  rw [e3]
  exact getElem!_pos z _ hm
theorem zeroCells_eq (z:Array Value) (n:Nat) (hz:0 < z.size):Builtin.zeroCells z n = (repV z.toList n).toArray:=zeros_eq z n hz
theorem zero_ok {O:Nat→Prop} {el:TypeId} {z:List AS} (hz:zeroT P el = some z):∃ i zv,P.info? el = some i∧i.zero = some zv∧VRL φ O w z zv.cells.toList∧z.length = zv.cells.size:=by
 obtain ⟨i,zv,hi,hzv,hl⟩:=zeroT_info hz
 have:=constL_ok (φ:=φ) (O:=O) (w:=w) hl
 exact ⟨i,zv,hi,hzv,this,by rw [this.length];simp⟩
theorem wrap_small {n:Nat} (hn:n ≤ 17592186044416):IntKind.i64.wrap (n:Int) = (n:Int):=by
 simp [IntKind.wrap,IntKind.signed,IntKind.bits];omega
theorem natOf_inv {O:Nat→Prop} {x:AS} {xv:Value} {n:Nat} (h:natOf x = some n) (hx:VR φ O w x xv):∃ k,xv = .int k (n:Int):=by
 simp only [natOf,oqE,oqB] at h
 obtain ⟨z,hz,h⟩:=h
 split at h
 ·rename_i h0
  simp only [oqI] at h;subst h
  cases x <;> simp [intOf] at hz
  subst hz
  exact ⟨_,by rw [hx.int_inv,Int.toNat_of_nonneg h0]⟩
 ·cases h
end
section
variable {P:Program} {cmp:Nat→Option (List AS)} {φ:Phi} {h:H} {w:World} {fr:Fr} {a:Act} {r:OR} {o:Oper}
theorem op_makeSlice (R:Rel φ h w) (hf:AVL φ (Nf φ) w fr a.tmps.toList) {t:Nat} {x y:Operand} (ho:o.op = .makeSlice t x y) (hr:opA P cmp fr h o = some r) :
  OpR P φ h w r ((execOp a.eval o).run P w):=by
 simp only [opA,ho,oqE,oqB,oqI] at hr
 obtain ⟨el,hel,size,hsize,bytes,hbytes,z,hz,x',hx,n,hn,y',hy,m,hm,hr⟩:=hr
 split at hr
 ·rename_i hc
  obtain ⟨hnm,hlim,hzl,hs0⟩:=hc
  simp only [oqI] at hr;subst hr
  obtain ⟨kx,ex⟩:=natOf_inv hn (evS_ok hf hx)
  obtain ⟨ky,ey⟩:=natOf_inv hm (evS_ok hf hy)
  obtain ⟨i,zv,hi,hzv,hzs,hzl2⟩:=zero_ok (φ:=φ) (O:=Nf φ) (w:=w) hz
  have hsi:i.size = size:=by obtain ⟨j,hj,e⟩:=sizeT_info hsize;rw [hi] at hj;cases hj;exact e
  have hbi:i.bytes = bytes:=by simp only [bytesT,hi,oqE,oqS,oqI] at hbytes;exact hbytes
  simp only [limit] at hlim
  have hzsz:zv.cells.size = size:=by omega
  have hmb:m * bytes ≤ 17592186044416:=by omega
  obtain ⟨φ',R',G,hφ⟩:=row_ok R (rep_ok hzs m) el
  have hlen:(repL z m).length = m * size:=by rw [repL_length,hzl]
  have hrun:(execOp a.eval o).run P w = .ok (.value (.slice (some ⟨w.heap.size,0,none⟩) n m)) (w.alloc (.cells (repV zv.cells.toList m).toArray el)):=by
   have e1:IntKind.i64.wrap (n:Int) = (n:Int):=wrap_small (by omega)
   have e2:IntKind.i64.wrap (m:Int) = (m:Int):=wrap_small (by omega)
   have e3:¬ ((281474976710656:Int) < (bytes:Int) * (m:Int)):=by
    have h1:((bytes * m:Nat):Int) ≤ ((17592186044416:Nat):Int):=Int.ofNat_le.2 (by rw [Nat.mul_comm];exact hmb)
    rw [Int.natCast_mul] at h1;omega
   have e4:¬ ((m:Int) < (n:Int)):=by omega
   have e5:¬ (140737488355328 < m * bytes):=by omega
   have e6:¬ ((m:Int) < 0):=by omega
   have e7:¬ ((n:Int) < 0):=by omega
   by_cases hm0:m = 0
   ·subst hm0
    have hn0:n = 0:=by omega
    subst hn0
    simp [execOp,ho,Instr.makeSlice,run_underlying (elemT_run hel),ex,ey,asInt,asIntOf,typeInfo,hi,hbi,show IntKind.i64.wrap 0 = 0 from rfl,askRoom,roomBytes,sizeOf,newRow,repV]
    congr 2
    exact Array.eq_empty_of_size_eq_zero (by simp)
   ·have e8:¬ (m * size = 0):=by have:=Nat.mul_pos (Nat.pos_of_ne_zero hm0) hs0;omega
    have e9:=zeros_eq zv.cells m (by omega)
    rw [hzsz] at e9
    simp [execOp,ho,Instr.makeSlice,run_underlying (elemT_run hel),ex,ey,asInt,asIntOf,typeInfo,hi,hbi,hsi,e1,e2,e3,e4,e5,e6,e7,e8,hm0,askRoom,roomBytes,sizeOf,zeroValue,hzv,newRow,hzsz,e9]
  rw [hrun]
  refine ⟨_,_,φ',rfl,.one _ _ ?_,R',G⟩
  refine .slc _ _ _ _ _ _ _ _ _ hφ hs0 (fun _=>by simp) hnm ?_ ?_
  ·simp [hlen]
  ·simp [hlen];exact Nat.mul_le_mul_right _ hnm
 ·cases hr
theorem evO_ok (hf:AVL φ (Nf φ) w fr a.tmps.toList) {x:Option Operand} {v:Option AV} (hx:evO fr x = some v) {d n:Nat} (hb:bound d v = some n) :
  (x.map a.eval = none∧v = none∧n = d) ∨ ∃ k,x.map a.eval = some (.int k (n:Int))∧v.isSome:=by
 cases x with
 | none =>
  simp only [evO,oqI] at hx;subst hx
  simp only [bound,oqI] at hb
  exact .inl ⟨rfl,rfl,hb.symm⟩
 | some x =>
  simp only [evO,oqE,oqB,oqI] at hx
  obtain ⟨u,hu,rfl⟩:=hx
  cases u <;> simp only [bound,reduceCtorEq] at hb
  obtain ⟨k,hk⟩:=natOf_inv hb (ev_ok hf hu).one_inv
  exact .inr ⟨k,by simp [hk],rfl⟩
theorem sliceBounds_run (b:Bool) (len cap l u m:Nat) (lo hi mx:Option Value) (hm:(mx = none∧m = cap) ∨ ∃ k,mx = some (.int k (m:Int))) (hu:(hi = none∧mx = none∧u = len) ∨ ∃ k,hi = some (.int k (u:Int)))
  (hl:(lo = none∧l = 0) ∨ ∃ k,lo = some (.int k (l:Int))) (h1:m ≤ cap) (h2:hi = none ∨ u ≤ m) (h3:l ≤ u):(Instr.sliceBounds b len cap lo hi mx).run P w = .ok (l,u,m) w:=by
 have e:∀ (k:IntKind) (i y:Nat) (c:BoundsCode),i ≤ y→(Instr.sliceBound (.int k (i:Int)) y c).run P w = .ok i w:=by
  intro k i y c hi
  have:(0:Int) ≤ (i:Int)∧(i:Int) ≤ (y:Int):=by omega
  simp [Instr.sliceBound,asIntOf]
  omega
 rcases hm with ⟨rfl,rfl⟩ | ⟨km,rfl⟩
 ·rcases hu with ⟨rfl,_,rfl⟩ | ⟨ku,rfl⟩
  ·rcases hl with ⟨rfl,rfl⟩ | ⟨kl,rfl⟩
   ·simp [Instr.sliceBounds]
   ·simp [Instr.sliceBounds,e _ _ _ _ h3]
  ·have h2':u ≤ m:=by rcases h2 with h2 | h2;cases h2;exact h2
   rcases hl with ⟨rfl,rfl⟩ | ⟨kl,rfl⟩
   ·simp [Instr.sliceBounds,e _ _ _ _ h2']
   ·simp [Instr.sliceBounds,e _ _ _ _ h2',e _ _ _ _ h3]
 ·rcases hu with ⟨_,h,_⟩ | ⟨ku,rfl⟩
  ·cases h
  ·have h2':u ≤ m:=by rcases h2 with h2 | h2;cases h2;exact h2
   rcases hl with ⟨rfl,rfl⟩ | ⟨kl,rfl⟩
   ·simp [Instr.sliceBounds,e _ _ _ _ h1,e _ _ _ _ h2']
   ·simp [Instr.sliceBounds,e _ _ _ _ h1,e _ _ _ _ h2',e _ _ _ _ h3]
theorem sliceAt_run {t u:TypeId} {size:Nat} (ht:P.underlying t = some (.slice u)) (hs:sizeT P u = some size) (base:Option Addr) (len cap l v m:Nat) (lo hi mx:Option Value)
  (hb:(Instr.sliceBounds true len cap lo hi mx).run P w = .ok (l,v,m) w) :
  (Instr.sliceAt t (.slice base len cap) lo hi mx).run P w = .ok (.slice (if m = l then base else base.map (·.add (l * size))) (v - l) (m - l)) w:=by
 simp [Instr.sliceAt,Instr.slice,run_underlying ht,hb,sizeT_run hs]
theorem op_slice (R:Rel φ h w) (hf:AVL φ (Nf φ) w fr a.tmps.toList) {t:Nat} {x:Operand} {lo hi mx:Option Operand} (ho:o.op = .slice t x lo hi mx) (hr:opA P cmp fr h o = some r) :
  OpR P φ h w r ((execOp a.eval o).run P w):=by
 simp only [opA,ho,oqE,oqB,oqI] at hr
 obtain ⟨x',hx,size,hsize,hr⟩:=hr
 split at hr
 ·cases hr
 rename_i hmh
 simp only [oqB,oqI] at hr
 obtain ⟨lo',hlo,hi',hhi,mx',hmx,s,hs,rfl⟩:=hr
 have h1:=evS_ok hf hx
 have hexec:∀ rv,(Instr.sliceAt t (a.eval x) (lo.map a.eval) (hi.map a.eval) (mx.map a.eval)).run P w = .ok rv w→VR φ (Nf φ) w s rv→OpR P φ h w (one s h) ((execOp a.eval o).run P w):=by
  intro rv he hv
  have:(execOp a.eval o).run P w = .ok (.value rv) w:=by
   simp only [execOp,ho]
   rw [Sem.run_bind,he,Result.andThen_ok,Sem.run_pure]
  rw [this]
  exact OpR.same1 R hv
 simp only [sliceSize,oqE,oqB] at hsize
 obtain ⟨d,hd,hsize⟩:=hsize
 have hM:∀ m cap,bound cap mx' = some m→(mx.map a.eval = none∧m = cap) ∨ ∃ k,mx.map a.eval = some (.int k (m:Int)):=fun m cap hb=>by
  rcases evO_ok hf hmx hb with ⟨e,_,e2⟩ | ⟨k,e,_⟩
  ·exact .inl ⟨e,e2⟩
  ·exact .inr ⟨k,e⟩
 have hL:∀ l,bound 0 lo' = some l→(lo.map a.eval = none∧l = 0) ∨ ∃ k,lo.map a.eval = some (.int k (l:Int)):=fun m hb=>by
  rcases evO_ok hf hlo hb with ⟨e,_,e2⟩ | ⟨k,e,_⟩
  ·exact .inl ⟨e,e2⟩
  ·exact .inr ⟨k,e⟩
 have hmn:mx' = none→mx.map a.eval = none:=fun e=>by
  subst e;cases mx with
  | none=>rfl
  | some q=>simp [evO,oqB] at hmx
 have hH:∀ n u,bound n hi' = some u→(hi.map a.eval = none∧mx.map a.eval = none∧u = n) ∨ ∃ k,hi.map a.eval = some (.int k (u:Int)):=fun n u hb=>by
  rcases evO_ok hf hhi hb with ⟨e,e3,e2⟩ | ⟨k,e,_⟩
  ·refine .inl ⟨e, ?_,e2⟩
   cases hi with
   | none=>cases mx <;> simp_all
   | some q=>simp at e
  ·exact .inr ⟨k,e⟩
 generalize hcv:a.eval x = cv at h1 hexec
 cases h1 with
 | str q =>
  have hdd:d = .string∧size = 1:=by
   cases d <;> simp at hsize
   exact ⟨rfl,hsize.symm⟩
  obtain ⟨rfl,rfl⟩:=hdd
  simp only [sliceA] at hs
  split at hs
  ·cases hs
  rename_i hmx0
  have hmx1:mx' = none:=by cases mx' <;> simp_all
  simp only [oqE,oqB] at hs
  obtain ⟨l,hl,u,hu,hs⟩:=hs
  split at hs
  ·rename_i hle
   simp only [oqI] at hs;subst hs
   refine hexec (.string ⟨((q.drop l).take (u - l)).toArray⟩) ?_ (.str _)
   have hb:=sliceBounds_run (P:=P) (w:=w) false q.length q.length l u q.length (lo.map a.eval) (hi.map a.eval) none (.inl ⟨rfl,rfl⟩) ((hH _ _ hu).imp (fun ⟨e,_,e2⟩=>⟨e,rfl,e2⟩) id) (hL _ hl) (Nat.le_refl _) (.inr hle.2) hle.1
   have hq:(ByteArray.mk q.toArray).size = q.length:=by simp [ByteArray.size]
   have hx:(ByteArray.mk q.toArray).extract l u = ⟨((q.drop l).take (u - l)).toArray⟩:=by
    apply ByteArray.ext
    simp [ByteArray.data_extract,List.extract_eq_drop_take']
   rw [hmn hmx1]
   simp [Instr.sliceAt,Instr.slice,run_underlying hd,hq,hb,hx]
  ·cases hs
 | nilslc =>
  have hdd:∃ u,d = .slice u∧sizeT P u = some size:=by
   cases d <;> simp at hsize
   exact ⟨_,rfl,hsize⟩
  obtain ⟨el,rfl,hsz⟩:=hdd
  simp only [sliceA,oqE,oqB] at hs
  obtain ⟨l,hl,u,hu,m,hm,hs⟩:=hs
  split at hs
  ·rename_i hle
   obtain ⟨rfl,rfl,rfl⟩:=hle
   simp only [oqI] at hs;subst hs
   refine hexec (.slice none 0 0) ?_ .nilslc
   have hb:=sliceBounds_run (P:=P) (w:=w) true 0 0 0 0 0 (lo.map a.eval) (hi.map a.eval) (mx.map a.eval) (hM _ _ hm) (hH _ _ hu) (hL _ hl) (Nat.le_refl _) (.inr (Nat.le_refl _)) (Nat.le_refl _)
   rw [sliceAt_run hd hsz none 0 0 0 0 0 _ _ _ hb];simp
  ·cases hs
 | slc b v q0 n s' c L A cap hφ hs0 hA hn hcap hext =>
  have hdd:∃ u,d = .slice u∧sizeT P u = some size:=by
   cases d <;> simp at hsize
   exact ⟨_,rfl,hsize⟩
  obtain ⟨el,rfl,hsz⟩:=hdd
  simp only [sliceA] at hs
  split at hs
  ·cases hs
  rename_i hss
  have hss:s' = size:=by
   rcases Nat.decEq s' size with h | h
   ·exact absurd (.inl h) hss
   ·exact h
  subst hss
  simp only [oqE,oqB] at hs
  obtain ⟨l,hl,u,hu,hs⟩:=hs
  split at hs
  ·cases hs
  rename_i hlu
  have hlu:l ≤ u:=by omega
  have key:∀ m c',(Instr.sliceBounds true n cap (lo.map a.eval) (hi.map a.eval) (mx.map a.eval)).run P w = .ok (l,u,m) w→u ≤ m→m ≤ cap→q0 + u * s' ≤ L.ext →
    (match c' with | none=>q0 + m * s' = L.lim | some cc=>m = cc + l∧q0 + m * s' ≤ L.lim)→s = .slc b v (q0 + l * s') (u - l) s' c'→OpR P φ h w (one s h) ((execOp a.eval o).run P w):=by
   intro m c' hb hum hmc hue hc' hse
   subst hse
   refine hexec _ (sliceAt_run hd hsz (some A) n cap l u m _ _ _ hb) ?_
   have hml:l ≤ m:=Nat.le_trans hlu hum
   have e1:∀ x,l ≤ x→l * s' + (x - l) * s' = x * s':=fun x hx=>by rw [← Nat.add_mul];congr 1;omega
   rw [show (if m = l then some A else Option.map (·.add (l * s')) (some A)) = some (if m = l then A else A.add (l * s')) by split <;> rfl]
   refine .slc b v _ _ s' c' L _ (m - l) hφ hs0 (fun h0=>?_) (by omega) ?_ ?_
   ·rw [if_neg (by omega),hA (by omega),add_none,Nat.add_assoc]
   ·cases c' with
    | none=>simp only at hc' ⊢;rw [Nat.add_assoc,e1 m hml];exact hc'
    | some cc =>
     simp only at hc' ⊢
     obtain ⟨h1,h2⟩:=hc'
     refine ⟨by omega, ?_⟩
     have:cc = m - l:=by omega
     rw [this,Nat.add_assoc,e1 m hml];exact h2
   ·rw [Nat.add_assoc,e1 u hlu];exact hue
  have hmul:∀ x y,x ≤ y→q0 + x * s' ≤ q0 + y * s':=fun x y h=>Nat.add_le_add_left (Nat.mul_le_mul_right _ h) _
  have hnl:q0 + n * s' ≤ L.lim:=by
   cases c with
   | none=>simp only at hcap;have:=hmul n cap hn;omega
   | some cc=>simp only at hcap;obtain ⟨rfl,h2⟩:=hcap;have:=hmul n cap hn;omega
  split at hs
  ·rename_i m0
   simp only [oqB] at hs
   obtain ⟨m,hm,hs⟩:=hs
   split at hs
   ·rename_i hum
    simp only [oqI] at hs
    have hb:=sliceBounds_run (P:=P) (w:=w) true n cap l u m (lo.map a.eval) (hi.map a.eval) (mx.map a.eval) (hM m cap (by cases m0 <;> simpa [bound] using hm)) (hH _ _ hu) (hL _ hl) (by omega) (.inr hum.1) hlu
    refine key m (some (m - l)) hb hum.1 (by omega) (by have:=hmul u n (by omega);omega) ⟨by omega,by have:=hmul m n hum.2;omega⟩ hs.symm
   ·cases hs
  ·have hb:u ≤ cap→(Instr.sliceBounds true n cap (lo.map a.eval) (hi.map a.eval) (mx.map a.eval)).run P w = .ok (l,u,cap) w:=fun huc =>
    sliceBounds_run (P:=P) (w:=w) true n cap l u cap (lo.map a.eval) (hi.map a.eval) (mx.map a.eval) (.inl ⟨hmn rfl,rfl⟩) (hH _ _ hu) (hL _ hl) (Nat.le_refl _) (.inr huc) hlu
   split at hs
   ·rename_i hun
    simp only [oqI] at hs
    refine key cap (c.map (· - l)) (hb (by omega)) (by omega) (Nat.le_refl _) (by have:=hmul u n hun;omega) ?_ hs.symm
    cases c with
    | none=>simpa using hcap
    | some cc=>simp only [Option.map_some] at hcap ⊢;obtain ⟨rfl,h2⟩:=hcap;exact ⟨by omega,h2⟩
   ·split at hs
    ·cases hs
    ·simp only [oqB] at hs
     obtain ⟨B,hB,E,hE,hs⟩:=hs
     split at hs
     ·rename_i huE
      simp only [oqI] at hs
      simp only at hcap
      obtain ⟨L',hL',hext',_,hlim',_⟩:=R.blk b B v E hB hE
      rw [hφ] at hL';cases hL'
      have huc:u ≤ cap:=by
       have:u * s' ≤ cap * s':=by omega
       exact Nat.le_of_mul_le_mul_right this hs0
      exact key cap none (hb huc) huc (Nat.le_refl _) (by omega) hcap hs.symm
     ·cases hs
 | vs n s' cells blk base cap spot vs hn hs0 hlen hO hb0 hsp hv hc =>
  have hdd:∃ u,d = .slice u∧sizeT P u = some size:=by
   cases d <;> simp at hsize
   exact ⟨_,rfl,hsize⟩
  obtain ⟨el,rfl,hsz⟩:=hdd
  simp only [sliceA] at hs
  split at hs
  ·cases hs
  rename_i hss
  have hss1:s' = size:=by
   rcases Nat.decEq s' size with h | h
   ·exact absurd (.inl h) hss
   ·exact h
  subst hss1
  cases hm1:mx' with
  | some m0 =>
   rw [hm1] at hs
   simp only [oqE,oqB] at hs
   obtain ⟨l,hl,u,hu,m,hm,hs⟩:=hs
   split at hs
   ·rename_i hz
    obtain ⟨rfl,rfl,rfl⟩:=hz
    simp only [oqI] at hs
    subst hs
    have hb:=sliceBounds_run (P:=P) (w:=w) true n cap 0 0 0 (lo.map a.eval) (hi.map a.eval) (mx.map a.eval) (hM 0 cap (by rw [hm1];cases m0 <;> simpa [bound] using hm)) (hH _ _ hu) (hL _ hl) (Nat.zero_le _) (.inr (Nat.le_refl _)) (Nat.le_refl _)
    refine hexec _ (sliceAt_run hd hsz (some ⟨blk,base,spot⟩) n cap 0 0 0 _ _ _ hb) ?_
    simp only [if_true]
    exact .vs 0 0 [] blk base 0 spot [] (Nat.le_refl _) (.inr rfl) (by simp) (fun h=>absurd h (by omega)) (fun h=>absurd h (by omega)) (fun h=>absurd h (by omega)) .nil (by simp)
   ·cases hs
  | none =>
  have hmx1:mx' = none:=hm1
  rw [hm1] at hs
  simp only [oqE,oqB] at hs
  obtain ⟨l,hl,u,hu,hs⟩:=hs
  split at hs
  ·rename_i hle
   simp only [oqB,oqI] at hs
   obtain ⟨q,hq,rfl⟩:=hs
   have hb:=sliceBounds_run (P:=P) (w:=w) true n cap l u cap (lo.map a.eval) (hi.map a.eval) (mx.map a.eval) (.inl ⟨hmn hmx1,rfl⟩) (hH _ _ hu) (hL _ hl) (Nat.le_refl _) (.inr (by omega)) hle.1
   refine hexec _ (sliceAt_run hd hsz (some ⟨blk,base,spot⟩) n cap l u cap _ _ _ hb) ?_
   obtain ⟨h3,h4⟩:=hv.of_sub hq
   have hcell:∀ i v,((vs.drop (l * s')).take ((u - l) * s'))[i]? = some v→w.cell? ⟨blk,base + l * s' + i,none⟩ = some v:=by
    intro i v hi
    simp only [List.getElem?_take,List.getElem?_drop] at hi
    split at hi
    ·rw [Nat.add_assoc];exact hc _ _ hi
    ·cases hi
   by_cases h0:0 < u - l
   ·have hsn:spot = none:=hsp (by omega)
    subst hsn
    rw [if_neg (by omega)]
    simp only [Option.map_some,add_none]
    exact .vs _ _ _ _ _ _ _ _ (by omega) (by rcases hs0 with h | h;exact .inl h;exact .inr (by omega)) h4 (fun _=>hO (by omega)) (fun _=>hb0 (by omega)) (fun _=>rfl) h3 hcell
   ·have hul:u - l = 0:=by omega
    rw [hul,Nat.zero_mul] at h3 h4
    have hq0:q = []:=List.eq_nil_of_length_eq_zero h4
    subst hq0
    have:∃ base' spot',(if cap = l then some (⟨blk,base,spot⟩:Addr) else Option.map (fun x:Addr=>x.add (l * s')) (some (⟨blk,base,spot⟩:Addr))) = some (⟨blk,base',spot'⟩:Addr):=by
     split
     ·exact ⟨_,_,rfl⟩
     ·simp only [Option.map_some,Addr.add]
      split
      ·exact ⟨_,_,rfl⟩
      ·exact ⟨_,_,rfl⟩
    obtain ⟨base',spot',e⟩:=this
    rw [e,hul]
    exact .vs _ _ _ _ base' _ spot' [] (by omega) (by rcases hs0 with h | h;exact .inl h;exact .inr (by omega)) (by simp) (fun h=>absurd h (by omega)) (fun h=>absurd h (by omega)) (fun h=>absurd h (by omega)) .nil (by simp)
  ·cases hs
 | _=>simp [sliceA] at hs
end
end Go.Ab
namespace Go.Ab
theorem fold_over:∀ (vs:List Value) (cs:Array Value) (o n:Nat),o + n + vs.length ≤ cs.size →
  ((vs.zipIdx n).foldl (fun (cs:Array Value) (x:Value × Nat)=>cs.setIfInBounds (o + x.2) x.1) cs).toList = over cs.toList (o + n) vs
 | [],cs,o,n,h=>by simp [over]
 | v::vs,cs,o,n,h=>by
  simp only [List.zipIdx_cons,List.foldl_cons]
  rw [fold_over vs _ o (n + 1) (by simp at h ⊢;omega)]
  apply List.ext_getElem?
  intro i
  simp only [List.length_cons] at h
  rw [over_get _ _ _ (by simp at h ⊢;omega),over_get _ _ _ (by simp at h ⊢;omega)]
  simp only [Array.toList_setIfInBounds,List.getElem?_set,List.length_cons,Array.length_toList]
  by_cases h1:i < o + n
  ·have a1:i < o + (n + 1):=by omega
   have a2:¬ (o + n = i):=by omega
   simp [h1,a1,a2]
  ·by_cases h2:i = o + n
   ·subst h2
    have a1:o + n < o + (n + 1):=by omega
    have a2:o + n < o + n + (vs.length + 1):=by omega
    have a3:o + n < cs.size:=by omega
    simp [a1,a2,a3]
   ·have a1:¬ i < o + (n + 1):=by omega
    by_cases h3:i < o + n + (vs.length + 1)
    ·have a2:i < o + (n + 1) + vs.length:=by omega
     rw [if_neg a1,if_pos a2,if_neg h1,if_pos h3]
     rw [show i - (o + n) = (i - (o + (n + 1))) + 1 by omega]
     simp
    ·have a2:¬ i < o + (n + 1) + vs.length:=by omega
     have a3:¬ (o + n = i):=by omega
     rw [if_neg a1,if_neg a2,if_neg a3,if_neg h1,if_neg h3]
theorem lay_length (l:List AS) (o:Nat) (new:List AS) (h:o + new.length ≤ l.length):(lay l o new).length = l.length:=by
 simp [lay];omega
theorem lay_ok {φ:Phi} {O:Nat→Prop} {w:World} {l new:List AS} {vs us:List Value} (hl:VRL φ O w l vs) (hn:VRL φ O w new us) (o:Nat):VRL φ O w (lay l o new) (over vs o us):=by
 unfold lay over
 rw [List.append_assoc,hn.length]
 exact (hl.take o).append (hn.append (hl.drop _))
section
variable {P:Program} {φ:Phi} {O:Nat→Prop} {w:World} {fr:Fr} {a:Act}
theorem parts_ok (hf:AVL φ O w fr a.tmps.toList) {place place':Nat→Option (Nat × Nat)} (hp:∀ i p,place i = some p→place' i = some p) :
  ∀ {ps:List (Nat × Operand)} {z l:List AS} {zs:List Value},VRL φ O w z zs→parts place fr ps z = some l →
   ∃ ls,VRL φ O w l ls∧Instr.fill place' zs.toArray (ps.map fun (i,x)=>(i,a.eval x)) = some ls.toArray
 | [],z,l,zs,hz,h=>by
  simp only [parts,oqI] at h;subst h
  exact ⟨zs,hz,by simp [Instr.fill]⟩
 | (i,x)::ps,z,l,zs,hz,h=>by
  simp only [parts,oqE,oqB] at h
  obtain ⟨⟨o,size⟩,hi,v,hv,c,hc,h⟩:=h
  split at h
  ·rename_i hcs
   obtain ⟨vs,hvs,hcells⟩:=(ev_ok hf hv).cells hc
   have hl:=hvs.length
   have hzl:=hz.length
   have hfold:=fold_over vs zs.toArray o 0 (by simp;omega)
   obtain ⟨ls,h1,h2⟩:=parts_ok hf hp (lay_ok hz hvs o) h
   refine ⟨ls,h1, ?_⟩
   simp only [List.map_cons,Instr.fill,hp _ _ hi,hcells]
   rw [if_neg (by simp;omega)]
   rw [← h2]
   congr 1
   apply Array.toList_inj.1
   simpa using hfold
  ·cases h
end
section
variable {P:Program} {cmp:Nat→Option (List AS)} {φ:Phi} {h:H} {w:World} {fr:Fr} {a:Act} {r:OR} {o:Oper}
theorem op_build (hP:OkT P) (R:Rel φ h w) (hf:AVL φ (Nf φ) w fr a.tmps.toList) {t:Nat} {ps:Array (Nat × Operand)} (ho:o.op = .build t ps) (hr:opA P cmp fr h o = some r) :
  OpR P φ h w r ((execOp a.eval o).run P w):=by
 simp only [opA,ho,oqE,oqB] at hr
 obtain ⟨d,hd,hr⟩:=hr
 split at hr
 ·rename_i fs
  split at hr
  rotate_left
  ·cases hr
  rename_i htlt
  simp only [oqB,oqI] at hr
  obtain ⟨z,hz,l,hl,rfl⟩:=hr
  obtain ⟨i,zv,hi,hzv,hzs,hzl⟩:=zero_ok (φ:=φ) (O:=Nf φ) (w:=w) hz
  have hpl:∃ places,fs.toList.mapM (fun f:Field=>(P.info? f.type).map fun i=>(f.offset,i.size)) = some places ∧
    ∀ (j:Nat) (p:Nat × Nat),(Option.bind fs[j]? fun f:Field=>Option.bind (sizeT P f.type) fun s=>some (f.offset,s)) = some p→(places.toArray[j]?:Option (Nat × Nat)) = some p:=by
   have gen:∀ (l:List Field),(∀ f ∈ l,(P.info? f.type).isSome = true)→∃ places,l.mapM (fun f:Field=>(P.info? f.type).map fun i=>(f.offset,i.size)) = some places ∧
     ∀ (j:Nat) (p:Nat × Nat),(Option.bind l[j]? fun f:Field=>Option.bind (sizeT P f.type) fun s=>some (f.offset,s)) = some p→places[j]? = some p:=by
    intro l
    induction l with
    | nil=>exact fun _=>⟨[],by simp,by simp⟩
    | cons f l ih =>
     intro hall
     obtain ⟨inf,hinf⟩:=Option.isSome_iff_exists.1 (hall f (by simp))
     obtain ⟨pl,h1,h2⟩:=ih fun g hg=>hall g (by simp [hg])
     refine ⟨(f.offset,inf.size)::pl,by simp [hinf,h1],fun j p hj=>?_⟩
     cases j with
     | zero=>simp [sizeT,hinf] at hj;simp [hj]
     | succ j=>simp only [List.getElem?_cons_succ] at hj ⊢;exact h2 j p hj
   obtain ⟨pl,h1,h2⟩:=gen fs.toList (hP.fields t fs htlt hd)
   exact ⟨pl,h1,fun j p hj=>by simpa using h2 j p (by simpa using hj)⟩
  obtain ⟨places,hp1,hp2⟩:=hpl
  obtain ⟨ls,h1,h2⟩:=parts_ok hf (place':=fun j=>places.toArray[j]?) hp2 hzs hl
  have hb:P.built t (ps.map fun (i,x)=>(i,a.eval x)).toList = some ls.toArray:=by
   simp only [Program.built,hi,hd,hzv,hp1]
   rw [← h2];simp
  have:(execOp a.eval o).run P w = .ok (.value (.agg ls.toArray)) w:=by
   simp only [execOp,ho]
   rw [Sem.run_bind,run_build w t _ _ hb,Result.andThen_ok,Sem.run_pure]
  rw [this]
  exact OpR.same R (.agg _ _ h1)
 ·rename_i m u
  simp only [oqB,oqI] at hr
  obtain ⟨size,hsize,z,hz,l,hl,rfl⟩:=hr
  obtain ⟨i,zv,hi,hzv,hzs,hzl⟩:=zero_ok (φ:=φ) (O:=Nf φ) (w:=w) hz
  obtain ⟨ls,h1,h2⟩:=parts_ok hf (place':=fun i=>some (i * size,size)) (fun _ _ h=>h) hzs hl
  have:(execOp a.eval o).run P w = .ok (.value (.agg ls.toArray)) w:=by
   have h2':Instr.fill (fun i=>some (i * size,size)) zv.cells (List.map (fun x=>(x.fst,a.eval x.snd)) ps.toList) = some ls.toArray:=by rw [← h2]
   simp [execOp,ho,Instr.build,zeroValue,typeInfo,hi,hzv,run_underlying hd,sizeT_run hsize,h2']
  rw [this]
  exact OpR.same R (.agg _ _ h1)
 ·cases hr
theorem op_buildSlice (R:Rel φ h w) (hf:AVL φ (Nf φ) w fr a.tmps.toList) {t n:Nat} {ps:Array (Nat × Operand)} (ho:o.op = .buildSlice t n ps) (hr:opA P cmp fr h o = some r) :
  OpR P φ h w r ((execOp a.eval o).run P w):=by
 simp only [opA,ho,oqE,oqB] at hr
 obtain ⟨el,hel,size,hsize,z,hz,hr⟩:=hr
 split at hr
 ·rename_i hc
  obtain ⟨hzl,hs0,hlim⟩:=hc
  simp only [oqB,oqI] at hr
  obtain ⟨l,hl,rfl⟩:=hr
  obtain ⟨i,zv,hi,hzv,hzs,hzl2⟩:=zero_ok (φ:=φ) (O:=Nf φ) (w:=w) hz
  have hsi:i.size = size:=by obtain ⟨j,hj,e⟩:=sizeT_info hsize;rw [hi] at hj;cases hj;exact e
  have hzsz:zv.cells.size = size:=by omega
  obtain ⟨ls,h1,h2⟩:=parts_ok hf (place':=fun i=>some (i * size,size)) (fun _ _ h=>h) (rep_ok hzs n) hl
  obtain ⟨φ',R',G,hφ⟩:=row_ok R h1 el
  have hlen:l.length = n * size:=by
   have gen:∀ (ps:List (Nat × Operand)) (z l:List AS),parts (fun i=>some (i * size,size)) fr ps z = some l→l.length = z.length:=by
    intro ps
    induction ps with
    | nil=>intro z l h;simp only [parts,oqI] at h;rw [h]
    | cons p ps ih =>
     intro z l h
     obtain ⟨j,x⟩:=p
     simp only [parts,oqE,oqB] at h
     obtain ⟨⟨q,s⟩,hj,v,hv,c,hc,h⟩:=h
     split at h
     ·rename_i hcs
      rw [ih _ _ h,lay_length _ _ _ (by omega)]
     ·cases h
   rw [gen _ _ _ hl,repL_length,hzl]
  have hrun:(execOp a.eval o).run P w = .ok (.value (.slice (some ⟨w.heap.size,0,none⟩) n n)) (w.alloc (.cells ls.toArray el)):=by
   have e5:¬ (16777216 < n * size):=by omega
   by_cases hn0:n * size = 0
   ·have hn:n = 0:=by rcases Nat.mul_eq_zero.1 hn0 with h | h <;> omega
    subst hn
    have e9:Instr.fill (fun i=>some (i * size,size)) #[] (ps.toList.map fun (i,x)=>(i,a.eval x)) = some ls.toArray:=by simpa [repV] using h2
    have e10:Array.map (fun (x:Nat)=>(default:Value)) (Array.range 0) = #[]:=Array.eq_empty_of_size_eq_zero (by simp)
    simp [execOp,ho,Instr.buildSlice,run_underlying (elemT_run hel),sizeOf,typeInfo,hi,hsi,newRow,e9,e10]
   ·have e9:=zeros_eq zv.cells n (by omega)
    rw [hzsz] at e9
    have e10:Instr.fill (fun i=>some (i * size,size)) (repV zv.cells.toList n).toArray (ps.toList.map fun (i,x)=>(i,a.eval x)) = some ls.toArray:=h2
    simp [execOp,ho,Instr.buildSlice,run_underlying (elemT_run hel),sizeOf,typeInfo,hi,hsi,zeroValue,hzv,newRow,hzsz,e5,hn0,e9,e10]
  rw [hrun]
  refine ⟨_,_,φ',rfl,.one _ _ ?_,R',G⟩
  refine .slc _ _ _ _ _ _ _ _ _ hφ hs0 (fun _=>by simp) (Nat.le_refl _) ?_ ?_
  ·simp [hlen]
  ·simp [hlen]
 ·cases hr
theorem isByteT_inv {u:TypeId} (hb:isByteT P u = true):P.underlying u = some (.int .u8):=by
 unfold isByteT at hb
 split at hb
 ·assumption
 ·cases hb
theorem bytesOf_inv {O:Nat→Prop}:∀ {l:List AS} {us:List Value} {s:List UInt8},VRL φ O w l us→bytesOf l = some s→us = (s.map fun b=>(b.toNat:Int)).map (Value.int .u8)
 | [],us,s,h,hb=>by simp only [bytesOf,oqI] at hb;subst hb;cases h;rfl
 | a::l,_,s,.cons _ v _ us' hv ht,hb=>by
  cases a <;> try (simp [bytesOf] at hb;done)
  rename_i k n
  cases k <;> try (simp [bytesOf] at hb;done)
  simp only [bytesOf] at hb
  split at hb
  ·rename_i hn
   simp only [oqE,oqB,oqI] at hb
   obtain ⟨s',hs',rfl⟩:=hb
   rw [bytesOf_inv ht hs',hv.int_inv]
   simp only [List.map_cons]
   congr 2
   have:n.toNat < 256:=by omega
   simp;omega
  ·cases hb
theorem freeze_def (w:World) (g n:Nat):w.freeze ⟨g,n,none⟩ 1 = { w with heap:=w.heap.modify g fun
   | .cells c elem (lo,hi)=>.cells c elem (if lo == hi then (n,n + 1) else (min lo n,max hi (n + 1)))
   | o=>o }:=by
 unfold World.freeze
 rw [if_neg (by decide)]
 rfl
theorem freeze_size {w:World} {g n:Nat}:(w.freeze ⟨g,n,none⟩ 1).heap.size = w.heap.size:=by
 rw [freeze_def];simp
theorem freeze_other {w:World} {g n k:Nat} (hk:k ≠ g):(w.freeze ⟨g,n,none⟩ 1).heap[k]? = w.heap[k]?:=by
 rw [freeze_def]
 simp only [Array.getElem?_modify]
 rw [if_neg fun e=>hk e.symm]
theorem freeze_self {w:World} {g n:Nat} {c:Array Value} {ty:TypeId} {fz:Nat × Nat} (h:w.heap[g]? = some (.cells c ty fz)):(w.freeze ⟨g,n,none⟩ 1).heap[g]? = some (.cells c ty (if fz.1 == fz.2 then (n,n + 1) else (min fz.1 n,max fz.2 (n + 1)))):=by
 rw [freeze_def]
 simp only [Array.getElem?_modify,h,if_true,Option.map_some]
theorem rel_unfix {φ:Phi} {h:H} {w:World} (R:Rel φ h w) {b:Nat} {k:Blk} (hk:h.f b = some k):Rel φ (h.set b { k with fixed:=false }) w∧Grow φ h w φ (h.set b { k with fixed:=false }) w∧∀ k',Own φ (h.set b { k with fixed:=false }) k'→Own φ h k':=by
 have hf:∀ c q,(h.set b { k with fixed:=false }).f c = some q→∃ q0,h.f c = some q0∧q0.ver = q.ver∧q0.exts = q.exts∧q0.cells = q.cells∧(q.fixed = true→q0.fixed = true):=by
  intro c q hq
  simp only [H.set] at hq
  split at hq
  ·rename_i hc;subst hc
   simp only [oqI] at hq;subst hq
   exact ⟨k,hk,rfl,rfl,rfl,fun h=>by cases h⟩
  ·exact ⟨q,hq,rfl,rfl,rfl,id⟩
 have hx:∀ (q q0:Blk) v,q0.ver = q.ver→q0.exts = q.exts→q0.ext v = q.ext v:=fun q q0 v h1 h2=>by simp only [Blk.ext,h1,h2]
 have hown:∀ g,Own φ (h.set b { k with fixed:=false }) g→Own φ h g:=by
  rintro g ⟨c,q,v,e,l,h1,h2,h3,h4⟩
  obtain ⟨q0,g1,g2,g3,_⟩:=hf c q h1
  exact ⟨c,q0,v,e,l,g1,by rw [hx q q0 v g2 g3];exact h2,h3,h4⟩
 refine ⟨⟨fun c q hq=>?_,fun c q v e hq he=>?_,fun c q v e l c' q' v' e' l' h1 h2 h3 h4 h5 h6 h7=>?_,R.dom,fun c q v l hq hl=>?_,fun g hg=>⟨(R.frz g hg).1,fun ho=>(R.frz g hg).2 (hown g ho)⟩⟩,
  ⟨⟨fun _ _ _ h=>h,Nat.le_refl _,Nat.le_refl _,fun _ _ _=>rfl,fun g _ ho=>hown g ho,rfl,rfl,rfl,fun _ _ _=>rfl,fun _ h=>h,fun _ _ h=>h,rfl⟩,fun _ _ _ h=>.inl h,fun c hc=>?_⟩,hown⟩
 ·obtain ⟨q0,g1,_⟩:=hf c q hq
  exact R.lt c q0 g1
 ·obtain ⟨q0,g1,g2,g3,g4,g5⟩:=hf c q hq
  obtain ⟨l,a1,a2,a3,a4,a5,C,ty,fz,a6,a7,a8,us,a9,a10⟩:=R.blk c q0 v e g1 (by rw [hx q q0 v g2 g3];exact he)
  rw [g4] at a3 a9
  rw [g2,g4] at a5
  refine ⟨l,a1,a2,a3,a4,fun hv=>⟨(a5 hv).1,fun hfx=>(a5 hv).2 (g5 hfx)⟩,C,ty,fz,a6,a7,a8.imp id fun y=>⟨y.1, ?_⟩,us,a9,a10⟩
  cases hkf:q.fixed with
  | false=>rfl
  | true=>rw [g5 hkf] at y;exact absurd y.2 (by simp)
 ·obtain ⟨q0,g1,g2,g3,_⟩:=hf c q h1
  obtain ⟨q1,j1,j2,j3,_⟩:=hf c' q' h4
  exact R.sep c q0 v e l c' q1 v' e' l' g1 (by rw [hx q q0 v g2 g3];exact h2) h3 j1 (by rw [hx q' q1 v' j2 j3];exact h5) h6 h7
 ·obtain ⟨q0,g1,g2,_⟩:=hf c q hq
  rw [← g2];exact R.ver c q0 v l g1 hl
 ·cases hq:(h.set b { k with fixed:=false }).f c with
  | none=>exact absurd hq hc
  | some q =>
   obtain ⟨q0,g1,_⟩:=hf c q hq
   left;rw [g1];simp
theorem rel_mark {φ:Phi} {h:H} {w:World} (R:Rel φ h w) {g:Nat} (hF:¬ φ.F g) (hO:Own φ h g) {C:Array Value} {ty:TypeId} {fz:Nat × Nat} (hc:w.heap[g]? = some (.cells C ty fz)) (hN:∀ b k v e l,h.f b = some k→k.ext v = some e→φ b v = some l→l.blk = g→k.fixed = false) :
  Rel φ h (w.freeze ⟨g,C.size,none⟩ 1)∧Grow φ h w φ h (w.freeze ⟨g,C.size,none⟩ 1):=by
 have ho:∀ k,k ≠ g→(w.freeze ⟨g,C.size,none⟩ 1).heap[k]? = w.heap[k]?:=fun k hk=>freeze_other hk
 have hs:=freeze_self (n:=C.size) hc
 have hsz:(w.freeze ⟨g,C.size,none⟩ 1).heap.size = w.heap.size:=freeze_size
 have G:Grow φ h w φ h (w.freeze ⟨g,C.size,none⟩ 1) :=
  ⟨⟨fun _ _ _ h=>h,Nat.le_refl _,by rw [hsz];exact Nat.le_refl _,fun k _ hno=>ho k fun e=>hno (e ▸ hO),fun _ _ h=>h,by rw [freeze_def],by rw [freeze_def],by rw [freeze_def],fun k _ hk=>ho k fun e=>hF (e ▸ hk),fun _ h=>h,fun _ _ h=>h,rfl⟩,fun _ _ _ h=>.inl h,fun _ h=>.inl h⟩
 refine ⟨⟨R.lt, ?_,R.sep,fun b v l hb=>by rw [hsz];exact R.dom b v l hb,R.ver,fun q hq=>by rw [hsz];exact R.frz q hq⟩,G⟩
 intro b k v e hb he
 obtain ⟨l,a1,a2,a3,a4,a5,c,ty1,fz1,a6,a7,a8,us,a9,a10⟩:=R.blk b k v e hb he
 by_cases hg:l.blk = g
 ·have a6':=a6
  rw [hg,hc] at a6'
  simp only [oqI,Obj.cells.injEq] at a6'
  obtain ⟨rfl,rfl,rfl⟩:=a6'
  refine ⟨l,a1,a2,a3,a4,a5,C,ty,_,by rw [hg];exact hs,a7, ?_,us,G.vrl a9,a10⟩
  split
  ·exact .inr ⟨a7,hN b k v e l hb he a1 hg⟩
  ·rename_i hne
   rcases a8 with h1 | h1
   ·exact absurd (by simp [h1]) hne
   ·exact .inr ⟨Nat.le_min.2 ⟨h1.1,a7⟩,h1.2⟩
 ·exact ⟨l,a1,a2,a3,a4,a5,c,ty1,fz1,by rw [ho _ hg];exact a6,a7,a8,us,G.vrl a9,a10⟩
theorem run_convert_same {P:Program} (w:World) (t e:TypeId) (a:Addr) (n c:Nat) {C:Array Value} {ty:TypeId} {fz:Nat × Nat} (ht:P.underlying t = some (.slice e)) (he:P.underlying e = some (.int .u8)) (hc:w.heap[a.block]? = some (.cells C ty fz)) :
  (convert t t (.slice (some a) n c)).run P w = .ok (.slice (some a) n c) (w.freeze ⟨a.block,C.size,none⟩ 1):=by
 have hsh:w.shape? a.block = some (ty,C.size):=by unfold World.shape?;rw [hc]
 simp [convert,run_underlying ht,run_underlying he,markStringish,hsh]
theorem op_convert (R:Rel φ h w) (hf:AVL φ (Nf φ) w fr a.tmps.toList) {s d:Nat} {x:Operand} (ho:o.op = .convert s d x) (hr:opA P cmp fr h o = some r) :
  OpR P φ h w r ((execOp a.eval o).run P w):=by
 simp only [opA,ho,oqE,oqB] at hr
 obtain ⟨x',hx,hr⟩:=hr
 have h1:=evS_ok hf hx
 have hexec:∀ rv w',(convert s d (a.eval x)).run P w = .ok rv w'→(execOp a.eval o).run P w = .ok (.value rv) w':=by
  intro rv w' he
  simp only [execOp,ho]
  rw [Sem.run_bind,he,Result.andThen_ok,Sem.run_pure]
 simp only [convA,oqE,oqB] at hr
 obtain ⟨ds,hds,dd,hdd,hr⟩:=hr
 split at hr
 ·rename_i k _ n
  simp only [oqI] at hr;subst hr
  rw [hexec (.int k (k.wrap n)) w (by simp [convert,run_underlying hds,run_underlying hdd,h1.int_inv,Conv.intToInt])]
  exact OpR.same1 R (.int _ _)
 ·rename_i _ n
  simp only [oqI] at hr;subst hr
  rw [hexec (.float .f64 (FloatKind.nearest .f64 n)) w (by simp [convert,run_underlying hds,run_underlying hdd,h1.int_inv,Conv.intToFloat])]
  exact OpR.same1 R (.flt _)
 ·rename_i n
  simp only [oqI] at hr;subst hr
  rw [hexec (.string ⟨(Utf8.encode n).data.toList.toArray⟩) w (by simp [convert,run_underlying hds,run_underlying hdd,h1.int_inv,Conv.intToString])]
  exact OpR.same1 R (.str _)
 ·rename_i b
  simp only [oqI] at hr;subst hr
  rw [hexec (.string ⟨b.toArray⟩) w (by simp [convert,run_underlying hds,run_underlying hdd,h1.str_inv])]
  exact OpR.same1 R (.str _)
 ·rename_i u hns
  split at hr
  ·rename_i hb
   have hu:=isByteT_inv hb.1
   split at hr
   ·cases hr
   simp only [oqB,oqI] at hr
   obtain ⟨N,hN,l,hl,s',hs',rfl⟩:=hr
   obtain ⟨us,hus,_,hfc⟩:=elems_ok (P:=P) R h1 hN hl
   have hfc:=hfc w rfl
   have e:=bytesOf_inv hus hs'
   have key:∃ aa ll cc,a.eval x = .slice aa ll cc∧ll = N:=by
    generalize hcv:a.eval x = cv at h1
    cases h1 <;> simp [lenS] at hN <;> first | exact ⟨_,_,_,rfl,hN⟩ | (exact absurd rfl (hns _))
   obtain ⟨aa,ll,cc,hcv,rfl⟩:=key
   rw [hcv] at hfc
   have hrun:(convert s d (a.eval x)).run P w = .ok (.string ⟨s'.toArray⟩) w:=by
    rw [hcv,run_convert_bytes_string w s d u aa ll cc hds hu hdd]
    cases aa with
    | none =>
     simp only [Builtin.firstCells,Sem.run_pure,Result.ok.injEq,and_true] at hfc
     have:s' = []:=by
      rw [e] at hfc
      have:=congrArg Array.size hfc
      simp at this
      exact List.eq_nil_of_length_eq_zero this.symm
     subst this
     simp [Conv.bytesToString]
     rfl
    | some aa =>
     simp only [Builtin.firstCells,Nat.mul_one] at hfc
     rw [e] at hfc
     rw [run_bytesToString w aa ll cc _ hfc]
     have:=foldl_push_byteCells s' ByteArray.empty
     rw [this]
     simp
   rw [hexec _ _ hrun]
   exact OpR.same1 R (.str _)
  ·cases hr
 ·rename_i u b
  split at hr
  ·rename_i hb
   have hu:=isByteT_inv hb.1
   simp only [oqI] at hr;subst hr
   have he:=h1.str_inv
   have hrun:=run_bytes_of_string (P:=P) w s d u ⟨b.toArray⟩ hds hdd hu
   have hsz:(ByteArray.mk b.toArray).size = b.length:=by simp [ByteArray.size]
   have hcap:b.length ≤ grownCap w (ByteArray.mk b.toArray).size 0 u:=by
    rw [hsz];simp [grownCap,Question.cut]
   generalize grownCap w (ByteArray.mk b.toArray).size 0 u = cap at hrun hcap
   obtain ⟨φ',g1,g2,g3⟩:=new_ok R (bytes_ok b) false (bytesRow ⟨b.toArray⟩ cap) u ((bytesRow ⟨b.toArray⟩ cap).size,(bytesRow ⟨b.toArray⟩ cap).size + 1) (List.replicate (cap - b.length) (.int .u8 0))
    (by simp [bytesRow,hsz]) (by simp) (.inr ⟨Nat.le_refl _,rfl⟩) (w.drew.alloc (.cells (bytesRow ⟨b.toArray⟩ cap) u ((bytesRow ⟨b.toArray⟩ cap).size,(bytesRow ⟨b.toArray⟩ cap).size + 1))) rfl rfl rfl rfl
   rw [he] at hexec
   rw [hexec _ _ hrun,hsz]
   refine ⟨_,_,φ',rfl,.one _ _ ?_,g1,g2⟩
   refine .slc _ _ _ _ _ _ _ _ _ g3 (by omega) (fun _=>by simp) hcap ?_ ?_
   ·simp [bytesRow,hsz];omega
   ·simp
  ·cases hr
 ·rename_i u0 u b v q n s' c
  split at hr
  ·rename_i hb
   obtain ⟨rfl,hb,hn⟩:=hb
   have hu:=isByteT_inv hb
   simp only [oqB,oqI] at hr
   obtain ⟨k,hk,e,he,rfl⟩:=hr
   rw [hds] at hdd
   obtain ⟨l,hl,_,_,_,_,C,ty,fz,hC,_⟩:=R.blk b k v e hk he
   have hO:Own φ h l.blk:=⟨b,k,v,e,l,hk,he,hl,rfl⟩
   have key:∃ cap,a.eval x = .slice (some ⟨l.blk,l.base + q,none⟩) n cap:=by
    generalize hcv:a.eval x = cv at h1
    cases h1 with
    | slc _ _ _ _ _ _ l2 a2 cap hl2 hs2 ha2 hn2 _ _ =>
     rw [hl] at hl2
     simp only [oqI] at hl2;subst hl2
     exact ⟨cap,by rw [ha2 (by omega)]⟩
   obtain ⟨cap,hcv⟩:=key
   obtain ⟨U1,U2,U3⟩:=rel_unfix R hk
   have hU:(h.set b { k with fixed:=false }).f b = some { k with fixed:=false }:=by simp [H.set]
   have hO':Own φ (h.set b { k with fixed:=false }) l.blk:=⟨b,_,v,e,l,hU,he,hl,rfl⟩
   obtain ⟨g1,g2⟩:=rel_mark U1 (fun hF=>(R.frz _ hF).2 hO) hO' hC (fun b2 k2 v2 e2 l2 q1 q2 q3 q4=>by
    have:=(U1.sep b2 k2 v2 e2 l2 b _ v e l q1 q2 q3 hU he hl q4).1
    subst this
    rw [hU] at q1;cases q1;rfl)
   have g2:=U2.trans g2
   rw [hexec _ _ (by rw [hcv];exact run_convert_same w s u ⟨l.blk,l.base + q,none⟩ n cap (by rw [hds];exact hdd) hu hC)]
   refine ⟨_,_,φ,rfl,.one _ _ ?_,g1,g2⟩
   rw [← hcv]
   exact VR.mono (fun _ _ _ h=>h) (by rw [freeze_size];exact Nat.le_refl _) (fun k hk hno=>freeze_other fun e=>hno (by subst e;exact fun hF=>(R.frz _ hF).2 hO)) (fun _ _ h=>h) h1
  ·cases hr
 ·cases hr
end
end Go.Ab
namespace Go.Ab
section
variable {P:Program} {cmp:Nat→Option (List AS)} {φ:Phi} {h:H} {w:World} {fr:Fr} {a:Act} {r:OR} {o:Oper}
theorem append_only (A A':Array TypeId) (ty:TypeId) (x:Array Value) (h0:A[0]? = A'[0]?) (h1:A[1]? = A'[1]?):Builtin.append_ A ty x = Builtin.append_ A' ty x:=by
 simp only [Builtin.append_,h0,h1]
theorem append_ok (hP:OkT P) (R:Rel φ h w) {t u ty:TypeId} {s x q:AS} {sv xv:Value} {h':H} (hs:VR φ (Nf φ) w s sv) (hx:VR φ (Nf φ) w x xv) (hA:appendA P t u h s x = some (q,h')) :
  ∃ rv w' φ',(Builtin.append_ #[t,u] ty #[sv,xv]).run P w = .ok rv w'∧VR φ' (Nf φ') w' q rv∧Rel φ' h' w'∧Grow φ h w φ' h' w':=by
 simp only [appendA,oqE,oqB] at hA
 obtain ⟨el,hel,size,hsize,bytes,hbytes,d,hd,hA⟩:=hA
 obtain ⟨i,hi,hsi⟩:=sizeT_info hsize
 have hbi:i.bytes = bytes:=by simp only [bytesT,hi,oqE,oqS,oqI] at hbytes;exact hbytes
 subst hsi;subst hbi
 have seq:∀ n new,lenS x = some n→elemsOf h i.size n x = some new→((∃ e,d = .slice e) ∨ d = .string)→appendL i.size i.bytes n new h s = some (q,h') →
   ∃ rv w' φ',(Builtin.append_ #[t,u] ty #[sv,xv]).run P w = .ok rv w'∧VR φ' (Nf φ') w' q rv∧Rel φ' h' w'∧Grow φ h w φ' h' w':=by
  intro n new hn hnew hdd hL
  obtain ⟨us,hus,hlen,hfc⟩:=elems_ok (P:=P) R hx hn hnew
  exact appendL_ok hP R t u ty el i n new us s q sv xv (elemT_run hel) (elemT_lt hel) hi hs hus (.cells xv d hd hdd hlen hfc) hL
 split at hA
 ·rename_i k
  simp only [oqB] at hA
  obtain ⟨n,hn,z,hz,hA⟩:=hA
  split at hA
  ·rename_i hc
   obtain ⟨hzl,hn0,hnl,hnb⟩:=hc
   obtain ⟨i',zv,hi',hzv,hzs,hzl2⟩:=zero_ok (φ:=φ) (O:=Nf φ) (w:=w) hz
   rw [hi] at hi';cases hi'
   obtain ⟨kx,e⟩:=natOf_inv hn hx
   subst e
   simp only [limit] at hnl hnb
   have hs0:0 < i.size:=by
    unfold appendL at hA
    split at hA
    ·cases hA
    ·rename_i h0
     exact Nat.pos_of_ne_zero fun e=>h0 (.inr e)
   refine appendL_ok hP R t u ty el i n (repL z n) (repV zv.cells.toList n) s q sv _ (elemT_run hel) (elemT_lt hel) hi hs (rep_ok hzs n) ?_ hA
   refine .zeros kx k (n:Int) zv hn0 hd (wrap_small hnl) ?_ hzv hs0 (zeroCells_eq _ _ (by omega)).symm
   have:((n * i.bytes:Nat):Int) ≤ ((17592186044416:Nat):Int):=Int.ofNat_le.2 hnb
   rw [Int.natCast_mul] at this
   omega
  ·cases hA
 ·simp only [oqB] at hA
  obtain ⟨n,hn,new,hnew,hA⟩:=hA
  exact seq n new hn hnew (.inl ⟨_,rfl⟩) hA
 ·simp only [oqB] at hA
  obtain ⟨n,hn,new,hnew,hA⟩:=hA
  exact seq n new hn hnew (.inr rfl) hA
 ·cases hA
theorem sub_zero {l q:List AS} {o:Nat} (hq:sub l o 0 = some q):q = []:=by
 unfold sub at hq
 split at hq
 ·simpa using hq.symm
 ·cases hq
theorem elemsOf_zero {size:Nat} {x:AS} {l:List AS} (hl:elemsOf h size 0 x = some l):l = []:=by
 cases x <;> simp [elemsOf] at hl
 ·exact hl
 ·exact hl
 ·obtain ⟨_,hl⟩:=hl
  obtain ⟨k,e,_,_,_,hs⟩:=readC_ptr hl
  exact sub_zero hs
 ·obtain ⟨_,hl⟩:=hl
  exact sub_zero hl
theorem slc_dst {b v o n s:Nat} {c:Option Nat} {x:Value} (hx:VR φ (Nf φ) w (.slc b v o n s c) x):∃ A cap,x = .slice (some A) n cap∧n ≤ cap∧(0 < n→VR φ (Nf φ) w (.ptr b v o) (.pointer (some A))):=by
 cases hx with
 | slc _ _ _ _ _ _ L A cap hφ hs hA hn hc hx =>
  refine ⟨A,cap,rfl,hn,fun h0=>?_⟩
  rw [hA (by omega)]
  exact .ptr _ _ _ _ hφ
theorem copy_ok (R:Rel φ h w) {A:Array TypeId} {t ty:TypeId} {d s q:AS} {dv sv:Value} {h':H} (ht:A[0]? = some t) (hd:VR φ (Nf φ) w d dv) (hs:VR φ (Nf φ) w s sv) (hc:copyA P t h d s = some (q,h')) :
  ∃ rv w',(Builtin.copy_ A ty #[dv,sv]).run P w = .ok rv w'∧VR φ (Nf φ) w' q rv∧Rel φ h' w'∧Grow φ h w φ h' w':=by
 simp only [copyA,oqE,oqB] at hc
 obtain ⟨el,hel,size,hsize,dn,hdn,sn,hsn,l,hl,hc⟩:=hc
 obtain ⟨us,hus,hlen,hfc⟩:=elems_ok (P:=P) R hs hsn hl
 have hlen:=hlen w
 have hfc:=hfc w rfl
 split at hc
 ·simp only [oqI,oqM] at hc
  obtain ⟨rfl,rfl⟩:=hc
  simp only [lenS,oqI] at hdn;subst hdn
  rw [hd.nilslc_inv]
  refine ⟨.int .i64 (Nat.min sn 0:Nat),w, ?_,.int _ _,R,Grow.refl _ _ _⟩
  unfold Builtin.copy_
  simp only [ht,List.getElem?_toArray,List.getElem?_cons_zero,List.getElem?_cons_succ,Sem.run_bind,run_underlying (elemT_run hel),Result.andThen_ok,hlen,sizeT_run hsize,hfc,Sem.run_pure,goInt]
 ·rename_i b v o n s' c
  split at hc
  ·cases hc
  rename_i hss
  have hss:s' = size:=by
   rcases Nat.decEq s' size with h | h
   ·exact absurd h hss
   ·exact h
  subst hss
  simp only [lenS,oqI] at hdn;subst hdn
  obtain ⟨AA,cap,e,hnc,hp⟩:=slc_dst hd
  subst e
  have hrun:∀ w',(storeCells AA us).run P w = .ok () w'→(Builtin.copy_ A ty #[.slice (some AA) n cap,sv]).run P w = .ok (.int .i64 (Nat.min sn n:Nat)) w':=by
   intro w' hst
   unfold Builtin.copy_
   simp only [ht,List.getElem?_toArray,List.getElem?_cons_zero,List.getElem?_cons_succ,Sem.run_bind,run_underlying (elemT_run hel),Result.andThen_ok,hlen,sizeT_run hsize,hfc,hst,Sem.run_pure,goInt]
  split at hc
  ·rename_i hn0
   simp only [oqI,oqM] at hc
   obtain ⟨rfl,rfl⟩:=hc
   have hm0:Nat.min sn n = 0:=hn0
   rw [hm0] at hl
   have:=elemsOf_zero hl
   subst this
   cases hus
   exact ⟨_,w,hrun w (by simp [storeCells]),.int _ _,R,Grow.refl _ _ _⟩
  ·rename_i hn0
   simp only [oqB,oqI,oqM] at hc
   obtain ⟨h'',hw,rfl,rfl⟩:=hc
   have hn1:0 < n:=by
    apply Nat.pos_of_ne_zero
    intro e;subst e
    exact hn0 (Nat.min_zero sn)
   obtain ⟨b',o',w',e,hst,R',G⟩:=write_ok (P:=P) R (hp hn1) hus hw
   simp only [Value.pointer.injEq,oqI] at e
   subst e
   exact ⟨_,w',hrun w' hst,.int _ _,R',G⟩
 ·cases hc
theorem clear_ok (R:Rel φ h w) {A:Array TypeId} {t ty:TypeId} {s:AS} {sv:Value} {h':H} (ht:A[0]? = some t) (hs:VR φ (Nf φ) w s sv) (hc:clearA P t h s = some h') :
  ∃ w',(Builtin.clear_ A ty #[sv]).run P w = .ok (.tuple #[]) w'∧Rel φ h' w'∧Grow φ h w φ h' w':=by
 simp only [clearA,oqE,oqB] at hc
 obtain ⟨el,hel,hc⟩:=hc
 have hd:=elemT_run hel
 split at hc
 ·simp only [oqI] at hc;subst hc
  rw [hs.nilslc_inv]
  exact ⟨w,by simp [Builtin.clear_,ht,run_underlying hd],R,Grow.refl _ _ _⟩
 ·rename_i b v o n s' c
  obtain ⟨AA,cap,e,hnc,hp⟩:=slc_dst hs
  subst e
  split at hc
  ·rename_i hn0
   simp only [oqI] at hc;subst hc;subst hn0
   exact ⟨w,by simp [Builtin.clear_,ht,run_underlying hd],R,Grow.refl _ _ _⟩
  ·rename_i hn0
   simp only [oqB] at hc
   obtain ⟨z,hz,hc⟩:=hc
   split at hc
   ·rename_i hzl
    obtain ⟨i,zv,hi,hzv,hzs,hzl2⟩:=zero_ok (φ:=φ) (O:=Nf φ) (w:=w) hz
    have hs0:0 < s':=by cases hs;assumption
    obtain ⟨b',o',w',e,hst,R',G⟩:=write_ok (P:=P) R (hp (by omega)) (rep_ok hzs n) hc
    simp only [Value.pointer.injEq,oqI] at e
    subst e
    refine ⟨w', ?_,R',G⟩
    have hz2:(Builtin.zeroCells zv.cells n).toList = repV zv.cells.toList n:=by rw [zeroCells_eq _ _ (by omega)]
    have hd':=elemT_run hel
    have hn':n = (n - 1) + 1:=by omega
    rw [hn'] at hz2 hst ⊢
    simp [Builtin.clear_,ht,run_underlying hd',zeroValue,typeInfo,hi,hzv,hz2,hst]
   ·cases hc
 ·cases hc
theorem minmax_ok (R:Rel φ h w) {isMax:Bool} {x y q:AS} {xv yv:Value} (hx:VR φ (Nf φ) w x xv) (hy:VR φ (Nf φ) w y yv) (hm:minmax isMax x y = some q) :
  ∃ rv,((if isMax then Builtin.max2 xv yv else Builtin.min2 xv yv):Sem Value).run P w = .ok rv w∧VR φ (Nf φ) w q rv:=by
 unfold minmax at hm
 split at hm
 ·split at hm
  ·simp only [oqI] at hm;subst hm
   rw [hx.int_inv,hy.int_inv]
   cases isMax
   ·exact ⟨_,by simp only [Builtin.min2,oqF,if_false,Sem.run_pure],.int _ _⟩
   ·exact ⟨_,by simp only [Builtin.max2,if_true,Sem.run_pure],.int _ _⟩
  ·cases hm
 ·rename_i a b
  split at hm
  ·rename_i hmx
   simp only [oqI] at hm;subst hm
   rw [hx.str_inv,hy.str_inv]
   subst hmx
   refine ⟨.string ⟨(if Op.bytesLess a b then b else a).toArray⟩, ?_,.str _⟩
   cases hb:Op.bytesLess a b <;> simp [Builtin.max2,Op.stringOp,asBool,hb,ByteArray.toList_mk]
  ·cases hm
 ·cases hm
theorem minmaxL_ok (R:Rel φ h w) {isMax:Bool}:∀ {l:List AS} {us:List Value} {x q:AS} {xv:Value},VR φ (Nf φ) w x xv→VRL φ (Nf φ) w l us→minmaxL isMax x l = some q →
  ∃ rv,(us.foldlM (fun a b=>(if isMax then Builtin.max2 a b else Builtin.min2 a b)) xv).run P w = .ok rv w∧VR φ (Nf φ) w q rv
 | [],_,x,q,xv,hx,.nil,hm=>by
  simp only [minmaxL,oqI] at hm;subst hm
  exact ⟨xv,by simp,hx⟩
 | y::l,_,x,q,xv,hx,.cons _ yv _ us hy ht,hm=>by
  simp only [minmaxL,oqE,oqB] at hm
  obtain ⟨q',hq',hm⟩:=hm
  obtain ⟨rv,h1,h2⟩:=minmax_ok (P:=P) R hx hy hq'
  obtain ⟨rv',h3,h4⟩:=minmaxL_ok R h2 ht hm
  exact ⟨rv',by rw [List.foldlM_cons,Sem.run_bind,h1,Result.andThen_ok];exact h3,h4⟩
theorem builtin_ok (hP:OkT P) (R:Rel φ h w) {b:Builtin} {A:Array TypeId} {ty:TypeId} {cs:Array Bool} {args:List AS} {us:List Value} (hus:VRL φ (Nf φ) w args us) (hb:builtinA P b A.toList args h = some r) :
  OpR P φ h w r ((builtin b A ty cs us.toArray).run P w):=by
 have hA:∀ i t,A.toList[i]? = some t→A[i]? = some t:=fun i t h=>by rw [← Array.getElem?_toList];exact h
 unfold builtinA at hb
 split at hb
 ·-- len
  rename_i x
  cases hus with
  | cons _ xv _ _ hx ht =>
   cases ht
   simp only [oqE,oqB] at hb
   obtain ⟨n,hn,t,ht,d,hd,hb⟩:=hb
   have ht:=hA _ _ ht
   have hrun:∀ rv,(Builtin.len_ A ty #[xv]).run P w = .ok rv w→(builtin .len A ty cs [xv].toArray).run P w = .ok (.value rv) w:=fun rv he=>by
    show (do pure (Next.value (← Builtin.len_ A ty #[xv])):Sem Next).run P w = _
    rw [Sem.run_bind,he,Result.andThen_ok,Sem.run_pure]
   split at hb
   ·simp only [oqI] at hb;subst hb
    have e:=hx.str_inv;subst e
    simp only [lenS,oqI] at hn;subst hn
    rw [hrun (.int .i64 _) (by simp [Builtin.len_,ht,run_underlying hd,goInt];rfl)]
    exact OpR.same1 R (.int _ _)
   ·cases hb
   ·rename_i u hns
    simp only [oqI] at hb;subst hb
    have key:∃ aa cc,xv = .slice aa n cc:=by
     cases hx <;> simp [lenS] at hn <;> first | exact ⟨_,_,by rw [hn]⟩ | (subst hn;exact ⟨_,_,rfl⟩) | (exact absurd rfl (hns _))
    obtain ⟨aa,cc,e⟩:=key
    subst e
    rw [hrun (.int .i64 n) (by simp [Builtin.len_,ht,run_underlying hd,goInt])]
    exact OpR.same1 R (.int _ _)
   ·cases hb
 ·-- cap
  rename_i x
  cases hus with
  | cons _ xv _ _ hx ht =>
   cases ht
   simp only [oqE,oqB] at hb
   obtain ⟨t,ht,d,hd,hb⟩:=hb
   have ht:=hA _ _ ht
   split at hb
   ·simp only [oqB,oqI] at hb
    obtain ⟨c,hc,rfl⟩:=hb
    have key:∃ aa nn,xv = .slice aa nn c:=by
     cases hx <;> simp only [capA,reduceCtorEq] at hc
     ·simp only [oqI] at hc;subst hc;exact ⟨_,_,rfl⟩
     ·rename_i b v o n s c' L A' cap' hφ hs hA' hn hcap hx
      split at hc
      ·simp only [oqI] at hc;subst hc
       simp only at hcap
       exact ⟨_,_,by rw [hcap.1]⟩
      ·simp only [oqE,oqB] at hc
       obtain ⟨B,hB,E,hE,hc⟩:=hc
       split at hc
       ·rename_i hcc
        obtain ⟨h1,h2,h3,h4⟩:=hcc
        simp only [oqI] at hc
        obtain ⟨L',hL',hext,_,hlim,hfix,_⟩:=R.blk b B v E hB hE
        rw [hφ] at hL';cases hL'
        have:=(hfix h2).2 h1
        simp only at hcap
        refine ⟨some A',n, ?_⟩
        have e:cap' = c:=by
         rw [← hc,← this,← hcap,Nat.add_sub_cancel_left,Nat.mul_div_cancel _ hs]
        rw [e]
       ·cases hc
    obtain ⟨aa,nn,e⟩:=key
    subst e
    have hrun:(builtin .cap A ty cs [Value.slice aa nn c].toArray).run P w = .ok (.value (.int .i64 c)) w:=by
     show (do pure (Next.value (← Builtin.cap_ A ty #[Value.slice aa nn c])):Sem Next).run P w = _
     simp [Builtin.cap_,ht,run_underlying hd,goInt]
    rw [hrun]
    exact OpR.same1 R (.int _ _)
   ·cases hb
 ·-- append
  rename_i s x
  cases hus with
  | cons _ sv _ _ hs ht =>
   cases ht with
   | cons _ xv _ _ hx ht =>
    cases ht
    simp only [oqE,oqB,oqI] at hb
    obtain ⟨t,ht,u,hu,⟨q,h'⟩,hq,rfl⟩:=hb
    obtain ⟨rv,w',φ',h1,h2,h3,h4⟩:=append_ok (ty:=ty) hP R hs hx hq
    have hrun:(builtin .append A ty cs [sv,xv].toArray).run P w = .ok (.value rv) w':=by
     show (do pure (Next.value (← Builtin.append_ A ty #[sv,xv])):Sem Next).run P w = _
     rw [append_only A #[t,u] ty _ (hA _ _ ht) (hA _ _ hu),Sem.run_bind,h1,Result.andThen_ok,Sem.run_pure]
    rw [hrun]
    exact ⟨rv,w',φ',rfl,.one _ _ h2,h3,h4⟩
 ·-- copy
  rename_i s x
  cases hus with
  | cons _ sv _ _ hs ht =>
   cases ht with
   | cons _ xv _ _ hx ht =>
    cases ht
    simp only [oqE,oqB,oqI] at hb
    obtain ⟨t,ht,⟨q,h'⟩,hq,rfl⟩:=hb
    obtain ⟨rv,w',h1,h2,h3,h4⟩:=copy_ok (ty:=ty) R (hA _ _ ht) hs hx hq
    have hrun:(builtin .copy A ty cs [sv,xv].toArray).run P w = .ok (.value rv) w':=by
     show (do pure (Next.value (← Builtin.copy_ A ty #[sv,xv])):Sem Next).run P w = _
     rw [Sem.run_bind,h1,Result.andThen_ok,Sem.run_pure]
    rw [hrun]
    exact ⟨rv,w',φ,rfl,.one _ _ h2,h3,h4⟩
 ·-- clear
  rename_i s
  cases hus with
  | cons _ sv _ _ hs ht =>
   cases ht
   simp only [oqE,oqB,oqI] at hb
   obtain ⟨t,ht,h',hq,rfl⟩:=hb
   obtain ⟨w',h1,h3,h4⟩:=clear_ok (ty:=ty) R (hA _ _ ht) hs hq
   have hrun:(builtin .clear A ty cs [sv].toArray).run P w = .ok (.value (.tuple #[])) w':=by
    show (do pure (Next.value (← Builtin.clear_ A ty #[sv])):Sem Next).run P w = _
    rw [Sem.run_bind,h1,Result.andThen_ok,Sem.run_pure]
   rw [hrun]
   exact ⟨_,w',φ,rfl,.tup [] [] .nil,h3,h4⟩
 ·-- max
  rename_i x l
  cases hus with
  | cons _ xv _ us hx ht =>
   simp only [oqE,oqB,oqI] at hb
   obtain ⟨q,hq,rfl⟩:=hb
   obtain ⟨rv,h1,h2⟩:=minmaxL_ok (P:=P) R hx ht hq
   have hrun:(builtin .max A ty cs (xv::us).toArray).run P w = .ok (.value rv) w:=by
    show (do pure (Next.value (← Builtin.max_ A ty (xv::us).toArray)):Sem Next).run P w = _
    have:(Builtin.max_ A ty (xv::us).toArray).run P w = .ok rv w:=by simpa [Builtin.max_] using h1
    rw [Sem.run_bind,this,Result.andThen_ok,Sem.run_pure]
   rw [hrun]
   exact OpR.same1 R h2
 ·-- min
  rename_i x l
  cases hus with
  | cons _ xv _ us hx ht =>
   simp only [oqE,oqB,oqI] at hb
   obtain ⟨q,hq,rfl⟩:=hb
   obtain ⟨rv,h1,h2⟩:=minmaxL_ok (P:=P) R hx ht hq
   have hrun:(builtin .min A ty cs (xv::us).toArray).run P w = .ok (.value rv) w:=by
    show (do pure (Next.value (← Builtin.min_ A ty (xv::us).toArray)):Sem Next).run P w = _
    have:(Builtin.min_ A ty (xv::us).toArray).run P w = .ok rv w:=by simpa [Builtin.min_] using h1
    rw [Sem.run_bind,this,Result.andThen_ok,Sem.run_pure]
   rw [hrun]
   exact OpR.same1 R h2
 ·cases hb
theorem op_call (hP:OkT P) (R:Rel φ h w) (hf:AVL φ (Nf φ) w fr a.tmps.toList) {c:Call} (ho:o.op = .call c) (hr:opA P cmp fr h o = some r) :
  OpR P φ h w r ((execOp a.eval o).run P w):=by
 simp only [opA,ho,callA] at hr
 have hargs:c.args.map a.eval = (c.args.toList.map a.eval).toArray:=by rw [← Array.toList_map]
 split at hr
 ·rename_i b hb
  simp only [oqE,oqB] at hr
  obtain ⟨args,hargs',hr⟩:=hr
  have:=fun cs=>builtin_ok (ty:=o.type) (cs:=cs) hP R (evSL_ok hf hargs') hr
  simp only [execOp,ho,resolve,hb,invoke,hargs,Sem.run_bind,Sem.run_pure,Result.andThen_ok]
  exact this _
 ·rename_i f hc
  simp only [oqE,oqB] at hr
  obtain ⟨s,hs,hr⟩:=hr
  have h1:=evS_ok hf hs
  split at hr
  ·rename_i g first caps
   simp only [oqB,oqI] at hr
   obtain ⟨args,hargs',rfl⟩:=hr
   obtain ⟨vs1,vs2,h2,h3,e⟩:=h1.fn_inv
   refine ⟨rfl,vs1++(c.args.toList.map a.eval++vs2),(ones_ok h2).append ((evL_ok hf hargs').append (ones_ok h3)), ?_⟩
   simp [execOp,ho,resolve,hc,Deferred.ofValue,e,invoke,hargs]
  ·cases hr
 ·cases hr
theorem op_ok (hP:OkT P) (hC:∀ t z,cmp t = some z→CmpT P t z) (R:Rel φ h w) (hf:AVL φ (Nf φ) w fr a.tmps.toList) (hr:opA P cmp fr h o = some r):OpR P φ h w r ((execOp a.eval o).run P w):=by
 cases ho:o.op with
 | move x=>exact op_move R hf (.inl ho) hr
 | assign x=>exact op_move R hf (.inr ho) hr
 | pick c x y=>exact op_pick R hf ho hr
 | alloc t=>exact op_alloc R ho hr
 | box t x=>exact op_box R hf ho hr
 | build t ps=>exact op_build hP R hf ho hr
 | buildSlice t n ps=>exact op_buildSlice R hf ho hr
 | load t x=>exact op_load R hf ho hr
 | store t x y=>exact op_store R hf ho hr
 | nilCheck x=>exact op_nilCheck R hf ho hr
 | binOp op t x y u=>exact op_binOp hC R hf ho hr
 | unOp op t x=>exact op_unOp R hf ho hr
 | convert s d x=>exact op_convert R hf ho hr
 | makeInterface t x=>exact op_makeInterface R hf ho hr
 | makeFunc f x y=>exact op_makeFunc R hf ho hr
 | makeSlice t x y=>exact op_makeSlice R hf ho hr
 | slice t x lo hi mx=>exact op_slice R hf ho hr
 | fieldAddr t x i=>exact op_fieldAddr R hf ho hr
 | field t x i=>exact op_field R hf ho hr
 | indexAddr t x y=>exact op_indexAddr R hf ho hr
 | index t x y=>exact op_index R hf ho hr
 | extract x i=>exact op_extract R hf ho hr
 | call c=>exact op_call hP R hf ho hr
 | panic x=>exact op_panic R hf ho hr
 | _=>simp [opA,ho] at hr
end
end Go.Ab
