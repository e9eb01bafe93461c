/- The machine that the kernel runs, by bare recursors; it is sound. No conditions. -/
import Derived.Test.YtkpmdlcmbemgdaaGreatFa1
set_option linter.unusedVariables false
set_option linter.unusedSimpArgs false
namespace Go.Fa
open Ab (AS AV)
def hslot (i:Nat):Slot HT (Option FB) :=
 Slot.dig (Nat.mod (Nat.div i 32768) 8) (Slot.dig (Nat.mod (Nat.div i 4096) 8) (Slot.dig (Nat.mod (Nat.div i 512) 8) (Slot.dig (Nat.mod (Nat.div i 64) 8) (Slot.dig (Nat.mod (Nat.div i 8) 8) (Slot.dig (Nat.mod i 8) Slot.here)))))
theorem hslot_get (i:Nat) (t:HT):(hslot i).get t = HT.get t i:=by
 unfold hslot HT.get
 rw [dig_get (m8 _),dig_get (m8 _),dig_get (m8 _),dig_get (m8 _),dig_get (m8 _),dig_get (m8 _)];rfl
theorem hslot_set (i:Nat) (b:FB) (t:HT):(hslot i).set (some b) t = HT.set t i b:=by
 unfold hslot HT.set
 rw [dig_set (m8 _)];congr 1;funext t1
 rw [dig_set (m8 _)];congr 1;funext t2
 rw [dig_set (m8 _)];congr 1;funext t3
 rw [dig_set (m8 _)];congr 1;funext t4
 rw [dig_set (m8 _)];congr 1;funext t5
 rw [dig_set (m8 _)];rfl
def hslotS (n:Nat):Slot HT (Option FB):=hslot (Nat.succ n)
def cslotAt:Nat→Slot (N8 AS) AS→Slot Cs AS
 | 0,s=>⟨fun cs=>match cs with | c::_=>s.get c | []=>pad,fun x cs=>match cs with | c::r=>s.set x c::r | []=>[s.set x (N8.all pad)]⟩
 | m + 1,s=>(fun r:Slot Cs AS=>⟨fun cs=>match cs with | _::l=>r.get l | []=>pad,fun x cs=>match cs with | c::l=>c::r.set x l | []=>N8.all pad::r.set x []⟩) (cslotAt m s)
def cslot (o:Nat):Slot Cs AS:=cslotAt (Nat.div o 8) (Slot.dig (Nat.mod o 8) Slot.here)
theorem cslotAt_get {i:Nat} (hi:i < 8):∀ (m:Nat) (cs:Cs),(cslotAt m (Slot.dig i Slot.here)).get cs = view cs (8 * m + i)
 | 0,[]=>rfl
 | 0,c::cs=>by
  show (Slot.dig i Slot.here).get c = _
  rw [dig_get hi]
  simp only [view]
  rw [if_pos (by omega)]
  have:8 * 0 + i = i:=by omega
  rw [this];rfl
 | m + 1,[]=>rfl
 | m + 1,c::cs=>by
  show (cslotAt m (Slot.dig i Slot.here)).get cs = _
  rw [cslotAt_get hi m cs]
  simp only [view]
  rw [if_neg (by omega)]
  congr 1;omega
theorem cslot_get (o:Nat) (cs:Cs):(cslot o).get cs = view cs o:=by
 unfold cslot
 rw [cslotAt_get (m8 o)]
 congr 1
 have e:Nat.mod o 8 = o % 8:=rfl
 have d:Nat.div o 8 = o / 8:=rfl
 rw [e,d];omega
theorem cslotAt_set {i:Nat} (hi:i < 8) (x:AS):∀ (m:Nat) (cs:Cs),(cslotAt m (Slot.dig i Slot.here)).set x cs = wrAt m [x] i cs
 | 0,[]=>by
  show [(Slot.dig i Slot.here).set x (N8.all pad)] = _
  rw [dig_set hi,wrAt,wrGo]
  cases Nat.beq i 7 <;> rfl
 | 0,c::cs=>by
  show (Slot.dig i Slot.here).set x c::cs = _
  rw [dig_set hi,wrAt,wrGo]
  cases Nat.beq i 7 <;> rfl
 | m + 1,[]=>by
  show N8.all pad::(cslotAt m (Slot.dig i Slot.here)).set x [] = _
  rw [cslotAt_set hi x m [],wrAt]
 | m + 1,c::cs=>by
  show c::(cslotAt m (Slot.dig i Slot.here)).set x cs = _
  rw [cslotAt_set hi x m cs,wrAt]
theorem cslot_set (o:Nat) (x:AS) (cs:Cs):(cslot o).set x cs = wr cs o [x]:=by
 unfold cslot wr
 exact cslotAt_set (m8 o) x _ cs
theorem rd_one (cs:Cs) (o:Nat):rd cs o 1 = [view cs o]:=by rw [rd_view];rfl
def cslotS (n:Nat):Slot Cs AS:=cslot (Nat.succ n)
def cget (o:Nat) (cs:Cs):AS:=match o with
 | 0=>(cslot 0).get cs
 | n + 1=>(cslotS n).get cs
def cset (o:Nat) (x:AS) (cs:Cs):Cs:=match o with
 | 0=>(cslot 0).set x cs
 | n + 1=>(cslotS n).set x cs
theorem cget_eq (o:Nat) (cs:Cs):cget o cs = view cs o:=by cases o <;> exact cslot_get _ _
theorem cset_eq (o:Nat) (x:AS) (cs:Cs):cset o x cs = wr cs o [x]:=by cases o <;> exact cslot_set _ _ _
def atQ (t:FH) (b:Nat):Option FB:=match b with
 | 0=>(hslot 0).get t.t
 | n + 1=>bif Nat.blt n 262143 then (hslotS n).get t.t else none
theorem atQ_eq (t:FH) (b:Nat):atQ t b = t.at b:=by
 cases b with
 | zero=>exact hslot_get _ _
 | succ n =>
  show (bif Nat.blt n 262143 then (hslot (n + 1)).get t.t else none) = _
  unfold FH.at
  rw [hslot_get]
  have e:Nat.blt n 262143 = Nat.blt (n + 1) 262144:=rfl
  rw [e]
def setQ (t:FH) (b:Nat) (k:FB):FH:=match b with
 | 0=>⟨t.next,(hslot 0).set (some k) t.t⟩
 | n + 1=>⟨t.next,(hslotS n).set (some k) t.t⟩
theorem setQ_eq (t:FH) (b:Nat) (k:FB):setQ t b k = t.set b k:=by
 cases b with
 | zero=>simp only [setQ,FH.set,hslot_set]
 | succ n=>simp only [setQ,FH.set,hslotS,hslot_set]
def extQ (k:FB) (v:Nat):Option Nat:=match k with
 | ⟨ver,exts,_,_,_⟩=>bif Nat.beq v ver then (match exts with | e::_=>some e | []=>none) else bif Nat.ble v ver then nthN exts (Nat.sub ver v) else none
theorem extQ_eq (k:FB) (v:Nat):extQ k v = k.ext v:=by
 obtain ⟨ver,exts,fx,len,cs⟩:=k
 unfold extQ FB.ext
 simp only
 cases h:Nat.beq v ver with
 | false=>rfl
 | true =>
  have h1:v = ver:=oqN h
  subst h1
  have h2:Nat.ble v v = true:=le_ble (Nat.le_refl v)
  rw [h2]
  simp only [cond_true]
  have h3:Nat.sub v v = 0:=Nat.sub_self v
  rw [h3]
  cases exts <;> rfl
def read1 (t:FH) (p:AS):Option AS :=
 match p with
 | .ptr b v o=>match atQ t b with
  | some k=>match extQ k v with
   | some e=>bif Nat.blt o e then bif Nat.blt o k.len then some (cget o k.cs) else none else none
   | none=>none
  | none=>none
 | .rp cells o=>match Ab.sub cells o 1 with | some [x]=>some x | _=>none
 | _=>none
theorem read1_ok {t:FH} {p:AS} {a:AS} (h:read1 t p = some a):readF t p 1 = some [a]:=by
 unfold read1 at h
 unfold readF
 split at h
 ·rename_i b v o
  rw [atQ_eq] at h
  simp only
  split at h
  ·rename_i k hk
   simp only [hk]
   rw [extQ_eq] at h
   split at h
   ·rename_i e he
    simp only [he]
    obtain ⟨h1,h⟩:=bif_some h
    obtain ⟨h2,h⟩:=bif_some h
    have e1:Nat.ble (Nat.add o 1) e = true:=h1
    have e2:Nat.ble (Nat.add o 1) k.len = true:=h2
    rw [e1,e2]
    simp only [cond_true,oqI] at h ⊢
    rw [rd_one,← h,cget_eq]
   ·cases h
  ·cases h
 ·rename_i cells o
  simp only
  split at h
  ·rename_i x hx
   simp only [oqI] at h;subst h;exact hx
  ·cases h
 ·cases h
def readQ (t:FH) (p:AS) (n:Nat):Option (List AS) :=
 match p with
 | .ptr b v o=>match atQ t b with
  | some k=>match extQ k v with
   | some e=>bif Nat.ble (Nat.add o n) e then bif Nat.ble (Nat.add o n) k.len then some (rd k.cs o n) else none else none
   | none=>none
  | none=>none
 | .rp cells o=>Ab.sub cells o n
 | _=>none
theorem readQ_eq (t:FH) (p:AS) (n:Nat):readQ t p n = readF t p n:=by
 unfold readQ readF
 cases p <;> simp only [atQ_eq]
 case ptr b v o =>
  cases t.at b with
  | none=>rfl
  | some k =>
   simp only [extQ_eq]
   cases k.ext v <;> rfl
def write1 (t:FH) (p:AS) (a:AS):Option FH :=
 match p with
 | .ptr b v o=>match atQ t b with
  | some ⟨ver,exts,fx,len,cs⟩=>bif Nat.beq v ver then (match exts with
   | e::_=>bif Nat.blt o e then bif Nat.beq e len then some (setQ t b ⟨ver,[e],fx,len,cset o a cs⟩) else none else none
   | []=>none) else none
  | none=>none
 | _=>none
theorem write1_ok {t t':FH} {p:AS} {a:AS} (h:write1 t p a = some t'):writeF t p [a] = some t':=by
 unfold write1 at h
 unfold writeF
 split at h
 ·rename_i b v o
  rw [atQ_eq] at h
  simp only
  split at h
  ·rename_i ver exts fx len cs hk
   simp only [hk]
   obtain ⟨h0,h⟩:=bif_some h
   rw [h0]
   have h0':v = ver:=oqN h0
   subst h0'
   cases exts with
   | cons e l =>
    simp only at h
    have he:FB.ext ⟨v,e::l,fx,len,cs⟩ v = some e:=by rw [← extQ_eq];simp only [extQ,h0];rfl
    simp only [he,cond_true]
    obtain ⟨h1,h⟩:=bif_some h
    obtain ⟨h2,h⟩:=bif_some h
    have e1:Nat.ble (Nat.add o (lenA [a])) e = true:=h1
    rw [e1,h2]
    simp only [cond_true,oqI] at h ⊢
    rw [← h,setQ_eq,cset_eq]
   | nil=>cases h
  ·cases h
 ·cases h
def writeQ (t:FH) (p:AS) (l:List AS):Option FH :=
 match p with
 | .ptr b v o=>match atQ t b with
  | some ⟨ver,exts,fx,len,cs⟩=>bif Nat.beq v ver then (match exts with
   | e::_=>bif Nat.ble (Nat.add o (lenA l)) e then bif Nat.beq e len then some (setQ t b ⟨ver,[e],fx,len,wr cs o l⟩) else none else none
   | []=>none) else none
  | none=>none
 | _=>none
theorem writeQ_eq (t:FH) (p:AS) (l:List AS):writeQ t p l = writeF t p l:=by
 unfold writeQ writeF
 cases p <;> simp only [atQ_eq]
 case ptr b v o =>
  cases t.at b with
  | none=>rfl
  | some k =>
   obtain ⟨ver,exts,fx,len,cs⟩:=k
   simp only
   cases h0:Nat.beq v ver with
   | false=>rfl
   | true =>
    have h0':v = ver:=oqN h0
    subst h0'
    cases exts with
    | cons e l' =>
     have he:FB.ext ⟨v,e::l',fx,len,cs⟩ v = some e:=by rw [← extQ_eq];simp only [extQ,h0];rfl
     simp only [he,cond_true,setQ_eq]
    | nil =>
     have he:FB.ext ⟨v,[],fx,len,cs⟩ v = none:=by rw [← extQ_eq];simp only [extQ,h0];rfl
     simp only [he,cond_true]
def new1 (t:FH) (k:FB):Option (Nat × FH):=match t with
 | ⟨next,ht⟩=>match next with
  | 0=>some (0,⟨1,(hslot 0).set (some k) ht⟩)
  | n + 1=>bif Nat.blt n 262143 then some (Nat.succ n,⟨Nat.succ (Nat.succ n),(hslotS n).set (some k) ht⟩) else none
theorem new1_ok {t t':FH} {k:FB} {b:Nat} (h:new1 t k = some (b,t')):t.new k = some t'∧b = t.next:=by
 obtain ⟨next,ht⟩:=t
 cases next with
 | zero =>
  simp only [new1,oqI,oqM] at h
  obtain ⟨rfl,rfl⟩:=h
  exact ⟨by simp only [FH.new,hslot_set];rfl,rfl⟩
 | succ n =>
  simp only [new1] at h
  obtain ⟨h1,h⟩:=bif_some h
  simp only [oqI,oqM] at h
  obtain ⟨rfl,rfl⟩:=h
  have e1:Nat.blt (n + 1) 262144 = true:=h1
  exact ⟨by simp only [FH.new,e1,hslotS,hslot_set];rfl,rfl⟩
def newQ (t:FH) (l:List AS) (fixed:Bool):Option (Nat × FH):=(fun n=>new1 t ⟨0,[n],fixed,n,wr [] 0 l⟩) (lenA l)
theorem newQ_ok {t t':FH} {l:List AS} {f:Bool} {b:Nat} (h:newQ t l f = some (b,t')):newF t l f = some t'∧b = t.next:=new1_ok h
theorem newQ_eq (t:FH) (l:List AS) (f:Bool):newQ t l f = match newF t l f with | some t'=>some (t.next,t') | none=>none:=by
 unfold newQ newF
 generalize (⟨0,[lenA l],f,lenA l,wr [] 0 l⟩:FB) = k
 obtain ⟨next,ht⟩:=t
 simp only
 cases next with
 | zero=>simp only [new1,FH.new,hslot_set];rfl
 | succ n =>
  simp only [new1,FH.new]
  have e1:Nat.blt (n + 1) 262144 = Nat.blt n 262143:=rfl
  rw [e1]
  cases Nat.blt n 262143 with
  | true=>simp only [cond_true,hslotS,hslot_set]
  | false=>rfl
end Go.Fa
namespace Go.Fa
open Ab (AS AV OR Fr H CR Cls clsOf Ex Conf Calls' W X PrimOk)
structure Ag where
 g:FT→AV
structure IOp where
 f:IntKind→Int→Int→AS
def slowB (C:Conf) (op:BinOp) (ty:Nat) (x y:AV):Option AV:=match Ab.bin C.P C.cmp op ty x y with | some r=>some (.one r) | none=>none
def shr1 (k:IntKind) (a b:Nat):AV:=.one (.int k (.ofNat (Nat.div a (Nat.pow 2 b))))
def shrV (C:Conf) (ty:Nat) (x y:AV):Option AV :=
 match x with
 | .one (.int k (.ofNat a))=>match y with
  | .one (.int _ (.ofNat b))=>bif Nat.ble b 8 then some (shr1 k a b) else bif Nat.ble b k.bits then some (shr1 k a b) else slowB C .shr ty x y
  | y=>slowB C .shr ty x y
 | x=>slowB C .shr ty x y
def shlV (C:Conf) (ty:Nat) (x y:AV):Option AV :=
 match x with
 | .one (.int k (.ofNat a))=>match y with
  | .one (.int _ (.ofNat b))=>bif Nat.ble b 8 then some (.one (.int k (wrapA k (.ofNat (Nat.mul a (Nat.pow 2 b)))))) else slowB C .shl ty x y
  | y=>slowB C .shl ty x y
 | x=>slowB C .shl ty x y
theorem bits_ge (k:IntKind):8 ≤ k.bits:=by cases k <;> decide
theorem shr_eq (k k':IntKind) (a b:Nat) (hb:b ≤ k.bits):Ab.shiftI .shr k (.ofNat a) (.ofNat b) = some (.int k (.ofNat (Nat.div a (Nat.pow 2 b)))):=by
 unfold Ab.shiftI
 rw [if_neg (by simp only [Int.ofNat_eq_natCast];omega)]
 simp only [oqI,AS.int.injEq,true_and]
 have e:min (Int.ofNat b).toNat k.bits = b:=by
  have:(Int.ofNat b).toNat = b:=rfl
  rw [this];exact Nat.min_eq_left hb
 rw [e]
 have e2:(2:Int) ^ b = ((2 ^ b:Nat):Int):=by simp
 rw [e2,Int.ofNat_eq_natCast,← Int.ofNat_fdiv]
 rfl
theorem shl_eq (k:IntKind) (a b:Nat) (hb:b ≤ k.bits):Ab.shiftI .shl k (.ofNat a) (.ofNat b) = some (.int k (wrapA k (.ofNat (Nat.mul a (Nat.pow 2 b))))):=by
 unfold Ab.shiftI
 rw [if_neg (by simp only [Int.ofNat_eq_natCast];omega)]
 simp only [oqI,AS.int.injEq,true_and]
 have e:min (Int.ofNat b).toNat k.bits = b:=by
  have:(Int.ofNat b).toNat = b:=rfl
  rw [this];exact Nat.min_eq_left hb
 rw [e,wrapA_eq]
 have e2:Int.ofNat a * (2:Int) ^ b = Int.ofNat (Nat.mul a (Nat.pow 2 b)):=by
  have e3:(2:Int) ^ b = ((2 ^ b:Nat):Int):=by simp
  rw [e3];rfl
 rw [e2]
theorem slowB_ok {C:Conf} {op:BinOp} {ty:Nat} {x y a:AV} (h:slowB C op ty x y = some a):∃ r,Ab.bin C.P C.cmp op ty x y = some r∧a = .one r:=by
 unfold slowB at h
 split at h
 ·rename_i r hr
  simp only [oqI] at h;subst h
  exact ⟨r,hr,rfl⟩
 ·cases h
theorem shrV_ok {C:Conf} {ty:Nat} {x y a:AV} (h:shrV C ty x y = some a):∃ r,Ab.bin C.P C.cmp .shr ty x y = some r∧a = .one r:=by
 unfold shrV at h
 split at h
 ·rename_i k a1
  split at h
  ·rename_i k' b
   cases h8:Nat.ble b 8 with
   | true =>
    rw [h8] at h
    simp only [cond_true,oqI] at h;subst h
    exact ⟨_,shr_eq k k' a1 b (Nat.le_trans (ble_le h8) (bits_ge k)),rfl⟩
   | false =>
    rw [h8] at h
    simp only [cond_false] at h
    cases h9:Nat.ble b k.bits with
    | true =>
     rw [h9] at h
     simp only [cond_true,oqI] at h;subst h
     exact ⟨_,shr_eq k k' a1 b (ble_le h9),rfl⟩
    | false=>rw [h9] at h;exact slowB_ok h
  ·exact slowB_ok h
 ·exact slowB_ok h
theorem shlV_ok {C:Conf} {ty:Nat} {x y a:AV} (h:shlV C ty x y = some a):∃ r,Ab.bin C.P C.cmp .shl ty x y = some r∧a = .one r:=by
 unfold shlV at h
 split at h
 ·rename_i k a1
  split at h
  ·rename_i k' b
   cases h8:Nat.ble b 8 with
   | true =>
    rw [h8] at h
    simp only [cond_true,oqI] at h;subst h
    exact ⟨_,shl_eq k a1 b (Nat.le_trans (ble_le h8) (bits_ge k)),rfl⟩
   | false=>rw [h8] at h;exact slowB_ok h
  ·exact slowB_ok h
 ·exact slowB_ok h
def elemsQ (t:FH) (size:Nat) (x:AS):Option (Nat × List AS) :=
 match x with
 | .nilslc=>some (0,[])
 | .slc b v o k s _=>bif Nat.beq s size then (match readQ t (.ptr b v o) (Nat.mul k size) with
  | some l=>some (k,l)
  | none=>none) else none
 | x=>match Ab.lenS x with
  | some n=>match Ab.elemsOf (toH t) size n x with
   | some l=>some (n,l)
   | none=>none
  | none=>none
theorem elemsQ_ok {t:FH} {size:Nat} {x:AS} {n:Nat} {l:List AS} (h:elemsQ t size x = some (n,l)):Ab.lenS x = some n∧Ab.elemsOf (toH t) size n x = some l:=by
 unfold elemsQ at h
 split at h
 ·simp only [oqI,oqM] at h
  obtain ⟨rfl,rfl⟩:=h
  exact ⟨rfl,rfl⟩
 ·rename_i b v o k s c
  obtain ⟨hs,h⟩:=bif_some h
  have hs':=oqN hs
  subst hs'
  split at h
  ·rename_i l1 hl
   simp only [oqI,oqM] at h
   obtain ⟨rfl,rfl⟩:=h
   rw [readQ_eq] at hl
   refine ⟨rfl, ?_⟩
   simp only [Ab.elemsOf]
   rw [if_pos ⟨by trivial,Nat.le_refl _⟩]
   exact readF_ok (HR.self t) hl
  ·cases h
 ·split at h
  ·rename_i n1 hn
   split at h
   ·rename_i l1 hl
    simp only [oqI,oqM] at h
    obtain ⟨rfl,rfl⟩:=h
    exact ⟨hn,hl⟩
   ·cases h
  ·cases h
def appendQ (size bytes n:Nat) (new:List AS) (t:FH) (s:AS):Option (AS × FH) :=
 bif Nat.beq (lenA new) (Nat.mul n size) then bif Nat.beq size 0 then none else
 match s with
 | .nilslc=>bif Nat.beq n 0 then some (.nilslc,t) else
   bif Nat.ble (Nat.add (Nat.mul (Nat.add n 600) bytes) n) 17592186044416 then (match newQ t new false with | some (b,t')=>some (.slc b 0 0 n size none,t') | none=>none) else none
 | .slc b v o k s' c =>
  bif Nat.beq s' size then
  bif Nat.beq n 0 then some (.slc b v o k s' c,t) else
  bif Nat.ble (Nat.add (Nat.mul (Nat.add (Nat.add k n) 600) bytes) (Nat.add k n)) 17592186044416 then
  match atQ t b with
  | some B=>match extQ B v with
   | some E =>
    match c with
    | some _=>none
    | none =>
     bif Nat.beq v B.ver then bif Nat.beq E B.len then
     bif Nat.ble (Nat.add o (Nat.mul k size)) E then
     bif Nat.ble (Nat.add (Nat.add o (Nat.mul k size)) (lenA new)) E then (match writeQ t (.ptr b v (Nat.add o (Nat.mul k size))) new with | some t'=>some (.slc b v o (Nat.add k n) size none,t') | none=>none)
     else bif B.fixed then (match newQ t (rd B.cs o (Nat.mul k size)++new) false with | some (b',t')=>some (.slc b' 0 0 (Nat.add k n) size none,t') | none=>none)
     else bif Nat.beq o 0 then
      bif Nat.beq (Nat.mul k size) E then some (.slc b (Nat.succ v) 0 (Nat.add k n) size none,setQ t b ⟨Nat.succ v,Nat.add E (lenA new)::B.exts,false,Nat.add E (lenA new),wr B.cs E new⟩)
      else some (.slc b (Nat.succ v) 0 (Nat.add k n) size none,setQ t b ⟨Nat.succ v,[Nat.add (Nat.mul k size) (lenA new)],false,Nat.add (Nat.mul k size) (lenA new),wr B.cs (Nat.mul k size) new⟩)
     else (match newQ (setQ t b ⟨v,[],false,0,[]⟩) (rd B.cs o (Nat.mul k size)++new) false with | some (b',t')=>some (.slc b' 0 0 (Nat.add k n) size none,t') | none=>none)
     else none else none else none
   | none=>none
  | none=>none
  else none else none
 | _=>none else none
theorem appendQ_eq (size bytes n:Nat) (new:List AS) (t:FH) (s:AS):appendQ size bytes n new t s = appendF size bytes n new t s:=by
 unfold appendQ appendF
 cases Nat.beq (lenA new) (Nat.mul n size) with
 | false=>rfl
 | true =>
 simp only [cond_true]
 cases Nat.beq size 0 with
 | true=>rfl
 | false =>
 simp only [cond_false]
 cases s <;> simp only
 case nilslc =>
  rw [newQ_eq]
  cases newF t new false <;> rfl
 case slc b v o k s' c =>
  rw [atQ_eq]
  cases t.at b with
  | none=>rfl
  | some B =>
   simp only [extQ_eq]
   cases B.ext v with
   | none=>rfl
   | some E =>
    cases c with
    | some cc=>rfl
    | none =>
     simp only [writeQ_eq,newQ_eq,setQ_eq]
     cases newF (t.set b ⟨v,[],false,0,[]⟩) (rd B.cs o (Nat.mul k size)++new) false <;> cases newF t (rd B.cs o (Nat.mul k size)++new) false <;> cases writeF t (.ptr b v (Nat.add o (Nat.mul k size))) new <;> rfl
end Go.Fa
namespace Go.Fa
open Ab (AS AV)
section
variable {α β:Type}
noncomputable def digR (i:Nat) (s:Slot α β):Slot (N8 α) β :=
 match i with
 | 0=>⟨fun t=>s.get t.a,fun x t=>@N8.rec α (fun _=>N8 α) (fun a b c d e f g h=>⟨s.set x a,b,c,d,e,f,g,h⟩) t⟩
 | 1=>⟨fun t=>s.get t.b,fun x t=>@N8.rec α (fun _=>N8 α) (fun a b c d e f g h=>⟨a,s.set x b,c,d,e,f,g,h⟩) t⟩
 | 2=>⟨fun t=>s.get t.c,fun x t=>@N8.rec α (fun _=>N8 α) (fun a b c d e f g h=>⟨a,b,s.set x c,d,e,f,g,h⟩) t⟩
 | 3=>⟨fun t=>s.get t.d,fun x t=>@N8.rec α (fun _=>N8 α) (fun a b c d e f g h=>⟨a,b,c,s.set x d,e,f,g,h⟩) t⟩
 | 4=>⟨fun t=>s.get t.e,fun x t=>@N8.rec α (fun _=>N8 α) (fun a b c d e f g h=>⟨a,b,c,d,s.set x e,f,g,h⟩) t⟩
 | 5=>⟨fun t=>s.get t.f,fun x t=>@N8.rec α (fun _=>N8 α) (fun a b c d e f g h=>⟨a,b,c,d,e,s.set x f,g,h⟩) t⟩
 | 6=>⟨fun t=>s.get t.g,fun x t=>@N8.rec α (fun _=>N8 α) (fun a b c d e f g h=>⟨a,b,c,d,e,f,s.set x g,h⟩) t⟩
 | _=>⟨fun t=>s.get t.h,fun x t=>@N8.rec α (fun _=>N8 α) (fun a b c d e f g h=>⟨a,b,c,d,e,f,g,s.set x h⟩) t⟩
theorem digR_eq (i:Nat) (s:Slot α β):digR i s = Slot.dig i s :=
 match i with
 | 0=>rfl
 | 1=>rfl
 | 2=>rfl
 | 3=>rfl
 | 4=>rfl
 | 5=>rfl
 | 6=>rfl
 | _ + 7=>rfl
end
noncomputable def slotR (i:Nat):Slot FT AV:=digR (Nat.mod i 8) (digR (Nat.mod (Nat.div i 8) 8) (digR (Nat.mod (Nat.div i 64) 8) Slot.here))
theorem slotR_eq (i:Nat):slotR i = slot i:=by unfold slotR slot;simp only [digR_eq]
noncomputable def hslotR (i:Nat):Slot HT (Option FB) :=
 digR (Nat.mod (Nat.div i 32768) 8) (digR (Nat.mod (Nat.div i 4096) 8) (digR (Nat.mod (Nat.div i 512) 8) (digR (Nat.mod (Nat.div i 64) 8) (digR (Nat.mod (Nat.div i 8) 8) (digR (Nat.mod i 8) Slot.here)))))
theorem hslotR_eq (i:Nat):hslotR i = hslot i:=by unfold hslotR hslot;simp only [digR_eq]
noncomputable def hslotRS (n:Nat):Slot HT (Option FB):=hslotR (Nat.succ n)
noncomputable def cslotAtR:Nat→Slot (N8 AS) AS→Slot Cs AS
 | 0,s=>⟨fun cs=>@List.rec (N8 AS) (fun _=>AS) pad (fun c _ _=>s.get c) cs,fun x cs=>@List.rec (N8 AS) (fun _=>Cs) [s.set x (N8.all pad)] (fun c r _=>s.set x c::r) cs⟩
 | m + 1,s=>(fun r:Slot Cs AS=>⟨fun cs=>@List.rec (N8 AS) (fun _=>AS) pad (fun _ l _=>r.get l) cs,fun x cs=>@List.rec (N8 AS) (fun _=>Cs) (N8.all pad::r.set x []) (fun c l _=>c::r.set x l) cs⟩) (cslotAtR m s)
theorem cslotAtR_eq (s:Slot (N8 AS) AS):∀ m,cslotAtR m s = cslotAt m s
 | 0=>by
  unfold cslotAtR cslotAt
  congr 1
  ·funext cs;cases cs <;> rfl
  ·funext x cs;cases cs <;> rfl
 | m + 1=>by
  unfold cslotAtR cslotAt
  rw [cslotAtR_eq s m]
  generalize cslotAt m s = r
  show (⟨_,_⟩:Slot Cs AS) = ⟨_,_⟩
  congr 1
  ·funext cs;cases cs <;> rfl
  ·funext x cs;cases cs <;> rfl
noncomputable def cslotR (o:Nat):Slot Cs AS:=cslotAtR (Nat.div o 8) (digR (Nat.mod o 8) Slot.here)
theorem cslotR_eq (o:Nat):cslotR o = cslot o:=by unfold cslotR cslot;rw [cslotAtR_eq,digR_eq]
noncomputable def cslotRS (n:Nat):Slot Cs AS:=cslotR (Nat.succ n)
noncomputable def cgetR (o:Nat) (cs:Cs):AS:=@Nat.rec (fun _=>AS) ((cslotR 0).get cs) (fun n _=>(cslotRS n).get cs) o
noncomputable def csetR (o:Nat) (x:AS) (cs:Cs):Cs:=@Nat.rec (fun _=>Cs) ((cslotR 0).set x cs) (fun n _=>(cslotRS n).set x cs) o
theorem cgetR_eq (o:Nat) (cs:Cs):cgetR o cs = cget o cs:=by
 cases o with
 | zero=>show (cslotR 0).get cs = _;rw [cslotR_eq];rfl
 | succ n=>show (cslotR (n + 1)).get cs = _;rw [cslotR_eq];rfl
theorem csetR_eq (o:Nat) (x:AS) (cs:Cs):csetR o x cs = cset o x cs:=by
 cases o with
 | zero=>show (cslotR 0).set x cs = _;rw [cslotR_eq];rfl
 | succ n=>show (cslotR (n + 1)).set x cs = _;rw [cslotR_eq];rfl
structure KI where
 k:IntKind
 n:Int
structure P3 where
 b:Nat
 v:Nat
 o:Nat
structure S6 where
 b:Nat
 v:Nat
 o:Nat
 n:Nat
 s:Nat
 c:Option Nat
noncomputable def gIntS:AS→Option KI:=@AS.rec (fun _=>Option KI) (fun _=>PUnit) (fun _=>none) (fun k n=>some ⟨k,n⟩) (fun _=>none) none none none (fun _=>none) none (fun _ _ _=>none) (fun _ _ _=>none) none (fun _ _ _ _ _ _=>none) (fun _ _ _ _=>none) (fun _ _ _ _ _=>none) none (fun _ _ _=>none) none PUnit.unit (fun _ _ _ _=>PUnit.unit)
noncomputable def gInt:AV→Option KI:=@AV.rec (fun _=>Option KI) none gIntS (fun _=>none) (fun _=>none) none
noncomputable def gBoolS:AS→Option Bool:=@AS.rec (fun _=>Option Bool) (fun _=>PUnit) (fun b=>some b) (fun _ _=>none) (fun _=>none) none none none (fun _=>none) none (fun _ _ _=>none) (fun _ _ _=>none) none (fun _ _ _ _ _ _=>none) (fun _ _ _ _=>none) (fun _ _ _ _ _=>none) none (fun _ _ _=>none) none PUnit.unit (fun _ _ _ _=>PUnit.unit)
noncomputable def gBool:AV→Option Bool:=@AV.rec (fun _=>Option Bool) none gBoolS (fun _=>none) (fun _=>none) none
noncomputable def gPtrS:AS→Option P3:=@AS.rec (fun _=>Option P3) (fun _=>PUnit) (fun _=>none) (fun _ _=>none) (fun _=>none) none none none (fun _=>none) none (fun b v o=>some ⟨b,v,o⟩) (fun _ _ _=>none) none (fun _ _ _ _ _ _=>none) (fun _ _ _ _=>none) (fun _ _ _ _ _=>none) none (fun _ _ _=>none) none PUnit.unit (fun _ _ _ _=>PUnit.unit)
noncomputable def gPtr:AV→Option P3:=@AV.rec (fun _=>Option P3) none gPtrS (fun _=>none) (fun _=>none) none
noncomputable def gSlcS:AS→Option S6:=@AS.rec (fun _=>Option S6) (fun _=>PUnit) (fun _=>none) (fun _ _=>none) (fun _=>none) none none none (fun _=>none) none (fun _ _ _=>none) (fun _ _ _=>none) none (fun b v o n s c=>some ⟨b,v,o,n,s,c⟩) (fun _ _ _ _=>none) (fun _ _ _ _ _=>none) none (fun _ _ _=>none) none PUnit.unit (fun _ _ _ _=>PUnit.unit)
noncomputable def gSlc:AV→Option S6:=@AV.rec (fun _=>Option S6) none gSlcS (fun _=>none) (fun _=>none) none
noncomputable def gLenS:AS→Option Nat:=@AS.rec (fun _=>Option Nat) (fun _=>PUnit) (fun _=>none) (fun _ _=>none) (fun _=>none) none none none (fun _=>none) none (fun _ _ _=>none) (fun _ _ _=>none) (some 0) (fun _ _ _ n _ _=>some n) (fun n _ _ _=>some n) (fun _ _ _ _ _=>none) none (fun _ _ _=>none) none PUnit.unit (fun _ _ _ _=>PUnit.unit)
noncomputable def gLen:AV→Option Nat:=@AV.rec (fun _=>Option Nat) none gLenS (fun _=>none) (fun _=>none) none
noncomputable def gOne:AV→Option AS:=@AV.rec (fun _=>Option AS) none (fun a=>some a) (fun _=>none) (fun _=>none) none
noncomputable def gTup:AV→Option (List (Bool × List AS)):=@AV.rec (fun _=>Option (List (Bool × List AS))) none (fun _=>none) (fun _=>none) (fun l=>some l) none
noncomputable def gNatI:Int→Option Nat:=@Int.rec (fun _=>Option Nat) (fun n=>some n) (fun _=>none)
theorem gIntS_ok {x:AS} {q:KI} (h:gIntS x = some q):x = .int q.k q.n:=by
 cases x <;> first | (cases h;rfl) | (cases h)
theorem gInt_ok {x:AV} {q:KI} (h:gInt x = some q):x = .one (.int q.k q.n):=by
 cases x <;> first | (rw [gIntS_ok (x:=_) (q:=q) h]) | cases h
theorem gBoolS_ok {x:AS} {q:Bool} (h:gBoolS x = some q):x = .bool q:=by
 cases x <;> first | (cases h;rfl) | (cases h)
theorem gBool_ok {x:AV} {q:Bool} (h:gBool x = some q):x = .one (.bool q):=by
 cases x <;> first | (rw [gBoolS_ok (x:=_) (q:=q) h]) | cases h
theorem gPtrS_ok {x:AS} {q:P3} (h:gPtrS x = some q):x = .ptr q.b q.v q.o:=by
 cases x <;> first | (cases h;rfl) | (cases h)
theorem gPtr_ok {x:AV} {q:P3} (h:gPtr x = some q):x = .one (.ptr q.b q.v q.o):=by
 cases x <;> first | (rw [gPtrS_ok (x:=_) (q:=q) h]) | cases h
theorem gSlcS_ok {x:AS} {q:S6} (h:gSlcS x = some q):x = .slc q.b q.v q.o q.n q.s q.c:=by
 cases x <;> first | (cases h;rfl) | (cases h)
theorem gSlc_ok {x:AV} {q:S6} (h:gSlc x = some q):x = .one (.slc q.b q.v q.o q.n q.s q.c):=by
 cases x <;> first | (rw [gSlcS_ok (x:=_) (q:=q) h]) | cases h
theorem gLenS_ok {x:AS} {n:Nat} (h:gLenS x = some n):Ab.lenS x = some n∧∀ s,x ≠ .str s:=by
 cases x <;> first | (cases h;done) | exact ⟨h,fun s e=>by cases e⟩
theorem gOne_ok {x:AV} {a:AS} (h:gOne x = some a):x = .one a:=by
 cases x <;> first | (cases h;rfl) | (cases h)
theorem gLen_ok {x:AV} {n:Nat} (h:gLen x = some n):∃ a,x = .one a∧Ab.lenS a = some n∧∀ s,a ≠ .str s:=by
 cases x with
 | one a=>exact ⟨a,rfl,gLenS_ok h⟩
 | _=>cases h
theorem gTup_ok {x:AV} {l:List (Bool × List AS)} (h:gTup x = some l):x = .tup l:=by
 cases x <;> first | (cases h;rfl) | (cases h)
theorem gNatI_ok {x:Int} {n:Nat} (h:gNatI x = some n):x = .ofNat n:=by
 cases x <;> first | (cases h;rfl) | (cases h)
noncomputable def lenR:List AS→Nat:=@List.rec AS (fun _=>Nat) 0 (fun _ _ ih=>Nat.succ ih)
theorem lenR_eq:∀ l:List AS,lenR l = lenA l
 | []=>rfl
 | _::l=>congrArg Nat.succ (lenR_eq l)
noncomputable def lenVR:List AV→Nat:=@List.rec AV (fun _=>Nat) 0 (fun _ _ ih=>Nat.succ ih)
theorem lenVR_eq:∀ l:List AV,lenVR l = lenV l
 | []=>rfl
 | _::l=>congrArg Nat.succ (lenVR_eq l)
noncomputable def putR (l:List AV) (i:Nat) (ft:FT):FT:=@List.rec AV (fun _=>Nat→FT→FT) (fun _ ft=>ft) (fun a _ ih i ft=>ih (Nat.succ i) ((slotR i).set a ft)) l i ft
theorem putR_eq:∀ (l:List AV) (i:Nat) (ft:FT),putR l i ft = putArgs ft i l
 | [],_,_=>rfl
 | a::l,i,ft=>by
  show putR l (i + 1) ((slotR i).set a ft) = _
  rw [putR_eq l,slotR_eq];rfl
noncomputable def rdGoR (n i:Nat) (cs:Cs):List AS :=
 @Nat.rec (fun _=>Nat→Cs→List AS) (fun _ _=>[]) (fun _ ih i cs=>@List.rec (N8 AS) (fun _=>List AS) (pad::ih i []) (fun c r _=>N8.sel i c::@Bool.rec (fun _=>List AS) (ih (Nat.succ i) cs) (ih 0 r) (Nat.beq i 7)) cs) n i cs
theorem rdGoR_eq:∀ (n i:Nat) (cs:Cs),rdGoR n i cs = rdGo n i cs
 | 0,_,_=>rfl
 | n + 1,i,[]=>by
  show pad::rdGoR n i [] = _
  rw [rdGoR_eq n,rdGo]
 | n + 1,i,c::cs=>by
  show N8.sel i c::@Bool.rec (fun _=>List AS) (rdGoR n (i + 1) (c::cs)) (rdGoR n 0 cs) (Nat.beq i 7) = _
  rw [rdGoR_eq n,rdGoR_eq n,rdGo]
  cases Nat.beq i 7 <;> rfl
noncomputable def rdAtR (m n i:Nat) (cs:Cs):List AS :=
 @Nat.rec (fun _=>Cs→List AS) (fun cs=>rdGoR n i cs) (fun _ ih cs=>@List.rec (N8 AS) (fun _=>List AS) (rdGoR n i []) (fun _ r _=>ih r) cs) m cs
theorem rdAtR_eq:∀ (m n i:Nat) (cs:Cs),rdAtR m n i cs = rdAt m n i cs
 | 0,n,i,cs=>rdGoR_eq n i cs
 | m + 1,n,i,[]=>rdGoR_eq n i []
 | m + 1,n,i,c::cs=>rdAtR_eq m n i cs
noncomputable def rdR (cs:Cs) (o n:Nat):List AS:=rdAtR (Nat.div o 8) n (Nat.mod o 8) cs
theorem rdR_eq (cs:Cs) (o n:Nat):rdR cs o n = rd cs o n:=rdAtR_eq _ _ _ _
noncomputable def updR (i:Nat) (a:AS) (c:N8 AS):N8 AS:=(digR i (Slot.here (β:=AS))).set a c
theorem updR_eq {i:Nat} (hi:i < 8) (a:AS) (c:N8 AS):updR i a c = N8.upd i (fun _=>a) c:=by
 unfold updR
 rw [digR_eq,dig_set hi];rfl
noncomputable def wrGoR (l:List AS) (i:Nat) (cs:Cs):Cs :=
 @List.rec AS (fun _=>Nat→Cs→Cs) (fun _ cs=>cs) (fun a _ ih i cs=>@List.rec (N8 AS) (fun _=>Cs) (@Bool.rec (fun _=>Cs) (ih (Nat.succ i) [updR i a (N8.all pad)]) (updR i a (N8.all pad)::ih 0 []) (Nat.beq i 7)) (fun c r _=>@Bool.rec (fun _=>Cs) (ih (Nat.succ i) (updR i a c::r)) (updR i a c::ih 0 r) (Nat.beq i 7)) cs) l i cs
theorem wrGoR_eq:∀ (l:List AS) (i:Nat) (cs:Cs),i < 8→wrGoR l i cs = wrGo l i cs
 | [],_,_,_=>rfl
 | a::l,i,[],hi=>by
  show @Bool.rec (fun _=>Cs) (wrGoR l (i + 1) [updR i a (N8.all pad)]) (updR i a (N8.all pad)::wrGoR l 0 []) (Nat.beq i 7) = _
  rw [wrGo,updR_eq hi]
  cases h7:Nat.beq i 7 with
  | true=>simp only [cond_true];rw [wrGoR_eq l 0 [] (by decide)]
  | false =>
   have:i ≠ 7:=by rintro rfl;exact absurd h7 (by decide)
   simp only [cond_false];rw [wrGoR_eq l (i + 1) _ (by omega)]
 | a::l,i,c::cs,hi=>by
  show @Bool.rec (fun _=>Cs) (wrGoR l (i + 1) (updR i a c::cs)) (updR i a c::wrGoR l 0 cs) (Nat.beq i 7) = _
  rw [wrGo,updR_eq hi]
  cases h7:Nat.beq i 7 with
  | true=>simp only [cond_true];rw [wrGoR_eq l 0 cs (by decide)]
  | false =>
   have:i ≠ 7:=by rintro rfl;exact absurd h7 (by decide)
   simp only [cond_false];rw [wrGoR_eq l (i + 1) _ (by omega)]
noncomputable def wrAtR (m:Nat) (l:List AS) (i:Nat) (cs:Cs):Cs :=
 @Nat.rec (fun _=>Cs→Cs) (fun cs=>wrGoR l i cs) (fun _ ih cs=>@List.rec (N8 AS) (fun _=>Cs) (N8.all pad::ih []) (fun c r _=>c::ih r) cs) m cs
theorem wrAtR_eq:∀ (m:Nat) (l:List AS) (i:Nat) (cs:Cs),i < 8→wrAtR m l i cs = wrAt m l i cs
 | 0,l,i,cs,hi=>wrGoR_eq l i cs hi
 | m + 1,l,i,[],hi=>by
  show N8.all pad::wrAtR m l i [] = _
  rw [wrAtR_eq m l i [] hi,wrAt]
 | m + 1,l,i,c::cs,hi=>by
  show c::wrAtR m l i cs = _
  rw [wrAtR_eq m l i cs hi,wrAt]
noncomputable def wrR (cs:Cs) (o:Nat) (l:List AS):Cs:=wrAtR (Nat.div o 8) l (Nat.mod o 8) cs
theorem wrR_eq (cs:Cs) (o:Nat) (l:List AS):wrR cs o l = wr cs o l:=wrAtR_eq _ _ _ _ (m8 o)
noncomputable def atR (t:FH) (b:Nat):Option FB:=@Nat.rec (fun _=>Option FB) ((hslotR 0).get t.t) (fun n _=>@Bool.rec (fun _=>Option FB) none ((hslotRS n).get t.t) (Nat.blt n 262143)) b
theorem atR_eq (t:FH) (b:Nat):atR t b = atQ t b:=by
 cases b with
 | zero=>show (hslotR 0).get t.t = _;rw [hslotR_eq];rfl
 | succ n =>
  show @Bool.rec (fun _=>Option FB) none ((hslotR (n + 1)).get t.t) (Nat.blt n 262143) = bif Nat.blt n 262143 then (hslot (n + 1)).get t.t else none
  rw [hslotR_eq]
  cases Nat.blt n 262143 <;> rfl
noncomputable def setR (t:FH) (b:Nat) (k:FB):FH:=⟨t.next,@Nat.rec (fun _=>HT) ((hslotR 0).set (some k) t.t) (fun n _=>(hslotRS n).set (some k) t.t) b⟩
theorem setR_eq (t:FH) (b:Nat) (k:FB):setR t b k = setQ t b k:=by
 cases b with
 | zero=>show (⟨t.next,(hslotR 0).set (some k) t.t⟩:FH) = _;rw [hslotR_eq];rfl
 | succ n=>show (⟨t.next,(hslotR (n + 1)).set (some k) t.t⟩:FH) = _;rw [hslotR_eq];rfl
noncomputable def extR (k:FB) (v:Nat):Option Nat:=@Bool.rec (fun _=>Option Nat) (extQ k v) (@List.rec Nat (fun _=>Option Nat) none (fun e _ _=>some e) k.exts) (Nat.beq v k.ver)
theorem extR_eq (k:FB) (v:Nat):extR k v = extQ k v:=by
 obtain ⟨ver,exts,fx,len,cs⟩:=k
 unfold extR
 cases h:Nat.beq v ver with
 | false=>rfl
 | true =>
  simp only [extQ,h,cond_true]
  cases exts <;> rfl
noncomputable def read1R (t:FH) (p:P3):Option AS :=
 @Option.rec FB (fun _=>Option AS) none (fun k=>@Option.rec Nat (fun _=>Option AS) none (fun e=>@Bool.rec (fun _=>Option AS) none (@Bool.rec (fun _=>Option AS) none (some (cgetR p.o k.cs)) (Nat.blt p.o k.len)) (Nat.blt p.o e)) (extR k p.v)) (atR t p.b)
theorem read1R_ok {t:FH} {p:P3} {a:AS} (h:read1R t p = some a):readF t (.ptr p.b p.v p.o) 1 = some [a]:=by
 refine read1_ok ?_
 unfold read1R at h
 unfold read1
 rw [atR_eq] at h
 simp only
 cases hk:atQ t p.b with
 | none=>rw [hk] at h;cases h
 | some k =>
  rw [hk] at h
  simp only at h ⊢
  rw [extR_eq] at h
  cases he:extQ k p.v with
  | none=>rw [he] at h;cases h
  | some e =>
   rw [he] at h
   simp only at h ⊢
   cases h1:Nat.blt p.o e with
   | false=>rw [h1] at h;cases h
   | true =>
    rw [h1] at h
    simp only [cond_true] at h ⊢
    cases h2:Nat.blt p.o k.len with
    | false=>rw [h2] at h;cases h
    | true =>
     rw [h2] at h
     simp only [cond_true] at h ⊢
     rw [← cgetR_eq];exact h
noncomputable def readR (t:FH) (p:P3) (n:Nat):Option (List AS) :=
 @Option.rec FB (fun _=>Option (List AS)) none (fun k=>@Option.rec Nat (fun _=>Option (List AS)) none (fun e=>@Bool.rec (fun _=>Option (List AS)) none (@Bool.rec (fun _=>Option (List AS)) none (some (rdR k.cs p.o n)) (Nat.ble (Nat.add p.o n) k.len)) (Nat.ble (Nat.add p.o n) e)) (extR k p.v)) (atR t p.b)
theorem readR_ok {t:FH} {p:P3} {n:Nat} {l:List AS} (h:readR t p n = some l):readF t (.ptr p.b p.v p.o) n = some l:=by
 rw [← readQ_eq]
 unfold readR at h
 unfold readQ
 rw [atR_eq] at h
 simp only
 cases hk:atQ t p.b with
 | none=>rw [hk] at h;cases h
 | some k =>
  rw [hk] at h
  simp only at h ⊢
  rw [extR_eq] at h
  cases he:extQ k p.v with
  | none=>rw [he] at h;cases h
  | some e =>
   rw [he] at h
   simp only at h ⊢
   cases h1:Nat.ble (Nat.add p.o n) e with
   | false=>rw [h1] at h;cases h
   | true =>
    rw [h1] at h
    simp only [cond_true] at h ⊢
    cases h2:Nat.ble (Nat.add p.o n) k.len with
    | false=>rw [h2] at h;cases h
    | true =>
     rw [h2] at h
     simp only [cond_true] at h ⊢
     rw [← rdR_eq];exact h
noncomputable def wb (b:Nat) (v:Nat) (hi:Nat→Bool) (cs:Cs→Cs) (t:FH):Option FH :=
 @Option.rec FB (fun _=>Option FH) none (fun k=>@Bool.rec (fun _=>Option FH) none (@List.rec Nat (fun _=>Option FH) none (fun e _ _=>@Bool.rec (fun _=>Option FH) none (@Bool.rec (fun _=>Option FH) none (some (setR t b ⟨k.ver,[e],k.fixed,k.len,cs k.cs⟩)) (Nat.beq e k.len)) (hi e)) k.exts) (Nat.beq v k.ver)) (atR t b)
noncomputable def write1R (t:FH) (p:P3) (a:AS):Option FH:=wb p.b p.v (fun e=>Nat.blt p.o e) (fun cs=>csetR p.o a cs) t
noncomputable def writeR (t:FH) (p:P3) (l:List AS):Option FH:=wb p.b p.v (fun e=>Nat.ble (Nat.add p.o (lenR l)) e) (fun cs=>wrR cs p.o l) t
theorem wb_ok {b v:Nat} {hi:Nat→Bool} {cs:Cs→Cs} {t t':FH} (h:wb b v hi cs t = some t'):∃ ver exts fx len c e l,atQ t b = some ⟨ver,exts,fx,len,c⟩∧Nat.beq v ver = true∧exts = e::l∧hi e = true∧Nat.beq e len = true∧t' = setQ t b ⟨ver,[e],fx,len,cs c⟩:=by
 unfold wb at h
 rw [atR_eq] at h
 cases hk:atQ t b with
 | none=>rw [hk] at h;cases h
 | some k =>
  obtain ⟨ver,exts,fx,len,c⟩:=k
  rw [hk] at h
  simp only at h
  cases h0:Nat.beq v ver with
  | false=>rw [h0] at h;cases h
  | true =>
   rw [h0] at h
   simp only at h
   cases exts with
   | nil=>cases h
   | cons e l =>
    simp only at h
    cases h1:hi e with
    | false=>rw [h1] at h;cases h
    | true =>
     rw [h1] at h
     simp only at h
     cases h2:Nat.beq e len with
     | false=>rw [h2] at h;cases h
     | true =>
      rw [h2] at h
      simp only [oqI] at h
      exact ⟨ver,_,fx,len,c,e,l,rfl,h0,rfl,h1,h2,by rw [← setR_eq];exact h.symm⟩
theorem write1R_ok {t t':FH} {p:P3} {a:AS} (h:write1R t p a = some t'):writeF t (.ptr p.b p.v p.o) [a] = some t':=by
 refine write1_ok ?_
 obtain ⟨ver,exts,fx,len,c,e,l,hk,h0,rfl,h1,h2,rfl⟩:=wb_ok h
 unfold write1
 simp only [hk,h0,cond_true,h1,h2,csetR_eq]
theorem writeR_ok {t t':FH} {p:P3} {l:List AS} (h:writeR t p l = some t'):writeF t (.ptr p.b p.v p.o) l = some t':=by
 rw [← writeQ_eq]
 obtain ⟨ver,exts,fx,len,c,e,l',hk,h0,rfl,h1,h2,rfl⟩:=wb_ok h
 rw [lenR_eq] at h1
 unfold writeQ
 simp only [hk,h0,cond_true,h1,h2,wrR_eq]
structure NB where
 b:Nat
 t:FH
noncomputable def newR (t:FH) (l:List AS) (fixed:Bool):Option NB :=
 @Nat.rec (fun _=>Option NB) (some ⟨0,⟨1,(hslotR 0).set (some ⟨0,[lenR l],fixed,lenR l,wrR [] 0 l⟩) t.t⟩⟩) (fun n _=>@Bool.rec (fun _=>Option NB) none (some ⟨Nat.succ n,⟨Nat.succ (Nat.succ n),(hslotRS n).set (some ⟨0,[lenR l],fixed,lenR l,wrR [] 0 l⟩) t.t⟩⟩) (Nat.blt n 262143)) t.next
theorem newR_ok {t:FH} {l:List AS} {f:Bool} {x:NB} (h:newR t l f = some x):newQ t l f = some (x.b,x.t):=by
 obtain ⟨next,ht⟩:=t
 cases next with
 | zero =>
  have h':some (⟨0,⟨1,(hslotR 0).set (some ⟨0,[lenR l],f,lenR l,wrR [] 0 l⟩) ht⟩⟩:NB) = some x:=h
  rw [hslotR_eq,lenR_eq,wrR_eq] at h'
  simp only [oqI] at h'
  subst h'
  rfl
 | succ n =>
  have h':@Bool.rec (fun _=>Option NB) none (some ⟨Nat.succ n,⟨Nat.succ (Nat.succ n),(hslotR (n + 1)).set (some ⟨0,[lenR l],f,lenR l,wrR [] 0 l⟩) ht⟩⟩) (Nat.blt n 262143) = some x:=h
  rw [hslotR_eq,lenR_eq,wrR_eq] at h'
  unfold newQ
  simp only [new1]
  cases hb:Nat.blt n 262143 with
  | false=>rw [hb] at h';cases h'
  | true =>
   rw [hb] at h'
   simp only [oqI] at h'
   subst h'
   rfl
end Go.Fa
namespace Go.Fa
open Ab (AS AV OR Fr H CR Cls clsOf Ex Conf Calls' W X PrimOk)
noncomputable def kcode:IntKind→Nat:=@IntKind.rec (fun _=>Nat) 0 1 2 3 4 5 6 7
noncomputable def isKR (a b:IntKind):Bool:=Nat.beq (kcode a) (kcode b)
theorem isKR_eq {a b:IntKind} (h:isKR a b = true):a = b:=by
 have h1:kcode a = kcode b:=oqN h
 cases a <;> cases b <;> first | rfl | (exact absurd h1 (by decide))
noncomputable def addR (a b:Int):Int:=@Int.rec (fun _=>Int) (fun m=>@Int.rec (fun _=>Int) (fun n=>.ofNat (Nat.add m n)) (fun n=>Int.add (.ofNat m) (.negSucc n)) b) (fun m=>Int.add (.negSucc m) b) a
theorem addR_eq (a b:Int):addR a b = Int.add a b:=by cases a <;> cases b <;> rfl
noncomputable def subR (a b:Int):Int:=@Int.rec (fun _=>Int) (fun m=>@Int.rec (fun _=>Int) (fun n=>@Bool.rec (fun _=>Int) (Int.sub (.ofNat m) (.ofNat n)) (.ofNat (Nat.sub m n)) (Nat.ble n m)) (fun n=>Int.sub (.ofNat m) (.negSucc n)) b) (fun m=>Int.sub (.negSucc m) b) a
theorem subR_eq (a b:Int):subR a b = Int.sub a b:=by
 cases a <;> cases b <;> try rfl
 rename_i m n
 show @Bool.rec (fun _=>Int) (Int.sub (.ofNat m) (.ofNat n)) (.ofNat (Nat.sub m n)) (Nat.ble n m) = _
 cases h:Nat.ble n m with
 | false=>rfl
 | true =>
  have h':=ble_le h
  show Int.ofNat (m - n) = (m:Int) - (n:Int)
  simp only [Int.ofNat_eq_natCast]
  omega
noncomputable def ltR (a b:Int):Bool:=@Int.rec (fun _=>Bool) (fun m=>@Int.rec (fun _=>Bool) (fun n=>Nat.blt m n) (fun _=>false) b) (fun m=>@Int.rec (fun _=>Bool) (fun _=>true) (fun n=>Nat.blt n m) b) a
theorem ltR_eq (a b:Int):ltR a b = ltI a b:=by cases a <;> cases b <;> rfl
noncomputable def eqR (a b:Int):Bool:=@Int.rec (fun _=>Bool) (fun m=>@Int.rec (fun _=>Bool) (fun n=>Nat.beq m n) (fun _=>false) b) (fun m=>@Int.rec (fun _=>Bool) (fun _=>false) (fun n=>Nat.beq m n) b) a
theorem eqR_eq (a b:Int):eqR a b = eqI a b:=by cases a <;> cases b <;> rfl
noncomputable def wrap64 (n:Int):Int:=@Int.rec (fun _=>Int) (fun m=>@Bool.rec (fun _=>Int) (IntKind.i64.wrap n) (.ofNat m) (Nat.blt m 9223372036854775808)) (fun m=>@Bool.rec (fun _=>Int) (IntKind.i64.wrap n) (.negSucc m) (Nat.blt m 9223372036854775808)) n
theorem brecI (c:Bool) (x y:Int):@Bool.rec (fun _=>Int) x y c = bif c then y else x:=by cases c <;> rfl
theorem wrap64_eq (n:Int):wrap64 n = wrapA .i64 n:=by
 cases n with
 | ofNat m=>exact brecI _ _ _
 | negSucc m=>exact brecI _ _ _
noncomputable def wrapR (k:IntKind) (n:Int):Int:=@IntKind.rec (fun _=>Int) (wrapA .i8 n) (wrapA .i16 n) (wrapA .i32 n) (wrap64 n) (wrapA .u8 n) (wrapA .u16 n) (wrapA .u32 n) (wrapA .u64 n) k
theorem wrapR_eq (k:IntKind) (n:Int):wrapR k n = wrapA k n:=by cases k <;> first | rfl | exact wrap64_eq n
noncomputable def notR (b:Bool):Bool:=@Bool.rec (fun _=>Bool) true false b
theorem notR_eq (b:Bool):notR b = not b:=by cases b <;> rfl
noncomputable def iopR:BinOp→Option IOp
 | .add=>some ⟨fun k x y=>.int k (wrapR k (addR x y))⟩
 | .sub=>some ⟨fun k x y=>.int k (wrapR k (subR x y))⟩
 | .mul=>some ⟨fun k x y=>.int k (wrapR k (Int.mul x y))⟩
 | .eql=>some ⟨fun _ x y=>.bool (eqR x y)⟩
 | .neq=>some ⟨fun _ x y=>.bool (notR (eqR x y))⟩
 | .lss=>some ⟨fun _ x y=>.bool (ltR x y)⟩
 | .leq=>some ⟨fun _ x y=>.bool (notR (ltR y x))⟩
 | .gtr=>some ⟨fun _ x y=>.bool (ltR y x)⟩
 | .geq=>some ⟨fun _ x y=>.bool (notR (ltR x y))⟩
 | _=>none
theorem iopR_ok {op:BinOp} {g:IOp} (h:iopR op = some g) (k:IntKind) (x y:Int):Ab.binI op k x y = some (g.f k x y)∧shiftOp op = false:=by
 rw [← binF_ok]
 cases op <;> simp only [iopR,oqI,reduceCtorEq] at h <;> subst h <;> refine ⟨?_,rfl⟩ <;> simp only [binF,wrapR_eq,addR_eq,subR_eq,eqR_eq,ltR_eq,notR_eq]
structure AgR where
 g:FT→AV
noncomputable def agR:Operand→Option AgR
 | .tmp i=>bif Nat.blt i 512 then some ((fun s=>⟨fun ft=>s.get ft⟩) (slotR i)) else none
 | .const v=>match Ab.constV v with | some c=>some ⟨fun _=>c⟩ | none=>none
 | .global _=>none
 | .func f=>some ⟨fun _=>.one (.fn f [] [])⟩
theorem agR_ok {x:Operand} {a:AgR} (h:agR x = some a) (ft:FT):evF ft x = some (a.g ft):=by
 cases x with
 | tmp i =>
  obtain ⟨h1,h⟩:=bif_some h
  simp only [oqI] at h;subst h
  simp only [evF,h1,cond_true,slotR_eq]
 | const v =>
  simp only [agR] at h
  split at h
  ·rename_i c hc
   simp only [oqI] at h;subst h
   simp only [evF,hc]
  ·cases h
 | global g=>cases h
 | func f=>simp only [agR,oqI] at h;subst h;rfl
noncomputable def agRL:List Operand→Option (List AgR)
 | []=>some []
 | x::l=>match agR x with
  | some a=>match agRL l with
   | some r=>some (a::r)
   | none=>none
  | none=>none
noncomputable def getR (l:List AgR) (ft:FT):List AV:=@List.rec AgR (fun _=>List AV) [] (fun a _ ih=>a.g ft::ih) l
theorem agRL_ok (ft:FT):∀ {l:List Operand} {as:List AgR},agRL l = some as→evLE (evF ft) l = some (getR as ft)
 | [],as,h=>by simp only [agRL,oqI] at h;subst h;rfl
 | x::l,as,h=>by
  rw [agRL] at h
  split at h
  ·rename_i a ha
   split at h
   ·rename_i r hr
    simp only [oqI] at h;subst h
    simp only [evLE,agR_ok ha ft,agRL_ok ft hr,oqE,oqS]
    rfl
   ·cases h
  ·cases h
structure PtR where
 put:AV→FT→FT
noncomputable def ptR (n:Nat) (d:Option Nat):Option PtR :=
 match d with
 | none=>some ⟨fun _ ft=>ft⟩
 | some d=>bif Nat.blt d n then (fun s=>some ⟨fun v ft=>s.set v ft⟩) (slotR d) else none
theorem ptR_ok {n:Nat} {d:Option Nat} {p:PtR} (h:ptR n d = some p) (v:AV) (ft:FT):putF n ft d v = some (p.put v ft):=by
 cases d with
 | none=>simp only [ptR,oqI] at h;subst h;rfl
 | some d =>
  obtain ⟨h1,h⟩:=bif_some h
  simp only [oqI] at h;subst h
  simp only [putF];rw [h1,slotR_eq];rfl
abbrev KQ:=FT→FH→Option CF
structure CQ where
 f:CallsF→FT→FH→KQ→Option CF
def stepF (C:Conf) (n:Nat) (o:Oper) (cf:CallsF) (ft:FT) (t:FH):OutF:=doC C n o cf ft t (fun ft t=>some (.normal,ft,t))
def FinQ (x:OutF) (k:KQ) (r:CF):Prop:=(∃ ft t,x = some (.normal,ft,t)∧k ft t = some r) ∨ (∃ v ft t,x = some (.pan v,ft,t)∧r = .pan v t)
def RefQ (C:Conf) (n:Nat) (o:Oper) (c:CQ):Prop:=∀ cf ft t k r,c.f cf ft t k = some r→FinQ (stepF C n o cf ft t) k r
section
variable {C:Conf} {n:Nat} {o:Oper} {p:PtR}
theorem fin_val (hp:ptR n o.dst = some p) {cf:CallsF} {ft:FT} {t t':FH} {k:KQ} {r:CF} {a:AV} (h:opF C.P C.cmp (evF ft) t o = some (.val a t')) (hk:k (p.put a ft) t' = some r):FinQ (stepF C n o cf ft t) k r:=by
 left
 refine ⟨p.put a ft,t', ?_,hk⟩
 unfold stepF doC
 rw [h]
 simp only
 rw [ptR_ok hp]
theorem orec {α β:Type} {x:Option α} {g:α→Option β} {r:β} (h:@Option.rec α (fun _=>Option β) none g x = some r):∃ a,x = some a∧g a = some r:=by
 cases x with
 | none=>cases h
 | some a=>exact ⟨a,rfl,h⟩
theorem brec {β:Type} {c:Bool} {x:Option β} {r:β} (h:@Bool.rec (fun _=>Option β) none x c = some r):c = true∧x = some r:=by
 cases c with
 | false=>cases h
 | true=>exact ⟨rfl,h⟩
def genQ (C:Conf) (n:Nat) (o:Oper):CQ:=⟨fun cf ft t k=>match stepF C n o cf ft t with
 | some (.normal,ft',t')=>k ft' t'
 | some (.pan v,_,t')=>some (.pan v t')
 | _=>none⟩
theorem genQ_ok:RefQ C n o (genQ C n o):=by
 intro cf ft t k r hr
 unfold genQ at hr
 simp only at hr
 split at hr
 ·rename_i ft' t' h;exact .inl ⟨ft',t',h,hr⟩
 ·rename_i v ft' t' h
  simp only [oqI] at hr
  exact .inr ⟨v,ft',t',h,hr.symm⟩
 ·cases hr
noncomputable def tQ (p:PtR) (v:FT→AV):CQ:=⟨fun _ ft t k=>k (p.put (v ft) ft) t⟩
noncomputable def vQ (p:PtR) (v:FT→FH→Option AV):CQ:=⟨fun _ ft t k=>@Option.rec AV (fun _=>Option CF) none (fun a=>k (p.put a ft) t) (v ft t)⟩
theorem vQ_ok (hp:ptR n o.dst = some p) {v:FT→FH→Option AV} (hv:∀ ft t a,v ft t = some a→opF C.P C.cmp (evF ft) t o = some (.val a t)):RefQ C n o (vQ p v):=by
 intro cf ft t k r hr
 obtain ⟨a,h1,h2⟩:=orec (x:=v ft t) hr
 exact fin_val hp (hv _ _ _ h1) h2
noncomputable def pickQ (p:PtR) (c x y:AgR):CQ:=⟨fun _ ft t k=>@Option.rec Bool (fun _=>Option CF) none (fun b=>k (p.put (@Bool.rec (fun _=>AV) (y.g ft) (x.g ft) b) ft) t) (gBool (c.g ft))⟩
noncomputable def binQ (C:Conf) (p:PtR) (g:IOp) (op:BinOp) (ty:Nat) (x y:AgR):CQ:=⟨fun _ ft t k =>
 @Option.rec KI (fun _=>Option CF) (@Option.rec AV (fun _=>Option CF) none (fun a=>k (p.put a ft) t) (slowB C op ty (x.g ft) (y.g ft)))
  (fun a=>@Option.rec KI (fun _=>Option CF) none (fun b=>@Bool.rec (fun _=>Option CF) none (k (p.put (.one (g.f a.k a.n b.n)) ft) t) (isKR a.k b.k)) (gInt (y.g ft))) (gInt (x.g ft))⟩
noncomputable def ofCellsR (g:Bool) (l:List AS):Option AV:=@Bool.rec (fun _=>Option AV) (@List.rec AS (fun _=>Option AV) none (fun a r _=>@List.rec AS (fun _=>Option AV) (some (.one a)) (fun _ _ _=>none) r) l) (some (.agg l)) g
theorem ofCellsR_eq (g:Bool) (l:List AS):ofCellsR g l = Ab.ofCells g l:=by
 cases g with
 | true=>rfl
 | false =>
  cases l with
  | nil=>rfl
  | cons a r=>cases r <;> rfl
noncomputable def loadQ (p:PtR) (s:Nat) (g:Bool) (x:AgR):CQ:=⟨fun _ ft t k =>
 @Option.rec P3 (fun _=>Option CF) (@Option.rec AV (fun _=>Option CF) none (fun a=>k (p.put a ft) t) (loadH s g t (some (x.g ft))))
  (fun q=>@Option.rec (List AS) (fun _=>Option CF) none (fun l=>@Option.rec AV (fun _=>Option CF) none (fun a=>k (p.put a ft) t) (ofCellsR g l)) (readR t q s)) (gPtr (x.g ft))⟩
noncomputable def load1Q (p:PtR) (x:AgR):CQ:=⟨fun _ ft t k =>
 @Option.rec P3 (fun _=>Option CF) (@Option.rec AV (fun _=>Option CF) none (fun a=>k (p.put a ft) t) (loadH 1 false t (some (x.g ft))))
  (fun q=>@Option.rec AS (fun _=>Option CF) none (fun a=>k (p.put (.one a) ft) t) (read1R t q)) (gPtr (x.g ft))⟩
noncomputable def fieldQ (p:PtR) (d:Nat) (x:AgR):CQ:=⟨fun _ ft t k =>
 @Option.rec P3 (fun _=>Option CF) (@Option.rec AV (fun _=>Option CF) none (fun a=>k (p.put a ft) t) (addH d (some (x.g ft))))
  (fun q=>k (p.put (.one (.ptr q.b q.v (Nat.add q.o d))) ft) t) (gPtr (x.g ft))⟩
noncomputable def nilQ (p:PtR) (x:AgR):CQ:=⟨fun _ ft t k =>
 @Option.rec P3 (fun _=>Option CF) (@Option.rec AV (fun _=>Option CF) none (fun a=>k (p.put a ft) t) (nilH (some (x.g ft))))
  (fun q=>k (p.put (x.g ft) ft) t) (gPtr (x.g ft))⟩
noncomputable def nthPR (l:List (Bool × List AS)) (i:Nat):Option (Bool × List AS):=@List.rec (Bool × List AS) (fun _=>Nat→Option (Bool × List AS)) (fun _=>none) (fun a _ ih i=>@Nat.rec (fun _=>Option (Bool × List AS)) (some a) (fun j _=>ih j) i) l i
theorem nthPR_eq:∀ (l:List (Bool × List AS)) (i:Nat),nthPR l i = l[i]?
 | [],i=>rfl
 | a::l,0=>rfl
 | a::l,i + 1=>by rw [List.getElem?_cons_succ];exact nthPR_eq l i
noncomputable def extractQ (p:PtR) (i:Nat) (x:AgR):CQ:=⟨fun _ ft t k =>
 @Option.rec (List (Bool × List AS)) (fun _=>Option CF) none (fun l=>@Option.rec (Bool × List AS) (fun _=>Option CF) none (fun q=>@Option.rec AV (fun _=>Option CF) none (fun a=>k (p.put a ft) t) (ofCellsR q.1 q.2)) (nthPR l i)) (gTup (x.g ft))⟩
noncomputable def indexQ (p:PtR) (size:Nat) (x i:AgR):CQ:=⟨fun _ ft t k =>
 @Option.rec S6 (fun _=>Option CF) (@Option.rec AV (fun _=>Option CF) none (fun a=>k (p.put a ft) t) (indexH size (some (x.g ft)) (some (i.g ft))))
  (fun q=>@Option.rec KI (fun _=>Option CF) none (fun z=>@Option.rec Nat (fun _=>Option CF) none (fun m =>
   @Bool.rec (fun _=>Option CF) none (@Bool.rec (fun _=>Option CF) none (k (p.put (.one (.ptr q.b q.v (Nat.add q.o (Nat.mul m q.s)))) ft) t) (Nat.blt m q.n)) (@Bool.rec (fun _=>Bool) false (Nat.blt 0 q.s) (Nat.beq q.s size))) (gNatI z.n)) (gInt (i.g ft))) (gSlc (x.g ft))⟩
noncomputable def indexArrQ (p:PtR) (len size:Nat) (x i:AgR):CQ:=⟨fun _ ft t k =>
 @Option.rec P3 (fun _=>Option CF) none
  (fun q=>@Option.rec KI (fun _=>Option CF) none (fun z=>@Option.rec Nat (fun _=>Option CF) none (fun m =>
   @Bool.rec (fun _=>Option CF) none (k (p.put (.one (.ptr q.b q.v (Nat.add q.o (Nat.mul m size)))) ft) t) (Nat.blt m len)) (gNatI z.n)) (gInt (i.g ft))) (gPtr (x.g ft))⟩
noncomputable def lenQ (p:PtR) (x:AgR):CQ:=⟨fun _ ft t k=>@Option.rec Nat (fun _=>Option CF) none (fun m=>k (p.put (.one (.int .i64 (.ofNat m))) ft) t) (gLen (x.g ft))⟩
noncomputable def cellsR:AV→Option (List AS):=@AV.rec (fun _=>Option (List AS)) none (fun a=>some [a]) (fun l=>some l) (fun _=>none) none
theorem cellsR_eq (v:AV):cellsR v = v.cells:=by cases v <;> rfl
noncomputable def store1Q (p:PtR) (x y:AgR):CQ:=⟨fun _ ft t k =>
 @Option.rec AS (fun _=>Option CF) none (fun a=>@Option.rec P3 (fun _=>Option CF) none (fun q=>@Option.rec FH (fun _=>Option CF) none (fun t'=>k (p.put .undef ft) t') (write1R t q a)) (gPtr (x.g ft))) (gOne (y.g ft))⟩
noncomputable def storeQ (p:PtR) (s:Nat) (x y:AgR):CQ:=⟨fun _ ft t k =>
 @Option.rec (List AS) (fun _=>Option CF) none (fun l=>@Bool.rec (fun _=>Option CF) none (@Option.rec P3 (fun _=>Option CF) none (fun q=>@Option.rec FH (fun _=>Option CF) none (fun t'=>k (p.put .undef ft) t') (writeR t q l)) (gPtr (x.g ft))) (Nat.beq s (lenR l))) (cellsR (y.g ft))⟩
noncomputable def allocQ (p:PtR) (z:List AS):CQ:=⟨fun _ ft t k=>@Option.rec NB (fun _=>Option CF) none (fun x=>k (p.put (.one (.ptr x.b 0 0)) ft) x.t) (newR t z true)⟩
noncomputable def boxQ (p:PtR) (y:AgR):CQ:=⟨fun _ ft t k =>
 @Option.rec (List AS) (fun _=>Option CF) none (fun l=>@Option.rec NB (fun _=>Option CF) none (fun x=>k (p.put (.one (.ptr x.b 0 0)) ft) x.t) (newR t l true)) (cellsR (y.g ft))⟩
structure PPart where
 o:Nat
 s:Nat
 a:AgR
noncomputable def layR (z:List AS) (o:Nat) (c:List AS):List AS:=@Nat.rec (fun _=>List AS→List AS) (fun z=>@List.rec AS (fun _=>List AS→List AS) (fun z=>z) (fun a _ ih z=>a::ih (@List.rec AS (fun _=>List AS) [] (fun _ r _=>r) z)) c z) (fun _ ih z=>@List.rec AS (fun _=>List AS) [] (fun b r _=>b::ih r) z) o z
noncomputable def partsR (ft:FT) (l:List PPart) (z:List AS):Option (List AS) :=
 @List.rec PPart (fun _=>List AS→Option (List AS)) (fun z=>some z) (fun q _ ih z=>@Option.rec (List AS) (fun _=>Option (List AS)) none (fun c=>@Bool.rec (fun _=>Option (List AS)) none (@Bool.rec (fun _=>Option (List AS)) none (ih (layR z q.o c)) (Nat.ble (Nat.add q.o q.s) (lenR z))) (Nat.beq (lenR c) q.s)) (cellsR (q.a.g ft))) l z
noncomputable def buildQ (p:PtR) (l:List PPart) (z:List AS):CQ:=⟨fun _ ft t k=>@Option.rec (List AS) (fun _=>Option CF) none (fun c=>k (p.put (.agg c) ft) t) (partsR ft l z)⟩
noncomputable def buildSliceQ (p:PtR) (m s:Nat) (l:List PPart) (z:List AS):CQ:=⟨fun _ ft t k=>@Option.rec (List AS) (fun _=>Option CF) none (fun c=>@Option.rec NB (fun _=>Option CF) none (fun x=>k (p.put (.one (.slc x.b 0 0 m s none)) ft) x.t) (newR t c true)) (partsR ft l z)⟩
noncomputable def convQ (p:PtR) (kd:IntKind) (x:AgR):CQ:=⟨fun _ ft t k=>@Option.rec KI (fun _=>Option CF) none (fun z=>k (p.put (.one (.int kd (wrapR kd z.n))) ft) t) (gInt (x.g ft))⟩
noncomputable def elemsR (t:FH) (size:Nat) (x:AS):Option (Nat × List AS) :=
 @Option.rec S6 (fun _=>Option (Nat × List AS)) (elemsQ t size x) (fun q=>@Bool.rec (fun _=>Option (Nat × List AS)) none (@Option.rec (List AS) (fun _=>Option (Nat × List AS)) none (fun l=>some (q.n,l)) (readR t ⟨q.b,q.v,q.o⟩ (Nat.mul q.n size))) (Nat.beq q.s size)) (gSlcS x)
theorem elemsR_ok {t:FH} {size:Nat} {x:AS} {r:Nat × List AS} (h:elemsR t size x = some r):elemsQ t size x = some r:=by
 unfold elemsR at h
 cases hs:gSlcS x with
 | none=>rw [hs] at h;exact h
 | some q =>
  rw [hs] at h
  have hs':=gSlcS_ok hs
  simp only at h
  obtain ⟨c1,h⟩:=brec h
  obtain ⟨l,hl,h⟩:=orec h
  simp only [oqI] at h;subst h
  rw [hs']
  have hl':=readR_ok hl
  rw [← readQ_eq] at hl'
  simp only [elemsQ,c1,cond_true]
  rw [hl']
noncomputable def andR (a b:Bool):Bool:=@Bool.rec (fun _=>Bool) false b a
theorem andR_ok {a b:Bool} (h:andR a b = true):a = true∧b = true:=by
 cases a with
 | false=>cases h
 | true=>exact ⟨rfl,h⟩
noncomputable def isNoneR (c:Option Nat):Bool:=@Option.rec Nat (fun _=>Bool) true (fun _=>false) c
noncomputable def appendR (size bytes n:Nat) (new:List AS) (t:FH) (s:AS):Option (AS × FH) :=
 @Option.rec S6 (fun _=>Option (AS × FH)) (appendQ size bytes n new t s) (fun q=>@Option.rec FB (fun _=>Option (AS × FH)) (appendQ size bytes n new t s) (fun B =>
  @Bool.rec (fun _=>Option (AS × FH)) (appendQ size bytes n new t s) (some (.slc q.b (Nat.succ q.v) 0 (Nat.add q.n n) size none,setR t q.b ⟨Nat.succ q.v,Nat.add B.len (lenR new)::B.exts,false,Nat.add B.len (lenR new),wrR B.cs B.len new⟩))
   (andR (Nat.beq q.s size) (andR (isNoneR q.c) (andR (notR B.fixed) (andR (Nat.beq q.v B.ver) (andR (Nat.beq (Nat.mul q.n size) B.len) (andR (Nat.beq q.o 0) (andR (Nat.beq (lenR new) (Nat.mul n size)) (andR (Nat.blt 0 (lenR new)) (andR (@List.rec Nat (fun _=>Bool) false (fun e _ _=>Nat.beq e B.len) B.exts)
    (Nat.ble (Nat.add (Nat.mul (Nat.add (Nat.add q.n n) 600) bytes) (Nat.add q.n n)) 17592186044416))))))))))) (atR t q.b)) (gSlcS s)
theorem appendR_ok {size bytes n:Nat} {new:List AS} {t:FH} {s:AS} {r:AS × FH} (h:appendR size bytes n new t s = some r):appendQ size bytes n new t s = some r:=by
 unfold appendR at h
 cases hs:gSlcS s with
 | none=>rw [hs] at h;exact h
 | some q =>
  rw [hs] at h
  have hs':=gSlcS_ok hs
  simp only at h
  rw [atR_eq] at h
  cases hk:atQ t q.b with
  | none=>rw [hk] at h;exact h
  | some B =>
   rw [hk] at h
   simp only at h
   cases hc:(andR (Nat.beq q.s size) (andR (isNoneR q.c) (andR (notR B.fixed) (andR (Nat.beq q.v B.ver) (andR (Nat.beq (Nat.mul q.n size) B.len) (andR (Nat.beq q.o 0) (andR (Nat.beq (lenR new) (Nat.mul n size)) (andR (Nat.blt 0 (lenR new)) (andR (@List.rec Nat (fun _=>Bool) false (fun e _ _=>Nat.beq e B.len) B.exts)
    (Nat.ble (Nat.add (Nat.mul (Nat.add (Nat.add q.n n) 600) bytes) (Nat.add q.n n)) 17592186044416)))))))))) with
   | false=>rw [hc] at h;exact h
   | true =>
    rw [hc] at h
    simp only [oqI] at h
    obtain ⟨c1,hc⟩:=andR_ok hc
    obtain ⟨c2,hc⟩:=andR_ok hc
    obtain ⟨c3,hc⟩:=andR_ok hc
    obtain ⟨c4,hc⟩:=andR_ok hc
    obtain ⟨c5,hc⟩:=andR_ok hc
    obtain ⟨c6,hc⟩:=andR_ok hc
    obtain ⟨c7,hc⟩:=andR_ok hc
    obtain ⟨c8,hc⟩:=andR_ok hc
    obtain ⟨c9,c10⟩:=andR_ok hc
    obtain ⟨b,v,o,k,s',c⟩:=q
    obtain ⟨ver,exts,fx,len,cs⟩:=B
    simp only at c1 c2 c3 c4 c5 c6 c7 c8 c9 c10 hk h hs'
    have hc0:c = none:=by cases c with | none=>rfl | some x=>cases c2
    have hf0:fx = false:=by cases fx with | false=>rfl | true=>cases c3
    have e1:=oqN c1
    have e4:=oqN c4
    have e5:=oqN c5
    have e6:=oqN c6
    have e7:=oqN c7
    have e8:=blt_lt c8
    subst hc0;subst hf0;subst e1;subst e4;subst e6
    rw [lenR_eq] at e7 e8
    have hn:Nat.beq n 0 = false:=by
     cases hb:Nat.beq n 0 with
     | false=>rfl
     | true =>
      have:n = 0:=oqN hb
      subst this
      have:lenA new = 0 * s':=e7
      omega
    have hz:Nat.beq s' 0 = false:=by
     cases hb:Nat.beq s' 0 with
     | false=>rfl
     | true =>
      have:s' = 0:=oqN hb
      subst this
      have:lenA new = n * 0:=e7
      omega
    have hb7:Nat.beq (lenA new) (Nat.mul n s') = true:=by rw [e7];exact Nat.beq_refl _
    cases exts with
    | nil=>cases c9
    | cons e l =>
     have e9:e = len:=oqN c9
     subst e9
     have hE:extQ ⟨v,e::l,false,e,cs⟩ v = some e:=by simp only [extQ,c4,cond_true]
     have e5':k * s' = e:=e5
     have hle:Nat.ble (Nat.add 0 (Nat.mul k s')) e = true:=le_ble (by show 0 + k * s' ≤ e;omega)
     have hfit:Nat.ble (Nat.add (Nat.add 0 (Nat.mul k s')) (lenA new)) e = false:=by
      cases hb:Nat.ble (Nat.add (Nat.add 0 (Nat.mul k s')) (lenA new)) e with
      | false=>rfl
      | true =>
       have:0 + k * s' + lenA new ≤ e:=ble_le hb
       omega
     have hbb:Nat.beq e e = true:=Nat.beq_refl e
     have hv0:Nat.beq 0 0 = true:=rfl
     rw [hs']
     unfold appendQ
     simp only [hb7,hz,hn,c1,c10,hk,hE,c4,hbb,hle,hfit,hv0,c5,cond_true,cond_false]
     rw [← h,setR_eq,lenR_eq,wrR_eq]
noncomputable def appQ (p:PtR) (size bytes:Nat) (s x:AgR):CQ:=⟨fun _ ft t k =>
 @Option.rec AS (fun _=>Option CF) none (fun a=>@Option.rec AS (fun _=>Option CF) none (fun b =>
  @Option.rec (Nat × List AS) (fun _=>Option CF) none (fun q=>@Option.rec (AS × FH) (fun _=>Option CF) none (fun r=>k (p.put (.one r.1) ft) r.2) (appendR size bytes q.1 q.2 t a)) (elemsR t size b)) (gOne (x.g ft))) (gOne (s.g ft))⟩
noncomputable def endQ (p:PtR) (ft:FT) (k:KQ) (x:Option CF):Option CF:=@Option.rec CF (fun _=>Option CF) none (fun r=>@CF.rec (fun _=>Option CF) (fun v t=>k (p.put v ft) t) (fun v t=>some (.pan v t)) r) x
noncomputable def callQ (p:PtR) (f:Nat) (l:List AgR):CQ:=⟨fun cf ft t k=>endQ p ft k (cf f (getR l ft) t)⟩
structure Fn3 where
 f:Nat
 a:List AS
 c:List AS
noncomputable def gFnS:AS→Option Fn3:=@AS.rec (fun _=>Option Fn3) (fun _=>PUnit) (fun _=>none) (fun _ _=>none) (fun _=>none) none none none (fun _=>none) none (fun _ _ _=>none) (fun _ _ _=>none) none (fun _ _ _ _ _ _=>none) (fun _ _ _ _=>none) (fun f a c _ _=>some ⟨f,a,c⟩) none (fun _ _ _=>none) none PUnit.unit (fun _ _ _ _=>PUnit.unit)
noncomputable def gFn:AV→Option Fn3:=@AV.rec (fun _=>Option Fn3) none gFnS (fun _=>none) (fun _=>none) none
theorem gFn_ok {x:AV} {q:Fn3} (h:gFn x = some q):x = .one (.fn q.f q.a q.c):=by
 cases x with
 | one s=>cases s <;> first | (cases h;rfl) | (cases h)
 | _=>cases h
noncomputable def callVQ (p:PtR) (f:AgR) (l:List AgR):CQ:=⟨fun cf ft t k=>@Option.rec Fn3 (fun _=>Option CF) none (fun q=>endQ p ft k (cf q.f (Ab.ones q.a++(getR l ft++Ab.ones q.c)) t)) (gFn (f.g ft))⟩
end
end Go.Fa
namespace Go.Fa
open Ab (AS AV OR Fr H CR Cls clsOf Ex Conf Calls' W X PrimOk)
section
variable {C:Conf} {e:Ev} {t t':FH} {dst:Option Nat} {ty:TypeId} {pos:String} {aft:Array Edge} {g:Option (Nat × Bool)}
theorem make_h {o:Oper} {v:AV} {l:List AS} {b:Bool} (hc:clsOf C.P o = .make) (h:opAE C.P C.cmp e (toH t) o = some (.val v ((toH t).new (Ab.blkOf l b)))) (hn:newF t l b = some t'):opF C.P C.cmp e t o = some (.val v t'):=by
 unfold opF
 rw [hc]
 simp only [h,mkF]
 have hf:((toH t).new (Ab.blkOf l b)).f t.next = some (Ab.blkOf l b):=by
  simp only [H.new,toH,if_true]
 rw [hf]
 simp only [Ab.blkOf,hn]
theorem alloc_h {at':TypeId} {z:List AS} (h1:Ab.zeroT C.P at' = some z) (h2:newF t z true = some t'):opF C.P C.cmp e t ⟨dst,.alloc at',ty,pos,aft,g⟩ = some (.val (.one (.ptr t.next 0 0)) t') :=
 make_h rfl (by simp only [opAE,h1,oqE,oqS,Ab.one];rfl) h2
theorem box_h {bt:TypeId} {x:Operand} {v:AV} {l:List AS} (h1:e x = some v) (h3:v.cells = some l) (h2:newF t l true = some t'):opF C.P C.cmp e t ⟨dst,.box bt x,ty,pos,aft,g⟩ = some (.val (.one (.ptr t.next 0 0)) t') :=
 make_h rfl (by simp only [opAE,h1,h3,oqE,oqS,Ab.one];rfl) h2
theorem build_h {bt:TypeId} {ps:Array (Nat × Operand)} {fs:Array Field} {z l:List AS} (h1:C.P.underlying bt = some (.struct fs)) (h2:bt < C.P.types.size) (h3:Ab.zeroT C.P bt = some z)
  (h4:partsE (fun i=>do let f ← fs[i]?;some (f.offset,← Ab.sizeT C.P f.type)) e ps.toList z = some l):opF C.P C.cmp e t ⟨dst,.build bt ps,ty,pos,aft,g⟩ = some (.val (.agg l) t) :=
 opF_val (.inl rfl) (by
  simp only [oqE] at h4
  simp only [opAE,h1,if_pos h2,h3,h4,oqE,oqS])
theorem buildArr_h {bt:TypeId} {ps:Array (Nat × Operand)} {m u s:Nat} {z l:List AS} (h1:C.P.underlying bt = some (.array m u)) (h2:Ab.sizeT C.P u = some s) (h3:Ab.zeroT C.P bt = some z)
  (h4:partsE (fun i=>some (i * s,s)) e ps.toList z = some l):opF C.P C.cmp e t ⟨dst,.build bt ps,ty,pos,aft,g⟩ = some (.val (.agg l) t) :=
 opF_val (.inl rfl) (by simp only [opAE,h1,h2,h3,h4,oqE,oqS])
theorem buildSlice_h {bt:TypeId} {m:Nat} {ps:Array (Nat × Operand)} {el s:Nat} {z l:List AS} (h1:Ab.elemT C.P bt = some el) (h2:Ab.sizeT C.P el = some s) (h3:Ab.zeroT C.P el = some z) (h5:z.length = s∧0 < s∧m * s ≤ 16777216)
  (h4:partsE (fun i=>some (i * s,s)) e ps.toList (Ab.repL z m) = some l) (h6:newF t l true = some t'):opF C.P C.cmp e t ⟨dst,.buildSlice bt m ps,ty,pos,aft,g⟩ = some (.val (.one (.slc t.next 0 0 m s none)) t') :=
 make_h rfl (by simp only [opAE,h1,h2,h3,if_pos h5,h4,oqE,oqS,Ab.one];rfl) h6
theorem conv_h {s d:TypeId} {x:Operand} {kd k:IntKind} {n:Int} {u:TypeDesc} (h1:e x = some (.one (.int k n))) (h2:C.P.underlying s = some u) (h3:C.P.underlying d = some (.int kd)):opF C.P C.cmp e t ⟨dst,.convert s d x,ty,pos,aft,g⟩ = some (.val (.one (.int kd (kd.wrap n))) t):=by
 refine opF_val (.inl ?_) ?_
 ·cases u <;> simp only [clsOf,h2,h3]
 ·cases u <;> simp only [opAE,evSE_one h1,Ab.convA,h2,h3,oqE,oqS] <;> rfl
theorem append_h {s x:Operand} {a b r:AS} {tt ut:TypeId} (h1:e s = some (.one a)) (h2:e x = some (.one b)) (h3:appendAF C.P tt ut t a b = some (r,t')):opF C.P C.cmp e t ⟨dst,.call ⟨.builtin .append,⟨[s,x]⟩,⟨[tt,ut]⟩⟩,ty,pos,aft,g⟩ = some (.val (.one r) t'):=by
 have hc:clsOf C.P ⟨dst,.call ⟨.builtin .append,⟨[s,x]⟩,⟨[tt,ut]⟩⟩,ty,pos,aft,g⟩ = .eff:=rfl
 have hl:evSLE e [s,x] = some [a,b]:=by simp only [evSLE,evSE_one h1,evSE_one h2,oqE,oqS]
 have h0:([tt,ut]:List Nat)[0]? = some tt:=rfl
 have h01:([tt,ut]:List Nat)[1]? = some ut:=rfl
 unfold opF
 rw [hc]
 simp only [effF,hl,h0,h01,h3,oqE,oqS]
theorem callV_h {f:Operand} {args:Array Operand} {tys:Array TypeId} {gf:Nat} {a c:List AS} {l:List AV} (h1:e f = some (.one (.fn gf a c))) (h2:evLE e args.toList = some l):opF C.P C.cmp e t ⟨dst,.call ⟨.value f,args,tys⟩,ty,pos,aft,g⟩ = some (.call gf (Ab.ones a++(l++Ab.ones c))):=by
 have hc:clsOf C.P ⟨dst,.call ⟨.value f,args,tys⟩,ty,pos,aft,g⟩ = .eff:=rfl
 unfold opF
 rw [hc]
 simp only [effF,evSE_one h1,h2,oqE,oqS]
theorem indexArr_h {it:TypeId} {x i:Operand} {b v q m:Nat} {k:IntKind} {len u s:Nat} (h0:C.P.underlying it = some (.array len u)) (hs:Ab.sizeT C.P u = some s) (h1:e x = some (.one (.ptr b v q))) (h2:e i = some (.one (.int k (.ofNat m)))) (hm:m < len) :
  opF C.P C.cmp e t ⟨dst,.indexAddr it x i,ty,pos,aft,g⟩ = some (.val (.one (.ptr b v (q + m * s))) t):=by
 refine indexAddr_h h1 h2 (m:=m) (by simp [Ab.natOf,Ab.intOf]) ?_
 simp only [Ab.indexA,h0,hs,oqE,oqS]
 rw [if_pos hm]
end
theorem layC_eq:∀ (c z:List AS),c.length ≤ z.length→@List.rec AS (fun _=>List AS→List AS) (fun z=>z) (fun a _ ih z=>a::ih (@List.rec AS (fun _=>List AS) [] (fun _ r _=>r) z)) c z = c++z.drop c.length
 | [],z,_=>rfl
 | a::c,[],h=>by simp at h
 | a::c,b::z,h=>by
  show a::@List.rec AS (fun _=>List AS→List AS) (fun z=>z) (fun a _ ih z=>a::ih (@List.rec AS (fun _=>List AS) [] (fun _ r _=>r) z)) c z = _
  rw [layC_eq c z (by simpa using h)];rfl
theorem layR_eq:∀ (o:Nat) (z c:List AS),o + c.length ≤ z.length→layR z o c = Ab.lay z o c
 | 0,z,c,h=>by
  show @List.rec AS (fun _=>List AS→List AS) (fun z=>z) (fun a _ ih z=>a::ih (@List.rec AS (fun _=>List AS) [] (fun _ r _=>r) z)) c z = _
  rw [layC_eq c z (by omega)]
  simp [Ab.lay]
 | o + 1,[],c,h=>by simp at h
 | o + 1,b::z,c,h=>by
  show b::layR z o c = _
  rw [layR_eq o z c (by simp at h;omega)]
  simp only [Ab.lay,List.take_succ_cons,List.cons_append]
  congr 3
  have:o + 1 + c.length = (o + c.length) + 1:=by omega
  rw [this,List.drop_succ_cons]
noncomputable def mkParts (place:Nat→Option (Nat × Nat)):List (Nat × Operand)→Option (List PPart)
 | []=>some []
 | q::l=>match place q.1 with
  | some w=>match agR q.2 with
   | some a=>match mkParts place l with
    | some r=>some (⟨w.1,w.2,a⟩::r)
    | none=>none
   | none=>none
  | none=>none
theorem partsR_ok {place:Nat→Option (Nat × Nat)} {ft:FT}:∀ {ps:List (Nat × Operand)} {l:List PPart} {z c:List AS},mkParts place ps = some l→partsR ft l z = some c→partsE place (evF ft) ps z = some c
 | [],l,z,c,h,hc=>by
  simp only [mkParts,oqI] at h;subst h
  exact hc
 | (i,x)::ps,l,z,c,h,hc=>by
  rw [mkParts] at h
  simp only at h
  split at h
  ·rename_i w hw
   split at h
   ·rename_i a ha
    split at h
    ·rename_i r hr
     simp only [oqI] at h;subst h
     obtain ⟨o,s⟩:=w
     have hc':@Option.rec (List AS) (fun _=>Option (List AS)) none (fun c=>@Bool.rec (fun _=>Option (List AS)) none (@Bool.rec (fun _=>Option (List AS)) none (partsR ft r (layR z o c)) (Nat.ble (Nat.add o s) (lenR z))) (Nat.beq (lenR c) s)) (cellsR (a.g ft)) = some c:=hc
     obtain ⟨c1,h1,hc'⟩:=orec hc'
     obtain ⟨h2,hc'⟩:=brec hc'
     obtain ⟨h3,hc'⟩:=brec hc'
     rw [cellsR_eq] at h1
     have h2':c1.length = s:=by rw [← lenA_eq,← lenR_eq];exact oqN h2
     have h3':o + s ≤ z.length:=by rw [← lenA_eq,← lenR_eq];exact ble_le h3
     rw [partsE]
     simp only [hw,agR_ok ha ft,h1,oqE,oqS]
     rw [if_pos ⟨h2',h3'⟩,← layR_eq o z c1 (by omega)]
     exact partsR_ok hr hc'
    ·cases h
   ·cases h
  ·cases h
section
variable {C:Conf} {n:Nat} {p:PtR} {dst:Option Nat} {ty:TypeId} {pos:String} {aft:Array Edge} {g:Option (Nat × Bool)}
theorem tQ_ok {o:Oper} (hp:ptR n o.dst = some p) {v:FT→AV} (hv:∀ ft t,opF C.P C.cmp (evF ft) t o = some (.val (v ft) t)):RefQ C n o (tQ p v) :=
 fun cf ft t k r hr=>fin_val hp (hv ft t) hr
theorem pickQ_ok {c x y:Operand} {a1 a2 a3:AgR} (hp:ptR n dst = some p) (h1:agR c = some a1) (h2:agR x = some a2) (h3:agR y = some a3):RefQ C n ⟨dst,.pick c x y,ty,pos,aft,g⟩ (pickQ p a1 a2 a3):=by
 intro cf ft t k r hr
 obtain ⟨b,hb,hr⟩:=orec hr
 have hb':=gBool_ok hb
 refine fin_val (o:=⟨dst,.pick c x y,ty,pos,aft,g⟩) hp (pick_h (b:=b) (by rw [agR_ok h1,hb']) ?_) hr
 cases b
 ·exact agR_ok h3 ft
 ·exact agR_ok h2 ft
theorem binQ_ok {op:BinOp} {bt yt:TypeId} {x y:Operand} {a1 a2:AgR} {f:IOp} (hp:ptR n dst = some p) (hf:iopR op = some f) (h1:agR x = some a1) (h2:agR y = some a2):RefQ C n ⟨dst,.binOp op bt x y yt,ty,pos,aft,g⟩ (binQ C p f op bt a1 a2):=by
 intro cf ft t k r hr
 unfold binQ at hr
 simp only at hr
 cases hx:gInt (a1.g ft) with
 | none =>
  rw [hx] at hr
  obtain ⟨a,ha,hr⟩:=orec hr
  obtain ⟨r1,hb,rfl⟩:=slowB_ok ha
  exact fin_val (o:=⟨dst,.binOp op bt x y yt,ty,pos,aft,g⟩) hp (bin_h (agR_ok h1 ft) (agR_ok h2 ft) hb) hr
 | some q =>
  rw [hx] at hr
  obtain ⟨q2,hy,hr⟩:=orec hr
  obtain ⟨hk,hr⟩:=brec hr
  have hx':=gInt_ok hx
  have hy':=gInt_ok hy
  have hk':=isKR_eq hk
  obtain ⟨hb,hs⟩:=iopR_ok hf q.k q.n q2.n
  refine fin_val (o:=⟨dst,.binOp op bt x y yt,ty,pos,aft,g⟩) hp (bin_h (a:=.one (.int q.k q.n)) (b:=.one (.int q2.k q2.n)) (by rw [agR_ok h1,hx']) (by rw [agR_ok h2,hy']) ?_) hr
  rw [← hk']
  cases op <;> first | (simp only [Ab.bin,if_true];exact hb) | cases hs
theorem slowQ_ok {op:BinOp} {bt yt:TypeId} {x y:Operand} {a1 a2:AgR} {v:Conf→Nat→AV→AV→Option AV} (hv:∀ x y a,v C bt x y = some a→∃ r,Ab.bin C.P C.cmp op bt x y = some r∧a = .one r) (hp:ptR n dst = some p) (h1:agR x = some a1) (h2:agR y = some a2) :
  RefQ C n ⟨dst,.binOp op bt x y yt,ty,pos,aft,g⟩ (vQ p fun ft _=>v C bt (a1.g ft) (a2.g ft)):=by
 refine vQ_ok (o:=⟨dst,.binOp op bt x y yt,ty,pos,aft,g⟩) hp fun ft t a ha=>?_
 obtain ⟨r,hb,rfl⟩:=hv _ _ _ ha
 exact bin_h (agR_ok h1 ft) (agR_ok h2 ft) hb
theorem loadH_val {lt:TypeId} {x:Operand} {s:Nat} {ag:Bool} {t:FH} {a:AV} {e:Ev} {v:AV} (h1:Ab.sizeT C.P lt = some s) (h2:Ab.isAggT C.P lt = some ag) (h3:e x = some v) (h:loadH s ag t (some v) = some a):opF C.P C.cmp e t ⟨dst,.load lt x,ty,pos,aft,g⟩ = some (.val a t):=by
 unfold loadH at h
 split at h
 ·rename_i q hq
  simp only [oqI] at hq
  split at h
  ·rename_i l hl
   exact load_h h1 h2 (by rw [h3,hq]) (readF_ok (HR.self t) hl) h
  ·cases h
 ·cases h
theorem loadQ_ok {lt:TypeId} {x:Operand} {a1:AgR} {s:Nat} {ag:Bool} (hp:ptR n dst = some p) (h1:Ab.sizeT C.P lt = some s) (h2:Ab.isAggT C.P lt = some ag) (h3:agR x = some a1):RefQ C n ⟨dst,.load lt x,ty,pos,aft,g⟩ (loadQ p s ag a1):=by
 intro cf ft t k r hr
 unfold loadQ at hr
 simp only at hr
 cases hx:gPtr (a1.g ft) with
 | none =>
  rw [hx] at hr
  obtain ⟨a,ha,hr⟩:=orec hr
  exact fin_val (o:=⟨dst,.load lt x,ty,pos,aft,g⟩) hp (loadH_val h1 h2 (agR_ok h3 ft) ha) hr
 | some q =>
  rw [hx] at hr
  obtain ⟨l,hl,hr⟩:=orec hr
  obtain ⟨a,ha,hr⟩:=orec hr
  rw [ofCellsR_eq] at ha
  exact fin_val (o:=⟨dst,.load lt x,ty,pos,aft,g⟩) hp (load_h h1 h2 (by rw [agR_ok h3,gPtr_ok hx]) (readF_ok (HR.self t) (readR_ok hl)) ha) hr
theorem load1Q_ok {lt:TypeId} {x:Operand} {a1:AgR} (hp:ptR n dst = some p) (h1:Ab.sizeT C.P lt = some 1) (h2:Ab.isAggT C.P lt = some false) (h3:agR x = some a1):RefQ C n ⟨dst,.load lt x,ty,pos,aft,g⟩ (load1Q p a1):=by
 intro cf ft t k r hr
 unfold load1Q at hr
 simp only at hr
 cases hx:gPtr (a1.g ft) with
 | none =>
  rw [hx] at hr
  obtain ⟨a,ha,hr⟩:=orec hr
  exact fin_val (o:=⟨dst,.load lt x,ty,pos,aft,g⟩) hp (loadH_val h1 h2 (agR_ok h3 ft) ha) hr
 | some q =>
  rw [hx] at hr
  obtain ⟨a,ha,hr⟩:=orec hr
  exact fin_val (o:=⟨dst,.load lt x,ty,pos,aft,g⟩) hp (load_h (a:=.one a) h1 h2 (by rw [agR_ok h3,gPtr_ok hx]) (readF_ok (HR.self t) (read1R_ok ha)) rfl) hr
theorem fieldQ_ok {ft':TypeId} {x:Operand} {f d u m:Nat} {a1:AgR} (hp:ptR n dst = some p) (h1:Ab.fieldT C.P ft' f = some (d,u)) (h2:Ab.sizeT C.P u = some m) (h0:m ≠ 0) (h3:agR x = some a1):RefQ C n ⟨dst,.fieldAddr ft' x f,ty,pos,aft,g⟩ (fieldQ p d a1):=by
 intro cf ft t k r hr
 unfold fieldQ at hr
 simp only at hr
 cases hx:gPtr (a1.g ft) with
 | none =>
  rw [hx] at hr
  obtain ⟨a,ha,hr⟩:=orec hr
  refine fin_val (o:=⟨dst,.fieldAddr ft' x f,ty,pos,aft,g⟩) hp ?_ hr
  unfold addH at ha
  split at ha
  ·rename_i b v o hx'
   simp only [oqI] at hx' ha;subst ha
   exact fieldAddr_h h1 h2 h0 (by rw [agR_ok h3,hx']) (.inl ⟨b,v,o,rfl,rfl⟩)
  ·rename_i c o hx'
   simp only [oqI] at hx' ha;subst ha
   exact fieldAddr_h h1 h2 h0 (by rw [agR_ok h3,hx']) (.inr ⟨c,o,rfl,rfl⟩)
  ·cases ha
 | some q =>
  rw [hx] at hr
  exact fin_val (o:=⟨dst,.fieldAddr ft' x f,ty,pos,aft,g⟩) hp (fieldAddr_h h1 h2 h0 (by rw [agR_ok h3,gPtr_ok hx]) (.inl ⟨q.b,q.v,q.o,rfl,rfl⟩)) hr
theorem nilQ_ok {x:Operand} {a1:AgR} (hp:ptR n dst = some p) (h3:agR x = some a1):RefQ C n ⟨dst,.nilCheck x,ty,pos,aft,g⟩ (nilQ p a1):=by
 intro cf ft t k r hr
 unfold nilQ at hr
 simp only at hr
 cases hx:gPtr (a1.g ft) with
 | none =>
  rw [hx] at hr
  obtain ⟨a,ha,hr⟩:=orec hr
  refine fin_val (o:=⟨dst,.nilCheck x,ty,pos,aft,g⟩) hp ?_ hr
  unfold nilH at ha
  split at ha
  ·rename_i b v o hx'
   simp only [oqI] at hx' ha;subst ha
   exact nilCheck_h (by rw [agR_ok h3,hx']) (.inl ⟨b,v,o,rfl⟩)
  ·rename_i c o hx'
   simp only [oqI] at hx' ha;subst ha
   exact nilCheck_h (by rw [agR_ok h3,hx']) (.inr (.inl ⟨c,o,rfl⟩))
  ·rename_i f a b hx'
   simp only [oqI] at hx' ha;subst ha
   exact nilCheck_h (by rw [agR_ok h3,hx']) (.inr (.inr ⟨f,a,b,rfl⟩))
  ·cases ha
 | some q =>
  rw [hx] at hr
  have hx':=gPtr_ok hx
  simp only at hr
  rw [hx'] at hr
  exact fin_val (o:=⟨dst,.nilCheck x,ty,pos,aft,g⟩) hp (nilCheck_h (by rw [agR_ok h3,hx']) (.inl ⟨q.b,q.v,q.o,rfl⟩)) hr
theorem extractQ_ok {x:Operand} {i:Nat} {a1:AgR} (hp:ptR n dst = some p) (h3:agR x = some a1):RefQ C n ⟨dst,.extract x i,ty,pos,aft,g⟩ (extractQ p i a1):=by
 intro cf ft t k r hr
 obtain ⟨l,hl,hr⟩:=orec hr
 obtain ⟨q,hq,hr⟩:=orec hr
 obtain ⟨a,ha,hr⟩:=orec hr
 rw [nthPR_eq] at hq
 rw [ofCellsR_eq] at ha
 exact fin_val (o:=⟨dst,.extract x i,ty,pos,aft,g⟩) hp (extract_h (by rw [agR_ok h3,gTup_ok hl]) hq ha) hr
theorem indexQ_ok {it:TypeId} {x i:Operand} {u s:Nat} {a1 a2:AgR} (hp:ptR n dst = some p) (h0:C.P.underlying it = some (.slice u)) (h1:Ab.sizeT C.P u = some s) (h2:agR x = some a1) (h3:agR i = some a2):RefQ C n ⟨dst,.indexAddr it x i,ty,pos,aft,g⟩ (indexQ p s a1 a2):=by
 intro cf ft t k r hr
 unfold indexQ at hr
 simp only at hr
 cases hx:gSlc (a1.g ft) with
 | none =>
  rw [hx] at hr
  obtain ⟨a,ha,hr⟩:=orec hr
  refine fin_val (o:=⟨dst,.indexAddr it x i,ty,pos,aft,g⟩) hp ?_ hr
  unfold indexH at ha
  split at ha
  ·rename_i m hm
   have hi:∃ b,a2.g ft = .one b∧Ab.natOf b = some m:=by
    unfold natH at hm
    split at hm
    ·rename_i k z hz
     simp only [oqI] at hz
     refine ⟨_,hz, ?_⟩
     split at hm
     ·simp only [oqI] at hm;subst hm
      simp [Ab.natOf,Ab.intOf]
     ·cases hm
    ·cases hm
   obtain ⟨b,hb1,hb2⟩:=hi
   split at ha
   ·rename_i b' v o nn ss c hx'
    simp only [oqI] at hx'
    obtain ⟨e1,ha⟩:=bif_some ha
    obtain ⟨e2,ha⟩:=bif_some ha
    obtain ⟨e3,ha⟩:=bif_some ha
    simp only [oqI] at ha;subst ha
    refine indexAddr_h (by rw [agR_ok h2,hx']) (by rw [agR_ok h3,hb1]) hb2 ?_
    have e1':=oqN e1
    simp only [Ab.indexA,h0,h1,oqE,oqS]
    rw [if_pos ⟨e1',blt_lt e2,blt_lt e3⟩];rfl
   ·rename_i nn ss cells hx'
    simp only [oqI] at hx'
    obtain ⟨e1,ha⟩:=bif_some ha
    obtain ⟨e2,ha⟩:=bif_some ha
    obtain ⟨e3,ha⟩:=bif_some ha
    simp only [oqI] at ha;subst ha
    refine indexAddr_h (by rw [agR_ok h2,hx']) (by rw [agR_ok h3,hb1]) hb2 ?_
    have e1':=oqN e1
    simp only [Ab.indexA,h0,h1,oqE,oqS]
    rw [if_pos ⟨e1',blt_lt e2,blt_lt e3⟩];rfl
   ·cases ha
  ·cases ha
 | some q =>
  rw [hx] at hr
  obtain ⟨z,hz,hr⟩:=orec hr
  obtain ⟨m,hm,hr⟩:=orec hr
  obtain ⟨e1,hr⟩:=brec hr
  obtain ⟨e3,hr⟩:=brec hr
  have e1':Nat.beq q.s s = true∧Nat.blt 0 q.s = true:=by
   cases h:Nat.beq q.s s with
   | false=>rw [h] at e1;cases e1
   | true=>rw [h] at e1;exact ⟨rfl,e1⟩
  have e11:=oqN e1'.1
  refine fin_val (o:=⟨dst,.indexAddr it x i,ty,pos,aft,g⟩) hp (indexAddr_h (a:=.slc q.b q.v q.o q.n q.s q.c) (b:=.int z.k z.n) (m:=m) (by rw [agR_ok h2,gSlc_ok hx]) (by rw [agR_ok h3,gInt_ok hz]) (by rw [gNatI_ok hm];simp [Ab.natOf,Ab.intOf]) ?_) hr
  simp only [Ab.indexA,h0,h1,oqE,oqS]
  rw [if_pos ⟨e11,blt_lt e1'.2,blt_lt e3⟩];rfl
theorem indexArrQ_ok {it:TypeId} {x i:Operand} {len u s:Nat} {a1 a2:AgR} (hp:ptR n dst = some p) (h0:C.P.underlying it = some (.array len u)) (h1:Ab.sizeT C.P u = some s) (h2:agR x = some a1) (h3:agR i = some a2):RefQ C n ⟨dst,.indexAddr it x i,ty,pos,aft,g⟩ (indexArrQ p len s a1 a2):=by
 intro cf ft t k r hr
 obtain ⟨q,hq,hr⟩:=orec hr
 obtain ⟨z,hz,hr⟩:=orec hr
 obtain ⟨m,hm,hr⟩:=orec hr
 obtain ⟨e3,hr⟩:=brec hr
 exact fin_val (o:=⟨dst,.indexAddr it x i,ty,pos,aft,g⟩) hp (indexArr_h (k:=z.k) h0 h1 (by rw [agR_ok h2,gPtr_ok hq]) (by rw [agR_ok h3,gInt_ok hz,gNatI_ok hm]) (blt_lt e3)) hr
theorem lenQ_ok {x:Operand} {lt el:Nat} {a1:AgR} (hp:ptR n dst = some p) (h1:C.P.underlying lt = some (.slice el)) (h3:agR x = some a1):RefQ C n ⟨dst,.call ⟨.builtin .len,#[x],#[lt]⟩,ty,pos,aft,g⟩ (lenQ p a1):=by
 intro cf ft t k r hr
 obtain ⟨m,hm,hr⟩:=orec hr
 obtain ⟨a,ha,hl,hs⟩:=gLen_ok hm
 exact fin_val (o:=⟨dst,.call ⟨.builtin .len,#[x],#[lt]⟩,ty,pos,aft,g⟩) hp (len_h (by rw [agR_ok h3,ha]) h1 hl hs) hr
theorem store1Q_ok {st:TypeId} {x y:Operand} {a1 a2:AgR} (hp:ptR n dst = some p) (h1:Ab.sizeT C.P st = some 1) (h2:agR x = some a1) (h3:agR y = some a2):RefQ C n ⟨dst,.store st x y,ty,pos,aft,g⟩ (store1Q p a1 a2):=by
 intro cf ft t k r hr
 obtain ⟨a,ha,hr⟩:=orec hr
 obtain ⟨q,hq,hr⟩:=orec hr
 obtain ⟨t',ht,hr⟩:=orec hr
 exact fin_val (o:=⟨dst,.store st x y,ty,pos,aft,g⟩) hp (store_h (l:=[a]) (by rw [agR_ok h3,gOne_ok ha]) rfl h1 (by rw [agR_ok h2,gPtr_ok hq]) (write1R_ok ht)) hr
theorem storeQ_ok {st:TypeId} {x y:Operand} {s:Nat} {a1 a2:AgR} (hp:ptR n dst = some p) (h1:Ab.sizeT C.P st = some s) (h2:agR x = some a1) (h3:agR y = some a2):RefQ C n ⟨dst,.store st x y,ty,pos,aft,g⟩ (storeQ p s a1 a2):=by
 intro cf ft t k r hr
 obtain ⟨l,hl,hr⟩:=orec hr
 obtain ⟨hs,hr⟩:=brec hr
 obtain ⟨q,hq,hr⟩:=orec hr
 obtain ⟨t',ht,hr⟩:=orec hr
 rw [cellsR_eq] at hl
 have hs':s = l.length:=by rw [← lenA_eq,← lenR_eq];exact oqN hs
 exact fin_val (o:=⟨dst,.store st x y,ty,pos,aft,g⟩) hp (store_h (agR_ok h3 ft) hl (by rw [h1,hs']) (by rw [agR_ok h2,gPtr_ok hq]) (writeR_ok ht)) hr
theorem new_some {t:FH} {l:List AS} {f:Bool} {x:NB} (h:newR t l f = some x):newF t l f = some x.t∧x.b = t.next:=newQ_ok (newR_ok h)
theorem allocQ_ok {at':TypeId} {z:List AS} (hp:ptR n dst = some p) (h1:Ab.zeroT C.P at' = some z):RefQ C n ⟨dst,.alloc at',ty,pos,aft,g⟩ (allocQ p z):=by
 intro cf ft t k r hr
 obtain ⟨x,hx,hr⟩:=orec hr
 obtain ⟨h2,h3⟩:=new_some hx
 rw [h3] at hr
 exact fin_val (o:=⟨dst,.alloc at',ty,pos,aft,g⟩) hp (alloc_h h1 h2) hr
theorem boxQ_ok {bt:TypeId} {y:Operand} {a1:AgR} (hp:ptR n dst = some p) (h1:agR y = some a1):RefQ C n ⟨dst,.box bt y,ty,pos,aft,g⟩ (boxQ p a1):=by
 intro cf ft t k r hr
 obtain ⟨l,hl,hr⟩:=orec hr
 obtain ⟨x,hx,hr⟩:=orec hr
 obtain ⟨h2,h3⟩:=new_some hx
 rw [cellsR_eq] at hl
 rw [h3] at hr
 exact fin_val (o:=⟨dst,.box bt y,ty,pos,aft,g⟩) hp (box_h (agR_ok h1 ft) hl h2) hr
theorem buildQ_ok {bt:TypeId} {ps:Array (Nat × Operand)} {fs:Array Field} {z:List AS} {l:List PPart} (hp:ptR n dst = some p) (h1:C.P.underlying bt = some (.struct fs)) (h2:bt < C.P.types.size) (h3:Ab.zeroT C.P bt = some z)
  (h4:mkParts (fun i=>do let f ← fs[i]?;some (f.offset,← Ab.sizeT C.P f.type)) ps.toList = some l):RefQ C n ⟨dst,.build bt ps,ty,pos,aft,g⟩ (buildQ p l z):=by
 intro cf ft t k r hr
 obtain ⟨c,hc,hr⟩:=orec hr
 exact fin_val (o:=⟨dst,.build bt ps,ty,pos,aft,g⟩) hp (build_h h1 h2 h3 (partsR_ok h4 hc)) hr
theorem buildArrQ_ok {bt:TypeId} {ps:Array (Nat × Operand)} {m u s:Nat} {z:List AS} {l:List PPart} (hp:ptR n dst = some p) (h1:C.P.underlying bt = some (.array m u)) (h2:Ab.sizeT C.P u = some s) (h3:Ab.zeroT C.P bt = some z)
  (h4:mkParts (fun i=>some (i * s,s)) ps.toList = some l):RefQ C n ⟨dst,.build bt ps,ty,pos,aft,g⟩ (buildQ p l z):=by
 intro cf ft t k r hr
 obtain ⟨c,hc,hr⟩:=orec hr
 exact fin_val (o:=⟨dst,.build bt ps,ty,pos,aft,g⟩) hp (buildArr_h h1 h2 h3 (partsR_ok h4 hc)) hr
theorem buildSliceQ_ok {bt:TypeId} {m:Nat} {ps:Array (Nat × Operand)} {el s:Nat} {z:List AS} {l:List PPart} (hp:ptR n dst = some p) (h1:Ab.elemT C.P bt = some el) (h2:Ab.sizeT C.P el = some s) (h3:Ab.zeroT C.P el = some z) (h5:z.length = s∧0 < s∧m * s ≤ 16777216)
  (h4:mkParts (fun i=>some (i * s,s)) ps.toList = some l):RefQ C n ⟨dst,.buildSlice bt m ps,ty,pos,aft,g⟩ (buildSliceQ p m s l (Ab.repL z m)):=by
 intro cf ft t k r hr
 obtain ⟨c,hc,hr⟩:=orec hr
 obtain ⟨x,hx,hr⟩:=orec hr
 obtain ⟨h6,h7⟩:=new_some hx
 rw [h7] at hr
 exact fin_val (o:=⟨dst,.buildSlice bt m ps,ty,pos,aft,g⟩) hp (buildSlice_h h1 h2 h3 h5 (partsR_ok h4 hc) h6) hr
theorem convQ_ok {s d:TypeId} {x:Operand} {kd:IntKind} {u:TypeDesc} {a1:AgR} (hp:ptR n dst = some p) (h1:agR x = some a1) (h2:C.P.underlying s = some u) (h3:C.P.underlying d = some (.int kd)):RefQ C n ⟨dst,.convert s d x,ty,pos,aft,g⟩ (convQ p kd a1):=by
 intro cf ft t k r hr
 obtain ⟨q,hq,hr⟩:=orec hr
 rw [wrapR_eq,wrapA_eq] at hr
 exact fin_val (o:=⟨dst,.convert s d x,ty,pos,aft,g⟩) hp (conv_h (k:=q.k) (by rw [agR_ok h1,gInt_ok hq]) h2 h3) hr
theorem appQ_ok {s x:Operand} {tt ut el size bytes:Nat} {d:TypeDesc} {a1 a2:AgR} (hp:ptR n dst = some p) (h1:agR s = some a1) (h2:agR x = some a2) (h3:Ab.elemT C.P tt = some el) (h4:Ab.sizeT C.P el = some size) (h5:Ab.bytesT C.P el = some bytes) (h6:C.P.underlying ut = some d) (h7:d = .string ∨ ∃ u,d = .slice u) :
  RefQ C n ⟨dst,.call ⟨.builtin .append,⟨[s,x]⟩,⟨[tt,ut]⟩⟩,ty,pos,aft,g⟩ (appQ p size bytes a1 a2):=by
 intro cf ft t k r hr
 obtain ⟨a,ha,hr⟩:=orec hr
 obtain ⟨b,hb,hr⟩:=orec hr
 obtain ⟨q,hq,hr⟩:=orec hr
 obtain ⟨⟨r1,t'⟩,hw,hr⟩:=orec hr
 have hw:=appendR_ok hw
 rw [appendQ_eq] at hw
 obtain ⟨e1,e2⟩:=elemsQ_ok (n:=q.1) (l:=q.2) (elemsR_ok hq)
 refine fin_val (o:=⟨dst,.call ⟨.builtin .append,⟨[s,x]⟩,⟨[tt,ut]⟩⟩,ty,pos,aft,g⟩) hp (append_h (by rw [agR_ok h1,gOne_ok ha]) (by rw [agR_ok h2,gOne_ok hb]) ?_) hr
 unfold appendAF
 simp only [h3,h4,h5,h6,oqE,oqS]
 rcases h7 with rfl | ⟨u,rfl⟩ <;> simp only [e1,e2,hw,oqE,oqS]
theorem fin_call {o:Oper} (hp:ptR n o.dst = some p) {cf:CallsF} {ft:FT} {t:FH} {k:KQ} {r:CF} {f:Nat} {l:List AV} (h:opF C.P C.cmp (evF ft) t o = some (.call f l)) (hk:endQ p ft k (cf f l t) = some r):FinQ (stepF C n o cf ft t) k r:=by
 obtain ⟨x,hx,hk⟩:=orec hk
 unfold FinQ stepF doC
 rw [h]
 simp only [hx]
 cases x with
 | ret v t'=>left;exact ⟨p.put v ft,t',by simp only [ptR_ok hp],hk⟩
 | pan v t' =>
  right
  have hk':some (CF.pan v t') = some r:=hk
  simp only [oqI] at hk'
  exact ⟨v,ft,t',rfl,hk'.symm⟩
theorem callQ_ok {f:Nat} {args:Array Operand} {tys:Array TypeId} {l:List AgR} (hp:ptR n dst = some p) (h1:agRL args.toList = some l):RefQ C n ⟨dst,.call ⟨.value (.func f),args,tys⟩,ty,pos,aft,g⟩ (callQ p f l):=by
 intro cf ft t k r hr
 exact fin_call (o:=⟨dst,.call ⟨.value (.func f),args,tys⟩,ty,pos,aft,g⟩) hp (call_h (gf:=f) rfl (agRL_ok ft h1)) hr
theorem callVQ_ok {f:Operand} {args:Array Operand} {tys:Array TypeId} {a1:AgR} {l:List AgR} (hp:ptR n dst = some p) (h0:agR f = some a1) (h1:agRL args.toList = some l):RefQ C n ⟨dst,.call ⟨.value f,args,tys⟩,ty,pos,aft,g⟩ (callVQ p a1 l):=by
 intro cf ft t k r hr
 obtain ⟨q,hq,hr⟩:=orec hr
 exact fin_call (o:=⟨dst,.call ⟨.value f,args,tys⟩,ty,pos,aft,g⟩) hp (callV_h (by rw [agR_ok h0,gFn_ok hq]) (agRL_ok ft h1)) hr
end
end Go.Fa
namespace Go.Fa
open Ab (AS AV OR Fr H CR Cls clsOf Ex Conf Calls' W X PrimOk isAnc)
section
variable (C:Conf) (n:Nat)
noncomputable def qBin (p:PtR) (o:Oper) (op:BinOp) (ty:Nat) (x y:Operand):CQ :=
 match agR x with
 | some a=>match agR y with
  | some b=>match iopR op with
   | some f=>binQ C p f op ty a b
   | none=>match op with
    | .shr=>vQ p fun ft _=>shrV C ty (a.g ft) (b.g ft)
    | .shl=>vQ p fun ft _=>shlV C ty (a.g ft) (b.g ft)
    | op=>vQ p fun ft _=>slowB C op ty (a.g ft) (b.g ft)
  | none=>genQ C n o
 | none=>genQ C n o
noncomputable def qLoad (p:PtR) (o:Oper) (ty:Nat) (x:Operand):CQ :=
 match agR x with
 | some a=>match Ab.sizeT C.P ty with
  | some s=>match Ab.isAggT C.P ty with
   | some true=>loadQ p s true a
   | some false=>(match s with | 1=>load1Q p a | s=>loadQ p s false a)
   | none=>genQ C n o
  | none=>genQ C n o
 | none=>genQ C n o
noncomputable def qIndex (p:PtR) (o:Oper) (ty:Nat) (x i:Operand):CQ :=
 match agR x with
 | some a=>match agR i with
  | some b=>match C.P.underlying ty with
   | some (.slice u)=>(match Ab.sizeT C.P u with | some s=>indexQ p s a b | none=>genQ C n o)
   | some (.array len u)=>(match Ab.sizeT C.P u with | some s=>indexArrQ p len s a b | none=>genQ C n o)
   | _=>genQ C n o
  | none=>genQ C n o
 | none=>genQ C n o
noncomputable def qField (p:PtR) (o:Oper) (ty:Nat) (x:Operand) (f:Nat):CQ :=
 match agR x with
 | some a=>match Ab.fieldT C.P ty f with
  | some q=>match Ab.sizeT C.P q.2 with
   | some m=>bif Nat.beq m 0 then genQ C n o else fieldQ p q.1 a
   | none=>genQ C n o
  | none=>genQ C n o
 | none=>genQ C n o
noncomputable def qStore (p:PtR) (o:Oper) (ty:Nat) (x y:Operand):CQ :=
 match agR x with
 | some a=>match agR y with
  | some b=>match Ab.sizeT C.P ty with
   | some s=>match Ab.isAggT C.P ty with
    | some true=>storeQ p s a b
    | some false=>(match s with | 1=>store1Q p a b | s=>storeQ p s a b)
    | none=>genQ C n o
   | none=>genQ C n o
  | none=>genQ C n o
 | none=>genQ C n o
noncomputable def qBuild (p:PtR) (o:Oper) (ty:Nat) (ps:Array (Nat × Operand)):CQ :=
 match C.P.underlying ty with
 | some (.struct fs)=>bif Nat.blt ty C.P.types.size then (match Ab.zeroT C.P ty with
  | some z=>match mkParts (fun i=>do let f ← fs[i]?;some (f.offset,← Ab.sizeT C.P f.type)) ps.toList with
   | some l=>buildQ p l z
   | none=>genQ C n o
  | none=>genQ C n o) else genQ C n o
 | some (.array _ u)=>(match Ab.sizeT C.P u with
  | some s=>match Ab.zeroT C.P ty with
   | some z=>match mkParts (fun i=>some (i * s,s)) ps.toList with
    | some l=>buildQ p l z
    | none=>genQ C n o
   | none=>genQ C n o
  | none=>genQ C n o)
 | _=>genQ C n o
noncomputable def qBuildSlice (p:PtR) (o:Oper) (ty m:Nat) (ps:Array (Nat × Operand)):CQ :=
 match Ab.elemT C.P ty with
 | some el=>match Ab.sizeT C.P el with
  | some s=>match Ab.zeroT C.P el with
   | some z=>bif Nat.beq (lenA z) s then bif Nat.blt 0 s then bif Nat.ble (Nat.mul m s) 16777216 then (match mkParts (fun i=>some (i * s,s)) ps.toList with
    | some l=>buildSliceQ p m s l (Ab.repL z m)
    | none=>genQ C n o) else genQ C n o else genQ C n o else genQ C n o
   | none=>genQ C n o
  | none=>genQ C n o
 | none=>genQ C n o
noncomputable def qConv (p:PtR) (o:Oper) (s d:Nat) (x:Operand):CQ :=
 match agR x with
 | some a=>match C.P.underlying s with
  | some (.int _)=>(match C.P.underlying d with
   | some (.int kd)=>convQ p kd a
   | _=>genQ C n o)
  | _=>genQ C n o
 | none=>genQ C n o
noncomputable def qApp (p:PtR) (o:Oper) (s x:Operand) (tt ut:Nat):CQ :=
 match agR s with
 | some a=>match agR x with
  | some b=>match Ab.elemT C.P tt with
   | some el=>match Ab.sizeT C.P el with
    | some size=>match Ab.bytesT C.P el with
     | some bytes=>match C.P.underlying ut with
      | some (.slice _)=>appQ p size bytes a b
      | some .string=>appQ p size bytes a b
      | _=>genQ C n o
     | none=>genQ C n o
    | none=>genQ C n o
   | none=>genQ C n o
  | none=>genQ C n o
 | none=>genQ C n o
noncomputable def qOp (p:PtR) (o:Oper):CQ :=
 match o.op with
 | .move x=>(match agR x with | some a=>tQ p a.g | none=>genQ C n o)
 | .assign x=>(match agR x with | some a=>tQ p a.g | none=>genQ C n o)
 | .pick c x y=>(match agR c with | some a1=>(match agR x with | some a2=>(match agR y with | some a3=>pickQ p a1 a2 a3 | none=>genQ C n o) | none=>genQ C n o) | none=>genQ C n o)
 | .binOp op ty x y _=>qBin C n p o op ty x y
 | .unOp .not _ x=>(match agR x with | some a=>vQ p fun ft _=>notH (some (a.g ft)) | none=>genQ C n o)
 | .load ty x=>qLoad C n p o ty x
 | .fieldAddr ty x f=>qField C n p o ty x f
 | .nilCheck x=>(match agR x with | some a=>nilQ p a | none=>genQ C n o)
 | .extract x i=>(match agR x with | some a=>extractQ p i a | none=>genQ C n o)
 | .indexAddr ty x i=>qIndex C n p o ty x i
 | .store ty x y=>qStore C n p o ty x y
 | .alloc ty=>(match Ab.zeroT C.P ty with | some z=>allocQ p z | none=>genQ C n o)
 | .box _ x=>(match agR x with | some a=>boxQ p a | none=>genQ C n o)
 | .build ty ps=>qBuild C n p o ty ps
 | .buildSlice ty m ps=>qBuildSlice C n p o ty m ps
 | .convert s d x=>qConv C n p o s d x
 | .call ⟨.value (.func f),args,_⟩=>(match agRL args.toList with | some l=>callQ p f l | none=>genQ C n o)
 | .call ⟨.value f,args,_⟩=>(match agR f with | some a=>(match agRL args.toList with | some l=>callVQ p a l | none=>genQ C n o) | none=>genQ C n o)
 | .call ⟨.builtin .len,⟨[x]⟩,⟨[lt]⟩⟩=>(match agR x with | some a=>(match C.P.underlying lt with | some (.slice _)=>lenQ p a | _=>genQ C n o) | none=>genQ C n o)
 | .call ⟨.builtin .append,⟨[s,x]⟩,⟨[tt,ut]⟩⟩=>qApp C n p o s x tt ut
 | _=>genQ C n o
end
section
variable {C:Conf} {n:Nat} {p:PtR}
theorem qOp_ok {o:Oper} (hp:ptR n o.dst = some p):RefQ C n o (qOp C n p o):=by
 obtain ⟨dst,op,ty,pos,aft,g⟩:=o
 simp only at hp
 unfold qOp
 simp only
 split
 ·split
  ·rename_i a ha
   exact tQ_ok hp fun ft t=>move_h (agR_ok ha ft)
  ·exact genQ_ok
 ·split
  ·rename_i a ha
   exact tQ_ok hp fun ft t=>assign_h (agR_ok ha ft)
  ·exact genQ_ok
 ·split
  ·rename_i h1
   split
   ·rename_i h2
    split
    ·rename_i h3;exact pickQ_ok hp h1 h2 h3
    ·exact genQ_ok
   ·exact genQ_ok
  ·exact genQ_ok
 ·unfold qBin
  split
  ·rename_i a h1
   split
   ·rename_i b h2
    split
    ·rename_i f hf;exact binQ_ok hp hf h1 h2
    ·split
     ·exact slowQ_ok (v:=fun C ty x y=>shrV C ty x y) (fun x y a=>shrV_ok) hp h1 h2
     ·exact slowQ_ok (v:=fun C ty x y=>shlV C ty x y) (fun x y a=>shlV_ok) hp h1 h2
     ·exact slowQ_ok (v:=fun C ty x y=>slowB C _ ty x y) (fun x y a=>slowB_ok) hp h1 h2
   ·exact genQ_ok
  ·exact genQ_ok
 ·split
  ·rename_i a ha
   refine vQ_ok hp fun ft t v hv=>?_
   unfold notH at hv
   split at hv
   ·rename_i b hb
    simp only [oqI] at hv hb;subst hv
    exact not_h (by rw [agR_ok ha,hb])
   ·cases hv
  ·exact genQ_ok
 ·unfold qLoad
  split
  ·rename_i a h1
   split
   ·rename_i s h2
    split
    ·rename_i h3;exact loadQ_ok hp h2 h3 h1
    ·rename_i h3
     split
     ·exact load1Q_ok hp h2 h3 h1
     ·exact loadQ_ok hp h2 h3 h1
    ·exact genQ_ok
   ·exact genQ_ok
  ·exact genQ_ok
 ·unfold qField
  split
  ·rename_i a h1
   split
   ·rename_i q h2
    split
    ·rename_i m h3
     cases hm:Nat.beq m 0 with
     | true=>exact genQ_ok
     | false =>
      have hm':m ≠ 0:=by rintro rfl;exact absurd hm (by decide)
      exact fieldQ_ok (d:=q.1) (u:=q.2) hp h2 h3 hm' h1
    ·exact genQ_ok
   ·exact genQ_ok
  ·exact genQ_ok
 ·split
  ·rename_i a ha;exact nilQ_ok hp ha
  ·exact genQ_ok
 ·split
  ·rename_i a ha;exact extractQ_ok hp ha
  ·exact genQ_ok
 ·unfold qIndex
  split
  ·rename_i a h1
   split
   ·rename_i b h2
    split
    ·rename_i u h3
     split
     ·rename_i s h4;exact indexQ_ok hp h3 h4 h1 h2
     ·exact genQ_ok
    ·rename_i len u h3
     split
     ·rename_i s h4;exact indexArrQ_ok hp h3 h4 h1 h2
     ·exact genQ_ok
    ·exact genQ_ok
   ·exact genQ_ok
  ·exact genQ_ok
 ·unfold qStore
  split
  ·rename_i a h1
   split
   ·rename_i b h2
    split
    ·rename_i s h3
     split
     ·exact storeQ_ok hp h3 h1 h2
     ·split
      ·exact store1Q_ok hp h3 h1 h2
      ·exact storeQ_ok hp h3 h1 h2
     ·exact genQ_ok
    ·exact genQ_ok
   ·exact genQ_ok
  ·exact genQ_ok
 ·split
  ·rename_i z hz;exact allocQ_ok hp hz
  ·exact genQ_ok
 ·split
  ·rename_i a ha;exact boxQ_ok hp ha
  ·exact genQ_ok
 ·rename_i bt ps
  unfold qBuild
  split
  ·rename_i fs h1
   cases hb:Nat.blt bt C.P.types.size with
   | false=>exact genQ_ok
   | true =>
    simp only [cond_true]
    split
    ·rename_i z h3
     split
     ·rename_i l h4;exact buildQ_ok hp h1 (blt_lt hb) h3 h4
     ·exact genQ_ok
    ·exact genQ_ok
  ·rename_i m u h1
   split
   ·rename_i s h2
    split
    ·rename_i z h3
     split
     ·rename_i l h4;exact buildArrQ_ok hp h1 h2 h3 h4
     ·exact genQ_ok
    ·exact genQ_ok
   ·exact genQ_ok
  ·exact genQ_ok
 ·rename_i bt m ps
  unfold qBuildSlice
  split
  ·rename_i el h1
   split
   ·rename_i s h2
    split
    ·rename_i z h3
     cases h5:Nat.beq (lenA z) s with
     | false=>exact genQ_ok
     | true =>
      simp only [cond_true]
      cases h6:Nat.blt 0 s with
      | false=>exact genQ_ok
      | true =>
       simp only [cond_true]
       cases h7:Nat.ble (Nat.mul m s) 16777216 with
       | false=>exact genQ_ok
       | true =>
        simp only [cond_true]
        split
        ·rename_i l h4
         exact buildSliceQ_ok hp h1 h2 h3 ⟨by rw [← lenA_eq];exact oqN h5,blt_lt h6,ble_le h7⟩ h4
        ·exact genQ_ok
    ·exact genQ_ok
   ·exact genQ_ok
  ·exact genQ_ok
 ·unfold qConv
  split
  ·rename_i a h1
   split
   ·rename_i ks h2
    split
    ·rename_i kd h3;exact convQ_ok hp h1 h2 h3
    ·exact genQ_ok
   ·exact genQ_ok
  ·exact genQ_ok
 ·split
  ·rename_i l h1;exact callQ_ok hp h1
  ·exact genQ_ok
 ·split
  ·rename_i a h0
   split
   ·rename_i l h1;exact callVQ_ok hp h0 h1
   ·exact genQ_ok
  ·exact genQ_ok
 ·split
  ·rename_i a h1
   split
   ·rename_i u h2;exact lenQ_ok hp h2 h1
   ·exact genQ_ok
  ·exact genQ_ok
 ·unfold qApp
  split
  ·rename_i a h1
   split
   ·rename_i b h2
    split
    ·rename_i el h3
     split
     ·rename_i size h4
      split
      ·rename_i bytes h5
       split
       ·rename_i u h6;exact appQ_ok hp h1 h2 h3 h4 h5 h6 (.inr ⟨u,rfl⟩)
       ·rename_i h6;exact appQ_ok hp h1 h2 h3 h4 h5 h6 (.inl rfl)
       ·exact genQ_ok
      ·exact genQ_ok
     ·exact genQ_ok
    ·exact genQ_ok
   ·exact genQ_ok
  ·exact genQ_ok
 ·exact genQ_ok
end
end Go.Fa
namespace Go.Fa
open Ab (AS AV OR Fr H CR Cls clsOf Ex Conf Calls' W X PrimOk isAnc)
noncomputable def isUndef:AV→Bool:=@AV.rec (fun _=>Bool) true (fun _=>false) (fun _=>false) (fun _=>false) false
theorem isUndef_ok {x:AV} (h:isUndef x = true):x = .undef:=by cases x <;> first | rfl | cases h
def genG (C:Conf) (n:Nat) (ops:List Oper) (o:Oper) (cf:CallsF) (ft:FT) (t:FH):OutF:=genC C n ops o cf ft t (fun ft t=>some (.normal,ft,t))
def RefG (C:Conf) (n:Nat) (ops:List Oper) (o:Oper) (c:CQ):Prop:=∀ cf ft t k r,c.f cf ft t k = some r→FinQ (genG C n ops o cf ft t) k r
def failQ:CQ:=⟨fun _ _ _ _=>none⟩
noncomputable def guardQ (ops:List Oper) (p:PtR) (o:Oper) (c:CQ):CQ :=
 match o.guard with
 | none=>c
 | some (j,want)=>match ops[j]? with
  | some q=>match q.dst with
   | some d=>match agR (.tmp d) with
    | some a=>(fun s:CQ=>match want with
     | true=>⟨fun cf ft t k=>@Option.rec Bool (fun _=>Option CF) (@Bool.rec (fun _=>Option CF) none (s.f cf ft t k) (isUndef (a.g ft))) (fun b=>@Bool.rec (fun _=>Option CF) (s.f cf ft t k) (c.f cf ft t k) b) (gBool (a.g ft))⟩
     | false=>⟨fun cf ft t k=>@Option.rec Bool (fun _=>Option CF) (@Bool.rec (fun _=>Option CF) none (s.f cf ft t k) (isUndef (a.g ft))) (fun b=>@Bool.rec (fun _=>Option CF) (c.f cf ft t k) (s.f cf ft t k) b) (gBool (a.g ft))⟩) ⟨fun _ ft t k=>k (p.put .undef ft) t⟩
    | none=>failQ
   | none=>failQ
  | none=>failQ
section
variable {C:Conf} {n:Nat} {p:PtR} {ops:List Oper}
theorem fin_skip {o:Oper} (hp:ptR n o.dst = some p) {cf:CallsF} {ft:FT} {t:FH} {k:KQ} {r:CF} (hw:wantF (evF ft) ops o = some false) (hk:k (p.put .undef ft) t = some r):FinQ (genG C n ops o cf ft t) k r:=by
 left
 refine ⟨p.put .undef ft,t, ?_,hk⟩
 unfold genG genC
 rw [hw]
 simp only [ptR_ok hp]
theorem fin_do {o:Oper} {cf:CallsF} {ft:FT} {t:FH} {k:KQ} {r:CF} (hw:wantF (evF ft) ops o = some true) (h:FinQ (stepF C n o cf ft t) k r):FinQ (genG C n ops o cf ft t) k r:=by
 unfold genG genC
 rw [hw]
 exact h
theorem guardQ_ok {o:Oper} {c:CQ} (hp:ptR n o.dst = some p) (hc:RefQ C n o c):RefG C n ops o (guardQ ops p o c):=by
 intro cf ft t k r hr
 unfold guardQ at hr
 split at hr
 ·rename_i hg
  exact fin_do (by unfold wantF;rw [hg]) (hc cf ft t k r hr)
 ·rename_i j want hg
  split at hr
  ·rename_i q hq
   split at hr
   ·rename_i d hd
    split at hr
    ·rename_i a ha
     have hev:=agR_ok ha ft
     have hwb:∀ b,a.g ft = .one (.bool b)→wantF (evF ft) ops o = some (b == want):=by
      intro b hb
      unfold wantF;rw [hg]
      simp only [hq,hd,hev,hb,oqE,oqS]
     have hwu:a.g ft = .undef→wantF (evF ft) ops o = some false:=by
      intro hb
      unfold wantF;rw [hg]
      simp only [hq,hd,hev,hb,oqE,oqS]
     have hu:@Bool.rec (fun _=>Option CF) none (k (p.put .undef ft) t) (isUndef (a.g ft)) = some r→FinQ (genG C n ops o cf ft t) k r:=by
      intro h
      obtain ⟨h1,h2⟩:=brec h
      exact fin_skip hp (hwu (isUndef_ok h1)) h2
     cases want with
     | true =>
      simp only at hr
      cases hb:gBool (a.g ft) with
      | none=>rw [hb] at hr;exact hu hr
      | some b =>
       rw [hb] at hr
       have hb':=gBool_ok hb
       cases b with
       | true=>exact fin_do (hwb _ hb') (hc cf ft t k r hr)
       | false=>exact fin_skip hp (hwb _ hb') hr
     | false =>
      simp only at hr
      cases hb:gBool (a.g ft) with
      | none=>rw [hb] at hr;exact hu hr
      | some b =>
       rw [hb] at hr
       have hb':=gBool_ok hb
       cases b with
       | true=>exact fin_skip hp (hwb _ hb') hr
       | false=>exact fin_do (hwb _ hb') (hc cf ft t k r hr)
    ·cases hr
   ·cases hr
  ·cases hr
end
noncomputable def opQ (C:Conf) (n:Nat) (ops:List Oper) (o:Oper):CQ:=match ptR n o.dst with
 | some p=>guardQ ops p o (qOp C n p o)
 | none=>failQ
theorem opQ_ok {C:Conf} {n:Nat} {ops:List Oper} (o:Oper):RefG C n ops o (opQ C n ops o):=by
 unfold opQ
 split
 ·rename_i p hp;exact guardQ_ok hp (qOp_ok hp)
 ·intro cf ft t k r hr;cases hr
noncomputable def compQ (C:Conf) (n:Nat) (ops:List Oper):List Oper→CQ
 | []=>⟨fun _ ft t k=>k ft t⟩
 | o::l=>(fun a b:CQ=>⟨fun cf ft t k=>a.f cf ft t (fun ft t=>b.f cf ft t k)⟩) (opQ C n ops o) (compQ C n ops l)
theorem runF_genG (C:Conf) (cf:CallsF) (n:Nat) (ops:List Oper) (o:Oper) (l:List Oper) (ft:FT) (t:FH):runF C cf n ops (o::l) ft t = match genG C n ops o cf ft t with
  | some (.normal,ft',t')=>runF C cf n ops l ft' t'
  | x=>x:=by
 rw [runF_gen]
 unfold genG genC
 cases wantF (evF ft) ops o with
 | none=>rfl
 | some b =>
  cases b with
  | false=>simp only;cases putF n ft o.dst .undef <;> rfl
  | true =>
   simp only
   unfold doC
   cases opF C.P C.cmp (evF ft) t o with
   | none=>rfl
   | some x =>
    cases x with
    | val v t'=>simp only;cases putF n ft o.dst v <;> rfl
    | pan v=>rfl
    | call f args =>
     simp only
     cases cf f args t with
     | none=>rfl
     | some y =>
      cases y with
      | pan v t'=>rfl
      | ret v t'=>simp only;cases putF n ft o.dst v <;> rfl
theorem compQ_ok {C:Conf} {n:Nat} {ops:List Oper} {cf:CallsF}:∀ (l:List Oper) (ft:FT) (t:FH) (k:KQ) (r:CF),(compQ C n ops l).f cf ft t k = some r→FinQ (runF C cf n ops l ft t) k r
 | [],ft,t,k,r,hr=>.inl ⟨ft,t,rfl,hr⟩
 | o::l,ft,t,k,r,hr=>by
  rw [runF_genG]
  rcases opQ_ok o cf ft t _ r hr with ⟨ft',t',h1,h2⟩ | ⟨v,ft',t',h1,h2⟩
  ·rw [h1]
   exact compQ_ok l ft' t' k r h2
  ·rw [h1]
   exact .inr ⟨v,ft',t',rfl,h2⟩
def callish (o:Oper):Bool:=match o.op with
 | .call ⟨.value _,_,_⟩=>true
 | .panic _=>true
 | _=>false
noncomputable def endD (p:PtR) (ft:FT) (k:KQ) (x:Option CF):Option CF:=@Option.rec CF (fun _=>Option CF) none (fun r=>@CF.rec (fun _=>Option CF) (fun v t=>k (p.put v ft) t) (fun _ _=>none) r) x
noncomputable def qOpD (C:Conf) (n:Nat) (p:PtR) (o:Oper):CQ:=match callish o with
 | false=>qOp C n p o
 | true=>match o.op with
  | .call ⟨.value (.func f),args,_⟩=>(match agRL args.toList with | some l=>⟨fun cf ft t k=>endD p ft k (cf f (getR l ft) t)⟩ | none=>failQ)
  | .call ⟨.value f,args,_⟩=>(match agR f with | some a=>(match agRL args.toList with | some l=>⟨fun cf ft t k=>@Option.rec Fn3 (fun _=>Option CF) none (fun q=>endD p ft k (cf q.f (Ab.ones q.a++(getR l ft++Ab.ones q.c)) t)) (gFn (a.g ft))⟩ | none=>failQ) | none=>failQ)
  | _=>failQ
def RefD (C:Conf) (n:Nat) (o:Oper) (c:CQ):Prop:=∀ cf ft t k r,c.f cf ft t k = some r→∃ v t',(opF C.P C.cmp (evF ft) t o = some (.val v t') ∨ ∃ f l,opF C.P C.cmp (evF ft) t o = some (.call f l)∧cf f l t = some (.ret v t'))∧∃ ft',putF n ft o.dst v = some ft'∧k ft' t' = some r
section
variable {C:Conf} {n:Nat} {p:PtR}
theorem opF_val_only {o:Oper} (h:callish o = false) {e:Ev} {t:FH} {x:FR} (hx:opF C.P C.cmp e t o = some x):∃ v t',x = .val v t':=by
 unfold opF at hx
 split at hx
 ·unfold keepF at hx
  split at hx
  ·simp only [oqI] at hx;exact ⟨_,_,hx.symm⟩
  ·cases hx
 ·unfold keepF at hx
  split at hx
  ·simp only [oqI] at hx;exact ⟨_,_,hx.symm⟩
  ·cases hx
 ·unfold mkF at hx
  split at hx
  ·split at hx
   ·split at hx
    ·simp only [oqI] at hx;exact ⟨_,_,hx.symm⟩
    ·cases hx
   ·cases hx
  ·cases hx
 ·rename_i hcl
  clear hcl
  obtain ⟨dst,op,ty,pos,aft,g⟩:=o
  unfold effF at hx
  cases op <;> simp only [reduceCtorEq] at hx
  case store sty a y =>
   simp only [oqE,oqB] at hx
   obtain ⟨v,h1,l,h2,hx⟩:=hx
   split at hx
   ·simp only [oqB,oqI] at hx
    obtain ⟨_,_,_,_,hx⟩:=hx
    exact ⟨_,_,hx.symm⟩
   ·cases hx
  case panic y=>cases h
  case convert sd dd y =>
   simp only [oqE,oqB] at hx
   obtain ⟨a,h1,hx⟩:=hx
   split at hx
   ·split at hx
    ·split at hx
     ·simp only [oqI] at hx;exact ⟨_,_,hx.symm⟩
     ·cases hx
    ·cases hx
   ·cases hx
  case call c =>
   obtain ⟨callee,args,tys⟩:=c
   cases callee
   case value f=>cases h
   case invoke=>cases hx
   case builtin b =>
    cases b <;> simp only [reduceCtorEq] at hx
    all_goals
     simp only [oqE,oqB] at hx
     obtain ⟨l,h1,hx⟩:=hx
     split at hx
     ·simp only [oqB,oqI] at hx
      first
      | (obtain ⟨_,_,_,_,_,_,hx⟩:=hx;exact ⟨_,_,hx.symm⟩)
      | (obtain ⟨_,_,_,_,hx⟩:=hx;exact ⟨_,_,hx.symm⟩)
     ·cases hx
theorem refD_of {o:Oper} {c:CQ} (hc:RefQ C n o c) (h:callish o = false):RefD C n o c:=by
 intro cf ft t k r hr
 rcases hc cf ft t k r hr with ⟨ft',t',h1,h2⟩ | ⟨v,ft',t',h1,h2⟩
 ·unfold stepF doC at h1
  cases ho:opF C.P C.cmp (evF ft) t o with
  | none=>rw [ho] at h1;cases h1
  | some x =>
   obtain ⟨v,t1,rfl⟩:=opF_val_only h ho
   rw [ho] at h1
   simp only at h1
   cases hp:putF n ft o.dst v with
   | none=>rw [hp] at h1;cases h1
   | some ft1 =>
    rw [hp] at h1
    simp only [oqI,oqM] at h1
    obtain ⟨_,rfl,rfl⟩:=h1
    exact ⟨v,t1,.inl rfl,ft1,hp,h2⟩
 ·unfold stepF doC at h1
  cases ho:opF C.P C.cmp (evF ft) t o with
  | none=>rw [ho] at h1;cases h1
  | some x =>
   obtain ⟨v,t1,rfl⟩:=opF_val_only h ho
   rw [ho] at h1
   simp only at h1
   cases hp:putF n ft o.dst v with
   | none=>rw [hp] at h1;cases h1
   | some ft1=>rw [hp] at h1;cases h1
theorem endD_ok {ft:FT} {k:KQ} {x:Option CF} {r:CF} (h:endD p ft k x = some r):∃ v t,x = some (.ret v t)∧k (p.put v ft) t = some r:=by
 obtain ⟨y,hy,h⟩:=orec h
 cases y with
 | ret v t=>exact ⟨v,t,hy,h⟩
 | pan v t=>cases h
theorem qOpD_ok {o:Oper} (hp:ptR n o.dst = some p):RefD C n o (qOpD C n p o):=by
 unfold qOpD
 split
 ·rename_i h;exact refD_of (qOp_ok hp) h
 ·obtain ⟨dst,op,ty,pos,aft,g⟩:=o
  simp only
  split
  ·rename_i f args tys _
   split
   ·rename_i l h1
    intro cf ft t k r hr
    obtain ⟨v,t',h2,h3⟩:=endD_ok hr
    exact ⟨v,t',.inr ⟨f,_,call_h (gf:=f) rfl (agRL_ok ft h1),h2⟩,_,ptR_ok hp v ft,h3⟩
   ·intro cf ft t k r hr;cases hr
  ·rename_i f args tys _ _
   split
   ·rename_i a h0
    split
    ·rename_i l h1
     intro cf ft t k r hr
     obtain ⟨q,hq,hr⟩:=orec hr
     obtain ⟨v,t',h2,h3⟩:=endD_ok hr
     exact ⟨v,t',.inr ⟨q.f,_,callV_h (by rw [agR_ok h0,gFn_ok hq]) (agRL_ok ft h1),h2⟩,_,ptR_ok hp v ft,h3⟩
    ·intro cf ft t k r hr;cases hr
   ·intro cf ft t k r hr;cases hr
  ·intro cf ft t k r hr;cases hr
end
end Go.Fa
namespace Go.Fa
open Ab (AS AV OR Fr H CR Cls clsOf Ex Conf Calls' W X PrimOk isAnc Ext)
abbrev Es:=List (Nat × FH)
abbrev Rs:=List (Nat × FT × Oper × AV)
abbrev KD:=FT→FH→Es→Rs→Option CF
structure DQ where
 f:CallsF→FT→FH→Es→Rs→KD→Option CF
def failD:DQ:=⟨fun _ _ _ _ _ _=>none⟩
def loose (A:List Nat) (i:Nat) (seen:List Nat):Bool:=seen.any fun j=>!isAnc A j i
noncomputable def bodyD (C:Conf) (n:Nat) (A:List Nat) (i:Nat) (o:Oper) (sE sR:List Nat) (c:CQ):DQ :=
 match clsOf C.P o with
 | .read=>match o.dst with
  | some d=>match agR (.tmp d) with
   | some a=>match loose A i sE with
    | true=>⟨fun cf ft t es rs k=>c.f cf ft t (fun ft' t'=>@Bool.rec (fun _=>Option CF) none (k ft' t' es ((i,ft,o,a.g ft')::rs)) (allE C A i ft o (a.g ft') es))⟩
    | false=>⟨fun cf ft t es rs k=>c.f cf ft t (fun ft' t'=>k ft' t' es ((i,ft,o,a.g ft')::rs))⟩
   | none=>failD
  | none=>failD
 | .eff=>match loose A i sR with
  | true=>⟨fun cf ft t es rs k=>c.f cf ft t (fun ft' t'=>@Bool.rec (fun _=>Option CF) none (k ft' t' ((i,t)::es) rs) (allR C A i t' rs))⟩
  | false=>⟨fun cf ft t es rs k=>c.f cf ft t (fun ft' t'=>k ft' t' ((i,t)::es) rs)⟩
 | _=>⟨fun cf ft t es rs k=>c.f cf ft t (fun ft' t'=>k ft' t' es rs)⟩
noncomputable def guardD (ops:List Oper) (p:PtR) (o:Oper) (c:DQ):DQ :=
 match o.guard with
 | none=>c
 | some (j,want)=>match ops[j]? with
  | some q=>match q.dst with
   | some d=>match agR (.tmp d) with
    | some a=>(fun s:DQ=>match want with
     | true=>⟨fun cf ft t es rs k=>@Option.rec Bool (fun _=>Option CF) (@Bool.rec (fun _=>Option CF) none (s.f cf ft t es rs k) (isUndef (a.g ft))) (fun b=>@Bool.rec (fun _=>Option CF) (s.f cf ft t es rs k) (c.f cf ft t es rs k) b) (gBool (a.g ft))⟩
     | false=>⟨fun cf ft t es rs k=>@Option.rec Bool (fun _=>Option CF) (@Bool.rec (fun _=>Option CF) none (s.f cf ft t es rs k) (isUndef (a.g ft))) (fun b=>@Bool.rec (fun _=>Option CF) (c.f cf ft t es rs k) (s.f cf ft t es rs k) b) (gBool (a.g ft))⟩) ⟨fun _ ft t es rs k=>k (p.put .undef ft) t es rs⟩
    | none=>failD
   | none=>failD
  | none=>failD
noncomputable def stepD (C:Conf) (n:Nat) (ops:List Oper) (A:List Nat) (i:Nat) (o:Oper) (sE sR:List Nat):DQ :=
 match ptR n o.dst with
 | some p=>guardD ops p o (bodyD C n A i o sE sR (qOpD C n p o))
 | none=>failD
def isE (C:Conf) (o:Oper):Bool:=match clsOf C.P o with | .eff=>true | _=>false
def isR (C:Conf) (o:Oper):Bool:=match clsOf C.P o with | .read=>true | _=>false
noncomputable def compD (C:Conf) (n:Nat) (ops:List Oper) (A:List Nat):List Nat→List Nat→List Nat→DQ
 | [],_,_=>⟨fun _ ft t es rs k=>k ft t es rs⟩
 | i::l,sE,sR=>match ops[i]? with
  | some o=>(fun a b:DQ=>⟨fun cf ft t es rs k=>a.f cf ft t es rs (fun ft t es rs=>b.f cf ft t es rs k)⟩) (stepD C n ops A i o sE sR) (compD C n ops A l (bif isE C o then i::sE else sE) (bif isR C o then i::sR else sR))
  | none=>failD
noncomputable def drQ (C:Conf) (n:Nat) (ops:List Oper):CQ :=
 (fun c:DQ=>⟨fun cf ft t k=>c.f cf ft t [] [] (fun ft t _ _=>k ft t)⟩) (compD C n ops (Ab.ancs ops []) (Ab.canon C.P ops) [] [])
section
variable {C:Conf} {n:Nat} {ops:List Oper} {A:List Nat}
theorem allE_anc {i:Nat} {ft:FT} {o:Oper} {v:AV}:∀ {es:Es},(∀ e ∈ es,isAnc A e.1 i = true)→allE C A i ft o v es = true
 | [],_=>rfl
 | e::l,h=>by
  rw [allE,h e (by simp)]
  exact allE_anc fun e' h'=>h e' (List.mem_cons_of_mem _ h')
theorem allR_anc {i:Nat} {t:FH}:∀ {rs:Rs},(∀ r ∈ rs,isAnc A r.1 i = true)→allR C A i t rs = true
 | [],_=>rfl
 | e::l,h=>by
  rw [allR,h e (by simp)]
  exact allR_anc fun e' h'=>h e' (List.mem_cons_of_mem _ h')
theorem loose_no {i:Nat} {seen:List Nat} (h:loose A i seen = false):∀ j ∈ seen,isAnc A j i = true:=by
 intro j hj
 unfold loose at h
 rw [List.any_eq_false] at h
 have:=h j hj
 simpa using this
theorem opF_cls {e:Ev} {t:FH} {o:Oper} {x:FR} (hc:clsOf C.P o ≠ .eff) (hx:opF C.P C.cmp e t o = some x):∃ v t',x = .val v t':=by
 unfold opF at hx
 split at hx
 ·unfold keepF at hx
  split at hx
  ·simp only [oqI] at hx;exact ⟨_,_,hx.symm⟩
  ·cases hx
 ·unfold keepF at hx
  split at hx
  ·simp only [oqI] at hx;exact ⟨_,_,hx.symm⟩
  ·cases hx
 ·unfold mkF at hx
  split at hx
  ·split at hx
   ·split at hx
    ·simp only [oqI] at hx;exact ⟨_,_,hx.symm⟩
    ·cases hx
   ·cases hx
  ·cases hx
 ·rename_i h;exact absurd h hc
theorem opF_read {e:Ev} {t t':FH} {o:Oper} {v:AV} (hc:clsOf C.P o = .read) (hx:opF C.P C.cmp e t o = some (.val v t')):t' = t∧∃ h,opAE C.P C.cmp e (toH t) o = some (.val v h):=by
 unfold opF at hx
 rw [hc] at hx
 simp only [keepF] at hx
 split at hx
 ·rename_i v' h' ho
  simp only [oqI,FR.val.injEq] at hx
  obtain ⟨rfl,rfl⟩:=hx
  exact ⟨rfl,h',ho⟩
 ·cases hx
theorem put_get {d:Nat} {a:AgR} (ha:agR (.tmp d) = some a) {ft ft':FT} {v:AV} (hp:putF n ft (some d) v = some ft'):a.g ft' = v:=by
 obtain ⟨h1,h2⟩:=bif_some ha
 simp only [oqI] at h2;subst h2
 obtain ⟨h3,h4⟩:=bif_some hp
 simp only [oqI] at h4;subst h4
 simp only [slotR_eq]
 rw [slot_get_set (blt_lt h1) (blt_lt h1),if_pos rfl]
def StepD (C:Conf) (n:Nat) (ops:List Oper) (A:List Nat) (i:Nat) (o:Oper) (sE sR:List Nat) (cf:CallsF) (ft:FT) (t:FH) (es:Es) (rs:Rs) (k:KD) (r:CF):Prop :=
 ∃ ft' t' es' rs',k ft' t' es' rs' = some r∧(∀ l,runDF C cf n ops A (i::l) ft t es rs = runDF C cf n ops A l ft' t' es' rs') ∧
  (∀ e ∈ es',e.1 ∈ (bif isE C o then i::sE else sE))∧(∀ e ∈ rs',e.1 ∈ (bif isR C o then i::sR else sR))
theorem mem_b {b:Bool} {i j:Nat} {l:List Nat} (h:j ∈ l):j ∈ (bif b then i::l else l):=by
 cases b with
 | true=>exact List.mem_cons_of_mem _ h
 | false=>exact h
theorem bodyD_ok {i:Nat} {o:Oper} {sE sR:List Nat} (ho:ops[i]? = some o) {c:CQ} (hc:RefD C n o c) {cf:CallsF} {ft:FT} {t:FH} {es:Es} {rs:Rs} {k:KD} {r:CF} (hE:∀ e ∈ es,e.1 ∈ sE) (hR:∀ e ∈ rs,e.1 ∈ sR)
  (hw:wantF (evF ft) ops o = some true) (hr:(bodyD C n A i o sE sR c).f cf ft t es rs k = some r):StepD C n ops A i o sE sR cf ft t es rs k r:=by
 unfold bodyD at hr
 unfold StepD isE isR
 split at hr
 ·rename_i hcl
  have hcl':clsOf C.P o ≠ .eff:=by rw [hcl];intro h;cases h
  simp only [hcl]
  split at hr
  ·rename_i d hd
   split at hr
   ·rename_i a ha
    have key:∀ (K:KQ) r,c.f cf ft t K = some r→∃ v ft' h,opAE C.P C.cmp (evF ft) (toH t) o = some (.val v h)∧putF n ft o.dst v = some ft'∧a.g ft' = v∧K ft' t = some r:=by
     intro K r hr
     obtain ⟨v,t',h1,ft',h2,h3⟩:=hc cf ft t K r hr
     rcases h1 with h1 | ⟨f,l,h1,_⟩
     ·obtain ⟨rfl,h,hh⟩:=opF_read hcl h1
      exact ⟨v,ft',h,hh,h2,put_get ha (by rw [← hd];exact h2),h3⟩
     ·obtain ⟨_,_,e⟩:=opF_cls hcl' h1;cases e
    have step:∀ (v:AV) ft' h,opAE C.P C.cmp (evF ft) (toH t) o = some (.val v h)→putF n ft o.dst v = some ft'→allE C A i ft o v es = true →
      ∀ l,runDF C cf n ops A (i::l) ft t es rs = runDF C cf n ops A l ft' t es ((i,ft,o,v)::rs):=by
     intro v ft' h h1 h2 h3 l
     rw [runDF]
     simp only [ho,hw,hcl,h1,h2,h3,cond_true]
    split at hr
    ·rename_i hl
     obtain ⟨v,ft',h,h1,h2,h3,h4⟩:=key _ r hr
     obtain ⟨h5,h6⟩:=brec h4
     rw [h3] at h5 h6
     refine ⟨ft',t,es,_,h6,step v ft' h h1 h2 h5,fun e he=>mem_b (hE e he),fun e he=>?_⟩
     rcases List.mem_cons.1 he with rfl | he
     ·simp
     ·exact mem_b (hR e he)
    ·rename_i hl
     obtain ⟨v,ft',h,h1,h2,h3,h4⟩:=key _ r hr
     simp only [h3] at h4
     refine ⟨ft',t,es,_,h4,step v ft' h h1 h2 (allE_anc fun e he=>loose_no hl _ (hE e he)),fun e he=>mem_b (hE e he),fun e he=>?_⟩
     rcases List.mem_cons.1 he with rfl | he
     ·simp
     ·exact mem_b (hR e he)
   ·cases hr
  ·cases hr
 ·rename_i hcl
  simp only [hcl]
  have key:∀ (K:KQ) r,c.f cf ft t K = some r→∃ v t' ft',putF n ft o.dst v = some ft'∧K ft' t' = some r∧(allR C A i t' rs = true→∀ l,runDF C cf n ops A (i::l) ft t es rs = runDF C cf n ops A l ft' t' ((i,t)::es) rs):=by
   intro K r hr
   obtain ⟨v,t',h1,ft',h2,h3⟩:=hc cf ft t K r hr
   refine ⟨v,t',ft',h2,h3,fun h4 l=>?_⟩
   rw [runDF]
   rcases h1 with h1 | ⟨f,l',h1,h5⟩
   ·simp only [ho,hw,hcl,h1,h2,h4,cond_true]
   ·simp only [ho,hw,hcl,h1,h5,h2,h4,cond_true]
  split at hr
  ·rename_i hl
   obtain ⟨v,t',ft',h2,h3,h4⟩:=key _ r hr
   obtain ⟨h5,h6⟩:=brec h3
   refine ⟨ft',t',_,rs,h6,h4 h5,fun e he=>?_,fun e he=>mem_b (hR e he)⟩
   rcases List.mem_cons.1 he with rfl | he
   ·simp
   ·exact mem_b (hE e he)
  ·rename_i hl
   obtain ⟨v,t',ft',h2,h3,h4⟩:=key _ r hr
   refine ⟨ft',t',_,rs,h3,h4 (allR_anc fun e he=>loose_no hl _ (hR e he)),fun e he=>?_,fun e he=>mem_b (hR e he)⟩
   rcases List.mem_cons.1 he with rfl | he
   ·simp
   ·exact mem_b (hE e he)
 ·rename_i hne1 hne2
  obtain ⟨v,t',h1,ft',h2,h3⟩:=hc cf ft t _ r hr
  refine ⟨ft',t',es,rs,h3,fun l=>?_,fun e he=>mem_b (hE e he),fun e he=>mem_b (hR e he)⟩
  rw [runDF]
  rcases h1 with h1 | ⟨f,l',h1,h5⟩
  ·cases hcl:clsOf C.P o with
   | eff=>exact absurd hcl hne2
   | read=>exact absurd hcl hne1
   | pure=>simp only [ho,hw,hcl,h1,h2]
   | make=>simp only [ho,hw,hcl,h1,h2]
  ·obtain ⟨_,_,e⟩:=opF_cls hne2 h1;cases e
theorem stepD_ok {i:Nat} {o:Oper} {sE sR:List Nat} (ho:ops[i]? = some o) {cf:CallsF} {ft:FT} {t:FH} {es:Es} {rs:Rs} {k:KD} {r:CF} (hE:∀ e ∈ es,e.1 ∈ sE) (hR:∀ e ∈ rs,e.1 ∈ sR)
  (hr:(stepD C n ops A i o sE sR).f cf ft t es rs k = some r):StepD C n ops A i o sE sR cf ft t es rs k r:=by
 unfold stepD at hr
 split at hr
 ·rename_i p hp
  have hskip:wantF (evF ft) ops o = some false→k (p.put .undef ft) t es rs = some r→StepD C n ops A i o sE sR cf ft t es rs k r:=by
   intro hw hk
   refine ⟨p.put .undef ft,t,es,rs,hk,fun l=>?_,fun e he=>mem_b (hE e he),fun e he=>mem_b (hR e he)⟩
   rw [runDF]
   simp only [ho,hw,ptR_ok hp]
  have hdo:wantF (evF ft) ops o = some true→(bodyD C n A i o sE sR (qOpD C n p o)).f cf ft t es rs k = some r→StepD C n ops A i o sE sR cf ft t es rs k r :=
   fun hw hr=>bodyD_ok ho (qOpD_ok hp) hE hR hw hr
  unfold guardD at hr
  split at hr
  ·rename_i hg
   exact hdo (by unfold wantF;rw [hg]) hr
  ·rename_i j want hg
   split at hr
   ·rename_i q hq
    split at hr
    ·rename_i d hd
     split at hr
     ·rename_i a ha
      have hev:=agR_ok ha ft
      have hwb:∀ b,a.g ft = .one (.bool b)→wantF (evF ft) ops o = some (b == want):=by
       intro b hb
       unfold wantF;rw [hg]
       simp only [hq,hd,hev,hb,oqE,oqS]
      have hwu:a.g ft = .undef→wantF (evF ft) ops o = some false:=by
       intro hb
       unfold wantF;rw [hg]
       simp only [hq,hd,hev,hb,oqE,oqS]
      have hu:@Bool.rec (fun _=>Option CF) none (k (p.put .undef ft) t es rs) (isUndef (a.g ft)) = some r→StepD C n ops A i o sE sR cf ft t es rs k r:=by
       intro h
       obtain ⟨h1,h2⟩:=brec h
       exact hskip (hwu (isUndef_ok h1)) h2
      cases want with
      | true =>
       simp only at hr
       cases hb:gBool (a.g ft) with
       | none=>rw [hb] at hr;exact hu hr
       | some b =>
        rw [hb] at hr
        have hb':=gBool_ok hb
        cases b with
        | true=>exact hdo (hwb _ hb') hr
        | false=>exact hskip (hwb _ hb') hr
      | false =>
       simp only at hr
       cases hb:gBool (a.g ft) with
       | none=>rw [hb] at hr;exact hu hr
       | some b =>
        rw [hb] at hr
        have hb':=gBool_ok hb
        cases b with
        | true=>exact hskip (hwb _ hb') hr
        | false=>exact hdo (hwb _ hb') hr
     ·cases hr
    ·cases hr
   ·cases hr
 ·cases hr
theorem compD_ok {cf:CallsF}:∀ (l:List Nat) (sE sR:List Nat) (ft:FT) (t:FH) (es:Es) (rs:Rs) (k:KQ) (r:CF),(∀ e ∈ es,e.1 ∈ sE)→(∀ e ∈ rs,e.1 ∈ sR) →
  (compD C n ops A l sE sR).f cf ft t es rs (fun ft t _ _=>k ft t) = some r→∃ ft' t',runDF C cf n ops A l ft t es rs = some (.normal,ft',t')∧k ft' t' = some r
 | [],sE,sR,ft,t,es,rs,k,r,_,_,hr=>⟨ft,t,by rw [runDF],hr⟩
 | i::l,sE,sR,ft,t,es,rs,k,r,hE,hR,hr=>by
  rw [compD] at hr
  split at hr
  ·rename_i o ho
   obtain ⟨ft',t',es',rs',h1,h2,h3,h4⟩:=stepD_ok ho hE hR hr
   rw [h2]
   exact compD_ok l _ _ ft' t' es' rs' k r h3 h4 h1
  ·cases hr
theorem drQ_ok {cf:CallsF} (hd:Ab.okDraw C.P ops = true) {ft:FT} {t:FH} {k:KQ} {r:CF} (hr:(drQ C n ops).f cf ft t k = some r):FinQ (drF C cf n ops ft t) k r:=by
 obtain ⟨ft',t',h1,h2⟩:=compD_ok _ _ _ _ _ [] [] _ _ (by intro e he;cases he) (by intro e he;cases he) hr
 refine .inl ⟨ft',t', ?_,h2⟩
 unfold drF
 rw [hd]
 exact h1
end
abbrev KE:=Ex→FT→FH→Option CF
structure CodeQ where
 run:CallsF→FT→FH→KQ→KE→Option CF
def FinC (x:OutF) (kn:KQ) (ke:KE) (r:CF):Prop:=∃ e ft t,x = some (e,ft,t)∧(match e with | .normal=>kn ft t = some r | .pan v=>r = .pan v t | e=>ke e ft t = some r)
noncomputable def loopQ (b:CodeQ) (cf:CallsF) (ke:KE) (fuel:Nat) (kn:KQ):KQ:=@Nat.rec (fun _=>KQ) (fun _ _=>none) (fun _ ih ft t=>b.run cf ft t ih ke) fuel
noncomputable def blockE (id:Nat) (kn:KQ) (ke:KE):KE:=fun e ft t=>@Ex.rec (fun _=>Option CF) (ke .normal ft t) (fun i=>@Bool.rec (fun _=>Option CF) (ke (.exit i) ft t) (kn ft t) (Nat.beq i id)) (ke .ret ft t) (fun v=>ke (.pan v) ft t) e
noncomputable def denQ (C:Conf) (fuel n:Nat):Code→CodeQ
 | .skip=>⟨fun _ ft t kn _=>kn ft t⟩
 | .label _=>⟨fun _ ft t kn _=>kn ft t⟩
 | .region _ ops draw=>match draw with
  | true=>(fun c:CQ=>⟨fun cf ft t kn _=>c.f cf ft t kn⟩) (drQ C n ops.toList)
  | false=>(fun c:CQ=>⟨fun cf ft t kn _=>c.f cf ft t kn⟩) (compQ C n ops.toList ops.toList)
 | .seq a b=>(fun x y:CodeQ=>⟨fun cf ft t kn ke=>x.run cf ft t (fun ft t=>y.run cf ft t kn ke) ke⟩) (denQ C fuel n a) (denQ C fuel n b)
 | .cond c a b=>match agR c with
  | some q=>(fun (q:AgR) (x y:CodeQ)=>⟨fun cf ft t kn ke=>@Option.rec Bool (fun _=>Option CF) none (fun z=>@Bool.rec (fun _=>Option CF) (y.run cf ft t kn ke) (x.run cf ft t kn ke) z) (gBool (q.g ft))⟩) q (denQ C fuel n a) (denQ C fuel n b)
  | none=>⟨fun _ _ _ _ _=>none⟩
 | .block id b=>(fun x:CodeQ=>⟨fun cf ft t kn ke=>x.run cf ft t kn (blockE id kn ke)⟩) (denQ C fuel n b)
 | .loop b=>(fun x:CodeQ=>⟨fun cf ft t kn ke=>loopQ x cf ke fuel kn ft t⟩) (denQ C fuel n b)
 | .exit id=>⟨fun _ ft t _ ke=>ke (.exit id) ft t⟩
 | .ret=>⟨fun _ ft t _ ke=>ke .ret ft t⟩
 | _=>⟨fun _ _ _ _ _=>none⟩
def drawsOk (P:Program):Code→Bool
 | .region _ ops draw=>!draw || Ab.okDraw P ops.toList
 | .seq a b=>drawsOk P a && drawsOk P b
 | .cond _ a b=>drawsOk P a && drawsOk P b
 | .block _ b=>drawsOk P b
 | .loop b=>drawsOk P b
 | _=>true
theorem finQ_C {x:OutF} {kn:KQ} {ke:KE} {r:CF} (h:FinQ x kn r):FinC x kn ke r:=by
 rcases h with ⟨ft,t,h1,h2⟩ | ⟨v,ft,t,h1,h2⟩
 ·exact ⟨.normal,ft,t,h1,h2⟩
 ·exact ⟨.pan v,ft,t,h1,h2⟩
section
variable {C:Conf} {fuel n:Nat} {cf:CallsF}
theorem loopQ_ok {b:CodeQ} {g:FT→FH→OutF} (hb:∀ ft t kn ke r,b.run cf ft t kn ke = some r→FinC (g ft t) kn ke r) {kn:KQ} {ke:KE} {r:CF}:∀ (k:Nat) (ft:FT) (t:FH),loopQ b cf ke k kn ft t = some r→FinC (loopF g k ft t) kn ke r
 | 0,_,_,hr=>by cases hr
 | k + 1,ft,t,hr=>by
  have hr':b.run cf ft t (loopQ b cf ke k kn) ke = some r:=hr
  obtain ⟨e,ft',t',h1,h2⟩:=hb _ _ _ _ _ hr'
  rw [loopF,h1]
  cases e with
  | normal=>exact loopQ_ok hb k ft' t' h2
  | _=>exact ⟨_,ft',t',rfl,h2⟩
theorem denQ_ok:∀ (c:Code),drawsOk C.P c = true→∀ (ft:FT) (t:FH) (kn:KQ) (ke:KE) (r:CF),(denQ C fuel n c).run cf ft t kn ke = some r→FinC (exF C (drF C) cf fuel n c ft t) kn ke r:=by
 intro c
 induction c <;> intro hd ft t kn ke r hr <;> simp only [denQ,reduceCtorEq] at hr <;> (try simp only [exF])
 case skip=>exact ⟨_,ft,t,rfl,hr⟩
 case label=>exact ⟨_,ft,t,rfl,hr⟩
 case exit=>exact ⟨_,ft,t,rfl,hr⟩
 case ret=>exact ⟨_,ft,t,rfl,hr⟩
 case region id ops draw =>
  cases draw with
  | true =>
   simp only [drawsOk,Bool.not_true,Bool.false_or] at hd
   exact finQ_C (drQ_ok hd hr)
  | false=>exact finQ_C (compQ_ok _ _ _ _ _ hr)
 case seq a b iha ihb =>
  simp only [drawsOk,Bool.and_eq_true] at hd
  obtain ⟨e,ft',t',h1,h2⟩:=iha hd.1 _ _ _ _ _ hr
  rw [h1]
  cases e with
  | normal=>exact ihb hd.2 _ _ _ _ _ h2
  | _=>exact ⟨_,ft',t',rfl,h2⟩
 case cond c a b iha ihb =>
  simp only [drawsOk,Bool.and_eq_true] at hd
  split at hr
  ·rename_i q hq
   obtain ⟨z,hz,hr⟩:=orec hr
   have:evSE (evF ft) c = some (.bool z):=by
    simp only [evSE,agR_ok hq ft,gBool_ok hz,oqE,oqS]
   rw [this]
   cases z with
   | true=>exact iha hd.1 _ _ _ _ _ hr
   | false=>exact ihb hd.2 _ _ _ _ _ hr
  ·cases hr
 case block id b ih =>
  simp only [drawsOk] at hd
  obtain ⟨e,ft',t',h1,h2⟩:=ih hd _ _ _ _ _ hr
  rw [h1]
  cases e with
  | normal=>exact ⟨_,ft',t',rfl,h2⟩
  | ret=>exact ⟨_,ft',t',rfl,h2⟩
  | pan v=>exact ⟨_,ft',t',rfl,h2⟩
  | exit i =>
   have h2':@Bool.rec (fun _=>Option CF) (ke (.exit i) ft' t') (kn ft' t') (Nat.beq i id) = some r:=h2
   simp only
   cases hi:Nat.beq i id with
   | true=>rw [hi] at h2';exact ⟨_,ft',t',rfl,h2'⟩
   | false=>rw [hi] at h2';exact ⟨_,ft',t',rfl,h2'⟩
 case loop b ih =>
  simp only [drawsOk] at hd
  exact loopQ_ok (fun ft t kn ke r=>ih hd ft t kn ke r) _ _ _ hr
end
structure ResQ where
 g:FT→FH→Option AV
noncomputable def oneRes:AV→Option AV:=@AV.rec (fun _=>Option AV) none (fun a=>some (.one a)) (fun l=>some (.agg l)) (fun _=>none) none
noncomputable def partR:AV→Option (Bool × List AS):=@AV.rec (fun _=>Option (Bool × List AS)) none (fun a=>some (false,[a])) (fun l=>some (true,l)) (fun _=>none) none
noncomputable def tmpsR:List ResultVar→Option (List AgR)
 | []=>some []
 | .tmp i::l=>(match agR (.tmp i) with
  | some a=>match tmpsR l with
   | some r=>some (a::r)
   | none=>none
  | none=>none)
 | _::_=>none
noncomputable def partsOfR (ft:FT) (l:List AgR):Option (List (Bool × List AS)):=@List.rec AgR (fun _=>Option (List (Bool × List AS))) (some []) (fun a _ ih=>@Option.rec (Bool × List AS) (fun _=>Option (List (Bool × List AS))) none (fun q=>@Option.rec (List (Bool × List AS)) (fun _=>Option (List (Bool × List AS))) none (fun r=>some (q::r)) ih) (partR (a.g ft))) l
noncomputable def resQ (C:Conf) (rs:List ResultVar):ResQ :=
 match tmpsR rs with
 | some [a]=>⟨fun ft _=>oneRes (a.g ft)⟩
 | some l=>⟨fun ft _=>@Option.rec (List (Bool × List AS)) (fun _=>Option AV) none (fun q=>some (.tup q)) (partsOfR ft l)⟩
 | none=>⟨fun ft t=>resultE C.P (evF ft) (toH t) rs⟩
theorem partR_eq (v:AV):partR v = Ab.partOf v:=by cases v <;> rfl
theorem tmpsR_ok {C:Conf} {ft:FT} {h:H}:∀ {rs:List ResultVar} {l:List AgR},tmpsR rs = some l→resPartsE C.P (evF ft) h rs = partsOfR ft l∧rs.length = l.length
 | [],l,hl=>by
  simp only [tmpsR,oqI] at hl;subst hl
  exact ⟨rfl,rfl⟩
 | .tmp i::rs,l,hl=>by
  rw [tmpsR] at hl
  split at hl
  ·rename_i a ha
   split at hl
   ·rename_i r hr
    simp only [oqI] at hl;subst hl
    obtain ⟨h1,h2⟩:=tmpsR_ok (C:=C) (ft:=ft) (h:=h) hr
    refine ⟨?_,by simp [h2]⟩
    rw [resPartsE,h1]
    show _ = @Option.rec (Bool × List AS) (fun _=>Option (List (Bool × List AS))) none (fun q=>@Option.rec (List (Bool × List AS)) (fun _=>Option (List (Bool × List AS))) none (fun r=>some (q::r)) (partsOfR ft r)) (partR (a.g ft))
    simp only [resVarE,agR_ok ha ft,oqE,oqS,partR_eq]
    cases Ab.partOf (a.g ft) with
    | none=>rfl
    | some q=>cases partsOfR ft r <;> rfl
   ·cases hl
  ·cases hl
 | .cell a t::rs,l,hl=>by cases hl
theorem resQ_ok {C:Conf} {rs:List ResultVar} {ft:FT} {t:FH} {v:AV} (h:(resQ C rs).g ft t = some v):resultE C.P (evF ft) (toH t) rs = some v:=by
 unfold resQ at h
 split at h
 ·rename_i a ha
  obtain ⟨h1,h2⟩:=tmpsR_ok (C:=C) (ft:=ft) (h:=toH t) ha
  match rs,h2,ha with
  | [r],_,ha =>
   cases r with
   | cell x y=>cases ha
   | tmp i =>
    rw [tmpsR] at ha
    split at ha
    ·rename_i b hb
     simp only [tmpsR,oqI,List.cons.injEq,and_true] at ha
     subst ha
     simp only [resultE,resVarE,agR_ok hb ft,oqE,oqS]
     simp only at h
     cases hx:b.g ft with
     | undef=>rw [hx] at h;cases h
     | opq=>rw [hx] at h;cases h
     | one s=>rw [hx] at h;exact h
     | agg l=>rw [hx] at h;exact h
     | tup l=>rw [hx] at h;cases h
    ·cases ha
 ·rename_i l hne hl
  obtain ⟨h1,h2⟩:=tmpsR_ok (C:=C) (ft:=ft) (h:=toH t) hl
  obtain ⟨q,hq,h⟩:=orec h
  simp only [oqI] at h;subst h
  have hlen:∀ r,rs ≠ [r]:=by
   rintro r rfl
   match l,h2 with
   | [a],_=>exact hne a rfl
  unfold resultE
  split
  ·rename_i r;exact absurd rfl (hlen r)
  ·rw [h1,hq];rfl
 ·exact h
structure FnQ where
 nt:Nat
 code:CodeQ
 res:ResQ
noncomputable def fnQ (C:Conf) (T:Tab) (fuel f:Nat):Option FnQ:=match T.fn f with
 | some (nt,c,rs)=>bif Nat.ble nt 512 then some ⟨nt,denQ C fuel nt c,resQ C rs⟩ else none
 | none=>none
noncomputable def finR (r:ResQ):KQ:=fun ft t=>@Option.rec AV (fun _=>Option CF) none (fun v=>some (.ret v t)) (r.g ft t)
noncomputable def finE (r:ResQ):KE:=fun e ft t=>@Ex.rec (fun _=>Option CF) none (fun _=>none) (finR r ft t) (fun _=>none) e
noncomputable def bodyR (F:FnQ) (cf:CallsF) (args:List AV) (t:FH):Option CF :=
 @Bool.rec (fun _=>Option CF) none (F.code.run cf (putR args 0 FT.empty) t (finR F.res) (finE F.res)) (Nat.ble (lenVR args) F.nt)
noncomputable def extR' (C:Conf) (x:Ext) (args:List AV) (t:FH):Option CF:=match Ab.extA x args (toH t) with
 | some (.ret v _)=>some (.ret v t)
 | _=>none
noncomputable def restR (C:Conf) (T:Tab) (fuel:Nat) (ih:CallsF) (f:Nat) (args:List AV) (t:FH):Option CF :=
 @Option.rec Ext (fun _=>Option CF) (@Option.rec FnQ (fun _=>Option CF) none (fun F=>bodyR F ih args t) (fnQ C T fuel f)) (fun x=>extR' C x args t) (C.ext f)
noncomputable def callR (C:Conf) (T:Tab) (fuel:Nat) (d:Nat):CallsF :=
 @Nat.rec (fun _=>CallsF) (fun _ _ _=>none) (fun _ ih f args t =>
  @Option.rec (CallsF→List AV→FH→Option CF) (fun _=>Option CF)
   (@Option.rec Ext (fun _=>Option CF) (@Option.rec FnQ (fun _=>Option CF) none (fun F=>bodyR F ih args t) (fnQ C T fuel f)) (fun x=>extR' C x args t) (C.ext f))
   (fun g=>g ih args t) (T.prim f)) d
structure TabOkD (C:Conf) (T:Tab):Prop extends TabOk C T where
 draws:∀ f nt c rs,T.fn f = some (nt,c,rs)→drawsOk C.P c = true
variable {C:Conf}
theorem restR_ok {ww:Calls'} {xx:Code→Fr→H→Option (Ex × Fr × H)} (hX:∀ c fr h,xx c fr h = Ab.step C ww xx c fr h) {T:Tab} (hT:TabOkD C T) {fuel:Nat} {cf:CallsF} (ih:CallsR cf ww) {f:Nat} (hg:T.prim f = none) {args:List AV} {t:FH} {h:H} {r:CF} (hh:HR t h)
  (hr:restR C T fuel cf f args t = some r):CFok (Ab.callF C ww xx f args h) r:=by
 unfold Ab.callF
 unfold restR at hr
 simp only [hT.none f hg]
 cases hx:C.ext f with
 | some x =>
  rw [hx] at hr
  simp only [extR'] at hr ⊢
  rw [hh.eq] at hr
  split at hr
  ·rename_i v h' he
   simp only [oqI] at hr;subst hr
   obtain ⟨v',hv⟩:=ext_heap he
   simp only [CR.ret.injEq] at hv
   obtain ⟨rfl,rfl⟩:=hv
   exact ⟨_,he,hh⟩
  ·cases hr
 | none =>
  rw [hx] at hr
  obtain ⟨F,hF,hr⟩:=orec hr
  unfold fnQ at hF
  split at hF
  ·rename_i nt c rs hfn
   obtain ⟨g,h1,h2,h3,h4⟩:=hT.fn _ _ _ _ hfn
   have hF0:=bif_some hF
   clear hF
   obtain ⟨h6,hF⟩:=hF0
   simp only [oqI] at hF
   subst hF
   obtain ⟨h5,hr⟩:=brec hr
   have h5':args.length ≤ nt:=by rw [← lenV_eq,← lenVR_eq];exact ble_le h5
   have h6':nt ≤ 512:=ble_le h6
   simp only [h1,h2,h3,h4,oqE,oqS,hT.frz,oqF,if_false]
   rw [if_neg (by omega)]
   obtain ⟨e,ft',t',he,hm⟩:=denQ_ok c (hT.draws _ _ _ _ hfn) _ _ _ _ _ hr
   rw [putR_eq] at he
   obtain ⟨fr',h',ho,hf',hh'⟩:=exF_ok hX (drF_ok (C:=C)) ih (fuel:=fuel) (n:=nt) c _ t _ h _ (FrR.args h5' h6') hh he
   simp only at ho hf' hh'
   simp only [ho,oqS]
   have hfin:finR (resQ C rs) ft' t' = some r→CFok (do let v ← Ab.resultA C fr' h' rs;some (CR.ret v h')) r:=by
    intro hm
    obtain ⟨v,hv,hm⟩:=orec hm
    simp only [oqI] at hm;subst hm
    have:=resQ_ok hv
    rw [evF_eq hf',hh'.eq,resultE_eq] at this
    simp only [this,oqE,oqS]
    exact ⟨_,rfl,hh'⟩
   cases e with
   | normal=>exact hfin hm
   | ret=>exact hfin hm
   | exit i=>cases hm
   | pan v =>
    simp only at hm;subst hm
    exact ⟨_,rfl,hh'⟩
  ·cases hF
theorem callR_ok (hp:PrimOk C) {T:Tab} (hT:TabOkD C T) {fuel:Nat}:∀ d,CallsR (callR C T fuel d) (W C)
 | 0,_,_,_,_,_,_,hr=>by cases hr
 | d + 1,f,args,t,h,r,hh,hr=>by
  have ih:=callR_ok hp hT (fuel:=fuel) d
  rw [Ab.W_eq hp]
  have hr:@Option.rec (CallsF→List AV→FH→Option CF) (fun _=>Option CF) (restR C T fuel (callR C T fuel d) f args t) (fun g=>g (callR C T fuel d) args t) (T.prim f) = some r:=hr
  cases hg:T.prim f with
  | some g =>
   rw [hg] at hr
   obtain ⟨g',hg',hok⟩:=hT.prim f g hg
   unfold Ab.callF
   simp only [hg']
   exact hok _ _ ih _ _ _ _ hh hr
  | none =>
   rw [hg] at hr
   exact restR_ok (Ab.X_eq hp) hT ih hg hh hr
end Go.Fa
