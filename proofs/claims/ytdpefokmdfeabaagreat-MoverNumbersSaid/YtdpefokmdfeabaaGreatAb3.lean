/- From the abstract machine to the given statements; rules for walking in it. No conditions. -/
import Derived.Test.YtdpefokmdfeabaaGreatAb2
import GoSem.ClaimChange
import Derived.Below
import Derived.Carry
import Derived.Handed
import Derived.JoinedOf
import Derived.ChangeSame
import Derived.RowKit
/-
  THE FUNCTIONS WITHOUT A BODY: bits of floats, the order of bytes; and what is asked of a program, gathered.
-/
namespace Go.Ab
set_option linter.unusedVariables false
set_option linter.unusedSimpArgs false
set_option linter.unnecessarySimpa false

/-- the model's row of a function without a body -/
def rowOf : Ext → (Array Value → Sem Value)
  | .bits => Extern.MathFloatBits.float64bits
  | .frombits => Extern.MathFloatBits.float64frombits
  | .cmpBytes | .cmpStr => Extern.BytealgCompare.compare
structure ExtT (P : Program) (f : Nat) (x : Ext) : Prop where
  fn : ∃ fn, P.funcs[f]? = some fn ∧ fn.body = none ∧ (fn.name == "runtime.NumGoroutine") = false ∧ (Extern.findNext fn).isNone = true ∧ Extern.find fn = some (rowOf x)

theorem run_ext {P : Program} {f : Nat} {x : Ext} (h : ExtT P f x) (args : Array Value) (w : World) : (callFunc f args).run P w = ((rowOf x args).run P w).andThen fun v w' => .ok (.value v) w' := by
  obtain ⟨fn, h1, h2, h3, h4, h5⟩ := h.fn
  have h4' : Extern.findNext fn = none := by simpa using h4
  have h3' : ¬ fn.name = "runtime.NumGoroutine" := by simpa using h3
  simp only [callFunc, Sem.run_bind, run_program, Result.andThen_ok, h1, h2, beq_iff_eq, h3', if_false, Option.isNone_none, if_true, run_mark, h4', h5]
  simp [Sem.run_bind]

/-! ### The order of bytes -/
theorem cmp_go (a b : List UInt8) : (match (List.range (min a.length b.length)).find? fun i => a[i]! != b[i]! with
    | some i => if a[i]! < b[i]! then (-1 : Int) else 1
    | none => if a.length < b.length then -1 else if a.length > b.length then 1 else 0) = cmpL a b := by
  induction a generalizing b with
  | nil => cases b <;> simp [cmpL, Op.bytesLess]
  | cons x a ih =>
    cases b with
    | nil => simp [cmpL, Op.bytesLess]
    | cons y b =>
      have hr : List.range (min (x :: a).length (y :: b).length) = 0 :: (List.range (min a.length b.length)).map (· + 1) := by
        simp only [List.length_cons, Nat.succ_min_succ]
        rw [List.range_succ_eq_map]
      rw [hr]
      by_cases hxy : x = y
      · subst hxy
        have h0 : ((x :: a)[0]! != (x :: b)[0]!) = false := by simp
        rw [List.find?_cons, h0]
        simp only [List.find?_map]
        have hcomp : ((fun i => (x :: a)[i]! != (x :: b)[i]!) ∘ (· + 1)) = fun i => a[i]! != b[i]! := by funext i; simp
        rw [hcomp]
        have := ih b
        have hl : ¬ (x < x) := by simp [UInt8.lt_iff_toNat_lt]
        have e : cmpL (x :: a) (x :: b) = cmpL a b := by simp [cmpL, Op.bytesLess, hl]
        rw [e, ← this]
        cases hf : (List.range (min a.length b.length)).find? fun i => a[i]! != b[i]! with
        | none => simp
        | some i => simp
      · have h0 : ((x :: a)[0]! != (y :: b)[0]!) = true := by simp [hxy]
        rw [List.find?_cons, h0]
        simp only [cmpL, Op.bytesLess]
        have hb : (x == y) = false := by simp [hxy]
        simp [hb]
theorem cmp_eq (a b : ByteArray) : Extern.BytealgCompare.cmp a b = cmpL a.data.toList b.data.toList := by
  rw [← cmp_go]
  unfold Extern.BytealgCompare.cmp
  have hg : ∀ (x : ByteArray) (i : Nat), x[i]! = x.data.toList[i]! := by
    intro x i
    rw [getElem!_def, getElem!_def]
    by_cases h : i < x.size
    · have h' : i < x.data.toList.length := by simpa using h
      rw [getElem?_pos x i h, List.getElem?_eq_getElem h']
      simp [ByteArray.getElem_eq_getElem_data]
    · have h' : ¬ i < x.data.toList.length := by simpa using h
      rw [getElem?_neg x i h, List.getElem?_eq_none (by omega)]
  simp only [hg]
  have hs : ∀ x : ByteArray, x.size = x.data.toList.length := fun x => (Array.length_toList (xs := x.data)).symm
  simp only [hs]
  rfl

theorem run_loadBytes_at {P : Program} {w : World} (b : Nat) : ∀ (s : List UInt8) (o : Nat) (acc : ByteArray), (∀ j v, (s.map fun c => Value.int .u8 (c.toNat : Int))[j]? = some v → w.cell? ⟨b, o + j, none⟩ = some v) →
    (Extern.Bytes.loadBytes ⟨b, o, none⟩ s.length acc).run P w = .ok ⟨acc.data ++ s.toArray⟩ w
  | [], o, acc, _ => by
    show (Sem.run P (pure acc) w) = _
    rw [Sem.run_pure]; simp
  | c :: s, o, acc, h => by
    have h0 := h 0 _ rfl
    simp only [List.length_cons, Extern.Bytes.loadBytes, Sem.run_bind]
    simp only [Nat.add_zero] at h0
    rw [run_load, h0]
    simp only [Result.andThen_ok, add_none]
    have ih := run_loadBytes_at (P := P) (w := w) b s (o + 1) (acc.push c) (fun j v hj => by
      rw [show o + 1 + j = o + (j + 1) by omega]
      exact h (j + 1) v (by simpa using hj))
    have e : ((c.toNat : Int).toNat).toUInt8 = c := by simp
    rw [e, ih]
    congr 1
    simp [ByteArray.push]

theorem bytesOf_byteS : ∀ t : List UInt8, bytesOf (t.map byteS) = some t
  | [] => rfl
  | c :: t => by
    have hc : (0 : Int) ≤ (c.toNat : Int) ∧ (c.toNat : Int) < 256 := ⟨by omega, by have := c.toNat_lt; omega⟩
    simp only [List.map_cons, byteS, bytesOf, if_pos hc, bytesOf_byteS t]
    simp
section
variable {P : Program} {φ : Phi} {h : H} {w : World}
theorem run_bytesOf (R : Rel φ h w) {x : AS} {xv : Value} {N : Nat} {l : List AS} {s : List UInt8} (hx : VR φ (Nf φ) w x xv) (hN : lenS x = some N) (he : elemsOf h 1 N x = some l) (hb : bytesOf l = some s) :
    (Extern.Bytes.bytesOf xv).run P w = .ok ⟨s.toArray⟩ w := by
  have key : ∀ (b o N' : Nat) (c : Nat) (vs : List Value), VRL φ (Nf φ) w l vs → vs.length = N' → (∀ j v, vs[j]? = some v → w.cell? ⟨b, o + j, none⟩ = some v) → (Extern.Bytes.bytesOf (.slice (some ⟨b, o, none⟩) N' c)).run P w = .ok ⟨s.toArray⟩ w := by
    intro b o N' c vs hvs hlen hc
    have e := bytesOf_inv hvs hb
    have hn : N' = s.length := by rw [← hlen, e]; simp
    subst hn
    have := run_loadBytes_at (P := P) (w := w) b s o ByteArray.empty (fun j v hj => hc j v (by rw [e]; simpa using hj))
    simp only [Extern.Bytes.bytesOf]
    rw [this]; simp
  cases hx with
  | nilslc =>
    simp only [lenS, Option.some.injEq] at hN; subst hN
    simp only [elemsOf, if_true, Option.some.injEq] at he; subst he
    simp only [bytesOf, Option.some.injEq] at hb; subst hb
    rfl
  | str t =>
    simp only [lenS, Option.some.injEq] at hN; subst hN
    simp only [elemsOf, Nat.le_refl, if_true, List.take_length, Option.some.injEq] at he; subst he
    have : s = t := by
      rw [bytesOf_byteS] at hb; exact (Option.some.inj hb).symm
    subst this; rfl
  | slc b v o n sz c L a cap h1 h2 h3 h4 h5 h6 =>
    simp only [lenS, Option.some.injEq] at hN; subst hN
    simp only [elemsOf] at he
    split at he
    · rename_i hc
      obtain ⟨b', o', vs, hp, hvs, hlen, hcell⟩ := read_ok R (VR.ptr b v o L h1) he
      simp only [Value.pointer.injEq, Option.some.injEq, Addr.mk.injEq, and_true] at hp
      obtain ⟨rfl, rfl⟩ := hp
      rw [Nat.mul_one] at hlen
      by_cases hcap : 0 < cap
      · rw [h3 hcap]
        exact key _ _ _ _ vs hvs hlen hcell
      · have hn : n = 0 := by omega
        subst hn
        have : vs = [] := List.eq_nil_of_length_eq_zero hlen
        subst this
        cases hvs
        simp only [bytesOf, Option.some.injEq] at hb; subst hb
        simp [Extern.Bytes.bytesOf, Extern.Bytes.loadBytes]; rfl
    · cases he
  | vs n sz cells blk base cap spot vs h1 h2 h3 h4 h5 h6 h7 h8 =>
    simp only [lenS, Option.some.injEq] at hN; subst hN
    simp only [elemsOf] at he
    split at he
    · rename_i hc
      obtain ⟨q1, q2⟩ := VRL.of_sub h7 he
      rw [Nat.mul_one] at q2 q1
      by_cases hn : 0 < n
      · rw [h6 hn]
        refine key _ _ _ _ _ q1 (by rw [← q1.length, q2]) fun j v hj => ?_
        simp only [List.drop_zero, List.getElem?_take] at hj
        split at hj
        · exact h8 _ _ hj
        · cases hj
      · have hn0 : n = 0 := by omega
        subst hn0
        have : l = [] := List.eq_nil_of_length_eq_zero (by simpa using q2)
        subst this
        simp only [bytesOf, Option.some.injEq] at hb; subst hb
        simp [Extern.Bytes.bytesOf, Extern.Bytes.loadBytes]; rfl
    · cases he
  | _ => simp [lenS] at hN

theorem ext_ok {f : Nat} {x : Ext} (hx : ExtT P f x) {args : List AV} {r : CR} (hr : extA x args h = some r) {cargs : List Value} (R : Rel φ h w) (ha : AVL φ (Nf φ) w args cargs) : CallR P φ h w f cargs r := by
  have fin : ∀ (a : AS) (v : Value), r = .ret (.one a) h → (rowOf x cargs.toArray).run P w = .ok v w → VR φ (Nf φ) w a v → CallR P φ h w f cargs r := by
    rintro a v rfl hrun hv
    left
    refine ⟨v, w, ?_, .one a, h, φ, rfl, R, Grow.refl _ _ _, .one _ _ hv⟩
    rw [run_ext hx, hrun]; rfl
  have one : ∀ {a : AS} {cargs : List Value}, AVL φ (Nf φ) w [.one a] cargs → ∃ v, cargs = [v] ∧ VR φ (Nf φ) w a v := by
    intro a cargs ha
    cases ha with | cons _ v _ _ h1 h2 => cases h2; exact ⟨v, rfl, h1.one_inv⟩
  have two : ∀ {a b : AS} {cargs : List Value}, AVL φ (Nf φ) w [.one a, .one b] cargs → ∃ v u, cargs = [v, u] ∧ VR φ (Nf φ) w a v ∧ VR φ (Nf φ) w b u := by
    intro a b cargs ha
    cases ha with | cons _ v _ _ h1 h2 => cases h2 with | cons _ u _ _ h3 h4 => cases h4; exact ⟨v, u, rfl, h1.one_inv, h3.one_inv⟩
  unfold extA at hr
  split at hr
  · obtain ⟨v, rfl, hv⟩ := one ha
    cases hv
    simp only [Option.some.injEq] at hr
    exact fin _ _ hr.symm rfl (.int _ _)
  · obtain ⟨v, rfl, hv⟩ := one ha
    cases hv with
    | nan y hy =>
      simp only [Option.some.injEq] at hr
      exact fin _ _ hr.symm rfl (.nanb _ hy)
  · obtain ⟨v, rfl, hv⟩ := one ha
    cases hv
    simp only [Option.some.injEq] at hr
    exact fin _ _ hr.symm rfl (.flt _)
  · obtain ⟨v, rfl, hv⟩ := one ha
    cases hv with
    | nanb y hy =>
      simp only [Option.some.injEq] at hr
      exact fin _ _ hr.symm rfl (.nan _ hy)
  · rename_i a b
    obtain ⟨v, u, rfl, hv, hu⟩ := two ha
    simp only [Option.bind_eq_bind, Option.bind_eq_some_iff, Option.some.injEq] at hr
    obtain ⟨na, hna, la, hla, xa, hxa, nb, hnb, lb, hlb, xb, hxb, hr⟩ := hr
    refine fin _ _ hr.symm ?_ (.int _ _)
    show (Sem.run P (do pure (goInt (Extern.BytealgCompare.cmp (← Extern.Bytes.bytesOf v) (← Extern.Bytes.bytesOf u)))) w) = _
    simp only [Sem.run_bind, run_bytesOf (P := P) R hv hna hla hxa, Result.andThen_ok, run_bytesOf (P := P) R hu hnb hlb hxb, cmp_eq, Sem.run_pure, goInt]
  · rename_i a b
    obtain ⟨v, u, rfl, hv, hu⟩ := two ha
    cases hv; cases hu
    simp only [Option.some.injEq] at hr
    refine fin _ _ hr.symm ?_ (.int _ _)
    show (Sem.run P (do pure (goInt (Extern.BytealgCompare.cmp (← Extern.Bytes.bytesOf (.string ⟨a.toArray⟩)) (← Extern.Bytes.bytesOf (.string ⟨b.toArray⟩))))) w) = _
    simp only [Extern.Bytes.bytesOf, Sem.run_bind, Sem.run_pure, Result.andThen_ok, cmp_eq, goInt]
  · cases hr
end
end Go.Ab

/-
  FROM THE MACHINE TO THE GIVEN STATEMENTS: a law's arguments, read as data, are values of the machine that nobody writes; what it answers there it answers in the model.
-/
namespace Go.Ab
set_option linter.unusedVariables false
set_option linter.unusedSimpArgs false
set_option linter.unnecessarySimpa false

/-- what a cell of data may be -/
inductive CS where
  | bool
  | int (k : IntKind)
  | flt
  | str
  | slc (l : List CS)

section
variable (P : Program)
def shapesF (g : TypeId → Option (List CS)) : List Field → Nat → Option (List CS)
  | [], _ => some []
  | f :: fs, o => if f.offset = o then do
      let s ← g f.type
      let r ← shapesF g fs (o + s.length)
      some (s ++ r)
    else none
def repC (s : List CS) : Nat → List CS
  | 0 => []
  | n + 1 => s ++ repC s n
def shapeD (g : TypeId → Option (List CS)) : TypeDesc → Option (List CS)
  | .bool => some [.bool]
  | .int k => some [.int k]
  | .float .f64 => some [.flt]
  | .string => some [.str]
  | .slice e => (g e).bind fun s => if s.length = 0 then none else some [.slc s]
  | .struct fs => shapesF g fs.toList 0
  | .array m e => (g e).bind fun s => some (repC s m)
  | _ => none
def shapeOf : Nat → TypeId → Option (List CS)
  | 0, _ => none
  | n + 1, t => (P.underlying t).bind fun d => (shapeD (shapeOf n) d).bind fun sh => if sh.length = P.cellsOf t then some sh else none
end

mutual
inductive Fit : CS → AS → Prop
  | bool (b : Bool) : Fit .bool (.bool b)
  | int (k : IntKind) (n : Int) : k.min ≤ n → n ≤ k.max → Fit (.int k) (.int k n)
  | flt (b : Nat) : b < 2 ^ 64 → Fit .flt (.flt b)
  | str (s : List UInt8) : s.length ≤ maxLen → Fit .str (.str s)
  | nil (l : List CS) : Fit (.slc l) .nilslc
  | slc (l : List CS) (n s : Nat) (cells : List AS) : s = l.length → n ≤ maxLen → FitN l n cells → Fit (.slc l) (.vs n s cells)
inductive FitL : List CS → List AS → Prop
  | nil : FitL [] []
  | cons (c : CS) (a : AS) (cs : List CS) (l : List AS) : Fit c a → FitL cs l → FitL (c :: cs) (a :: l)
inductive FitN : List CS → Nat → List AS → Prop
  | zero (s : List CS) : FitN s 0 []
  | succ (s : List CS) (n : Nat) (a l : List AS) : FitL s a → FitN s n l → FitN s (n + 1) (a ++ l)
end

theorem FitL.length : ∀ {s : List CS} {l : List AS}, FitL s l → l.length = s.length
  | _, _, .nil => rfl
  | _, _, .cons _ _ _ _ _ h => by simp [h.length]
theorem FitL.append : ∀ {s t : List CS} {l m : List AS}, FitL s l → FitL t m → FitL (s ++ t) (l ++ m)
  | _, _, _, _, .nil, h => h
  | _, _, _, _, .cons _ _ _ _ h t, k => .cons _ _ _ _ h (t.append k)
theorem FitN.length : ∀ {s : List CS} {n : Nat} {l : List AS}, FitN s n l → l.length = n * s.length
  | _, _, _, .zero _ => by simp
  | _, _, _, .succ s n a l h t => by simp [h.length, t.length, Nat.succ_mul]; omega

/-- the start: nothing of the machine's own; all that is there nobody writes -/
def start (w : World) : Phi := ⟨fun _ _ => none, fun k => k < w.heap.size, Go.undef⟩
theorem start_rel (w : World) : Rel (start w) H.empty w := by
  refine ⟨fun b k h => (by cases h), fun b k v e h => (by cases h), fun b k v e l b' k' v' e' l' h => (by cases h), fun b v l h => (by cases h), fun b k v l h => (by cases h), fun k hk => ⟨hk, ?_⟩⟩
  rintro ⟨b, k, v, e, l, h, _⟩
  cases h

section
variable {P : Program} {w : World} {H' : Type} {enc : TypeId × Value → H'} {sp : Nat → Bool} {held : Bool}

abbrev RL (w : World) := VRL (start w) (Nf (start w)) w

theorem cells_get {base : Nat} {a : Addr} {n : Nat} {cs : List Value} (h : w.cells? base a n = some cs) : cs.length = n ∧ ∀ i, i < n → ∃ v, cs[i]? = some v ∧ w.cell? (a.add i) = some v := by
  unfold World.cells? at h
  split at h
  · have key : ∀ (l : List Nat) (cs : List Value), l.mapM (fun i => w.cell? (a.add i)) = some cs → cs.length = l.length ∧ ∀ (j i : Nat), l[j]? = some i → ∃ v, cs[j]? = some v ∧ w.cell? (a.add i) = some v := by
      intro l
      induction l with
      | nil => intro cs h; simp at h; subst h; simp
      | cons x l ih =>
        intro cs h
        simp only [List.mapM_cons, Option.bind_eq_bind, Option.bind_eq_some_iff, Option.pure_def, Option.some.injEq] at h
        obtain ⟨v, hv, vs, hvs, rfl⟩ := h
        obtain ⟨h1, h2⟩ := ih vs hvs
        refine ⟨by simp [h1], fun j i hj => ?_⟩
        cases j with
        | zero => simp only [List.getElem?_cons_zero, Option.some.injEq] at hj; subst hj; exact ⟨v, rfl, hv⟩
        | succ j => simpa using h2 j i (by simpa using hj)
    obtain ⟨h1, h2⟩ := key _ _ h
    refine ⟨by simpa using h1, fun i hi => h2 i i (by simp [hi])⟩
  · cases h

theorem cell_inv {a : Addr} {v : Value} (h : w.cell? a = some v) : a.spot = none ∧ a.block < w.heap.size := by
  unfold World.cell? at h
  split at h
  · rename_i c e fz hc
    have hlt := (Array.getElem?_eq_some_iff.1 hc).1
    refine ⟨?_, hlt⟩
    cases hs : a.spot with
    | none => rfl
    | some s => simp [hs] at h
  · cases h

theorem add_eq {a : Addr} {x i : Nat} (h : ((a.add x).add i).spot = none) : (a.add x).add i = ⟨a.block, a.off + x + i, none⟩ := by
  obtain ⟨b, o, s⟩ := a
  unfold Addr.add at h ⊢
  split <;> split <;> simp_all <;> omega
theorem mapM_get {α β : Type} {f : α → Option β} : ∀ {l : List α} {r : List β}, l.mapM f = some r → r.length = l.length ∧ ∀ (j : Nat) (x : α), l[j]? = some x → ∃ y, r[j]? = some y ∧ f x = some y
  | [], r, h => by simp at h; subst h; simp
  | x :: l, r, h => by
    simp only [List.mapM_cons, Option.bind_eq_bind, Option.bind_eq_some_iff, Option.pure_def, Option.some.injEq] at h
    obtain ⟨v, hv, vs, hvs, rfl⟩ := h
    obtain ⟨h1, h2⟩ := mapM_get hvs
    refine ⟨by simp [h1], fun j y hj => ?_⟩
    cases j with
    | zero => simp only [List.getElem?_cons_zero, Option.some.injEq] at hj; subst hj; exact ⟨v, rfl, hv⟩
    | succ j => simpa using h2 j y (by simpa using hj)

/-- DATA THAT IS READ IS A VALUE OF THE MACHINE -/
theorem trod_fit : ∀ (n : Nat) (t : TypeId) (sh : List CS), shapeOf P n t = some sh → ∀ (fuel : Nat) (cs : List Value) (d : DataW H') (ps : List MemPlace), DataW.trod enc P w 0 sp held fuel t cs = some (d, ps) →
    ∃ l, RL w l cs ∧ FitL sh l ∧ sh.length = P.cellsOf t := by
  intro n
  induction n with
  | zero => intro t sh h; simp [shapeOf] at h
  | succ n ih =>
    intro t sh h fuel cs d ps htr
    simp only [shapeOf, Option.bind_eq_some_iff] at h
    obtain ⟨desc, hu, sh', hsh, hlen⟩ := h
    split at hlen
    rotate_left
    · cases hlen
    rename_i hlen'
    simp only [Option.some.injEq] at hlen; subst hlen
    cases fuel with
    | zero => simp [DataW.trod] at htr
    | succ fuel =>
      suffices hx : ∃ l, RL w l cs ∧ FitL sh' l by
        obtain ⟨l, h1, h2⟩ := hx; exact ⟨l, h1, h2, hlen'⟩
      unfold DataW.trod at htr
      rw [hu] at htr
      · cases desc <;> simp only [shapeD, reduceCtorEq] at hsh
        case bool =>
          simp only [Option.some.injEq] at hsh; subst hsh
          split at htr <;> simp_all
          exact ⟨_, .cons _ _ _ _ (.bool _) .nil, .cons _ _ _ _ (.bool _) .nil⟩
        case int k =>
          simp only [Option.some.injEq] at hsh; subst hsh
          split at htr <;> simp_all
          obtain ⟨⟨rfl, hwf⟩, _⟩ := htr
          simp only [Lit.wf, Bool.and_eq_true, decide_eq_true_eq] at hwf
          exact ⟨_, .cons _ _ _ _ (.int _ _) .nil, .cons _ _ _ _ (.int _ _ hwf.1 hwf.2) .nil⟩
        case float k =>
          cases k <;> simp only [shapeD, reduceCtorEq, Option.some.injEq] at hsh
          subst hsh
          split at htr <;> simp_all
          obtain ⟨⟨rfl, hwf⟩, _⟩ := htr
          subst_vars
          simp only [Lit.wf, decide_eq_true_eq] at hwf
          exact ⟨_, .cons _ _ _ _ (.flt _) .nil, .cons _ _ _ _ (.flt _ hwf) .nil⟩
        case string =>
          simp only [Option.some.injEq] at hsh; subst hsh
          split at htr <;> simp_all
          rename_i s
          refine ⟨[.str s.data.toList], .cons _ _ _ _ ?_ .nil, .cons _ _ _ _ (.str _ (by have := htr.1; rwa [Array.length_toList])) .nil⟩
          have := VR.str (φ := start w) (O := Nf (start w)) (w := w) s.data.toList
          simpa using this
        case slice e =>
          simp only [Option.bind_eq_some_iff] at hsh
          obtain ⟨s, hs, hsh⟩ := hsh
          split at hsh
          · cases hsh
          rename_i hs0
          simp only [Option.some.injEq] at hsh; subst hsh
          split at htr <;> (try simp_all; done)
          · -- nil
            exact ⟨_, .cons _ _ _ _ .nilslc .nil, .cons _ _ _ _ (.nil _) .nil⟩
          · rename_i e' a len cap he
            simp only [Option.some.injEq, TypeDesc.slice.injEq] at he; subst he
            split at htr
            rotate_left
            · cases htr
            rename_i hb
            simp only [Option.bind_eq_some_iff] at htr
            obtain ⟨elems, helems, htr⟩ := htr
            clear htr
            obtain ⟨g1, g2⟩ := mapM_get helems
            have hel : ∀ i, i < len → ∃ cs' d' ps', w.cells? 0 (a.add (i * P.cellsOf e)) (P.cellsOf e) = some cs' ∧ DataW.trod enc P w 0 sp held fuel e cs' = some (d', ps') := by
              intro i hi
              obtain ⟨y, _, hy⟩ := g2 i i (by simp [hi])
              simp only [Option.bind_eq_some_iff] at hy
              obtain ⟨cs', h1, h2⟩ := hy
              exact ⟨cs', y.1, y.2, h1, h2⟩
            clear helems g1 g2
            -- the cells of the first m
            have hcells : ∀ m, m ≤ len → ∃ cells vs, RL w cells vs ∧ FitN s m cells ∧ ∀ i v, vs[i]? = some v → w.cell? ⟨a.block, a.off + (len - m) * P.cellsOf e + i, none⟩ = some v := by
              intro m
              induction m with
              | zero => exact fun _ => ⟨[], [], .nil, .zero _, by simp⟩
              | succ m ihm =>
                intro hm
                obtain ⟨cells, vs, q1, q2, q3⟩ := ihm (by omega)
                obtain ⟨cs', d', ps', h1, h2⟩ := hel (len - (m + 1)) (by omega)
                obtain ⟨l, r1, r2, r3⟩ := ih e s hs fuel cs' d' ps' h2
                obtain ⟨c1, c2⟩ := cells_get h1
                refine ⟨l ++ cells, cs' ++ vs, r1.append q1, .succ _ _ _ _ r2 q2, fun i v hi => ?_⟩
                rw [List.getElem?_append] at hi
                split at hi
                · rename_i hlt
                  obtain ⟨v', hv', hc⟩ := c2 i (by omega)
                  rw [hi] at hv'; cases hv'
                  have hsp := cell_inv hc
                  rw [← hc, add_eq hsp.1]
                · rename_i hge
                  have := q3 _ _ hi
                  rw [← this]
                  congr 2
                  rw [c1] at hge ⊢
                  have e1 : (len - m) * P.cellsOf e = (len - (m + 1)) * P.cellsOf e + P.cellsOf e := by
                    rw [← Nat.succ_mul]; congr 1; omega
                  omega
            obtain ⟨cells, vs, q1, q2, q3⟩ := hcells len (Nat.le_refl _)
            have hse : 0 < s.length := by omega
            have hsp : 0 < len → a.spot = none ∧ a.block < w.heap.size := by
              intro hl
              obtain ⟨cs', d', ps', h1, h2⟩ := hel 0 hl
              obtain ⟨l, r1, r2, r3⟩ := ih e s hs fuel cs' d' ps' h2
              obtain ⟨c1, c2⟩ := cells_get h1
              obtain ⟨v', hv', hc⟩ := c2 0 (by omega)
              have := cell_inv hc
              simpa [Addr.add] using this
            refine ⟨[.vs len s.length cells], .cons _ _ _ _ ?_ .nil, .cons _ _ _ _ (.slc _ _ _ _ rfl (by omega) q2) .nil⟩
            have ha : a = ⟨a.block, a.off, a.spot⟩ := rfl
            rw [ha]
            refine VR.vs _ _ _ _ _ _ _ vs hb.2.1 hse q2.length (fun hl hn => hn (hsp hl).2) (fun hl => (hsp hl).2) (fun hl => (hsp hl).1) q1 (fun i v hi => ?_)
            have := q3 i v hi
            simpa using this
        case struct fs =>
          split at htr <;> (try simp_all; done)
          rename_i cs _ _ fs' he
          simp only [Option.some.injEq, TypeDesc.struct.injEq] at he; subst he
          split at htr
          rotate_left
          · cases htr
          rename_i hcl
          simp only [Option.map_eq_some_iff] at htr
          obtain ⟨xs, hxs, _⟩ := htr
          have key : ∀ (l : List Field) (o : Nat) (r : List CS), shapesF (shapeOf P n) l o = some r → ∀ xs, (l.mapM fun f => DataW.trod enc P w 0 sp held fuel f.type ((cs.drop f.offset).take (P.cellsOf f.type))) = some xs → o + r.length ≤ cs.length →
              ∃ m, RL w m ((cs.drop o).take r.length) ∧ FitL r m := by
            intro l
            induction l with
            | nil => intro o r hr xs _ _; simp only [shapesF, Option.some.injEq] at hr; subst hr; exact ⟨[], by simp; exact .nil, .nil⟩
            | cons f l ihl =>
              intro o r hr xs hxs hle
              simp only [shapesF] at hr
              split at hr
              rotate_left
              · cases hr
              rename_i hof
              simp only [Option.bind_eq_bind, Option.bind_eq_some_iff, Option.some.injEq] at hr
              obtain ⟨s, hs, r', hr', rfl⟩ := hr
              simp only [List.mapM_cons, Option.bind_eq_bind, Option.bind_eq_some_iff, Option.pure_def, Option.some.injEq] at hxs
              obtain ⟨x, hx, xs', hxs', rfl⟩ := hxs
              obtain ⟨m1, a1, a2, a3⟩ := ih f.type s hs fuel _ x.1 x.2 hx
              simp only [List.length_append] at hle
              obtain ⟨m2, b1, b2⟩ := ihl (o + s.length) r' hr' xs' hxs' (by omega)
              refine ⟨m1 ++ m2, ?_, a2.append b2⟩
              have := a1.append b1
              rw [hof, ← a3] at this
              have e : (cs.drop o).take (s ++ r').length = (cs.drop o).take s.length ++ (cs.drop (o + s.length)).take r'.length := by
                rw [List.length_append, List.take_add, List.drop_drop]
              rw [e]; exact this
          obtain ⟨m, h1, h2⟩ := key fs.toList 0 sh' hsh xs hxs (by omega)
          refine ⟨m, ?_, h2⟩
          simpa [hlen', ← hcl] using h1
        case array m e =>
          simp only [Option.bind_eq_some_iff, Option.some.injEq] at hsh
          obtain ⟨s, hs, rfl⟩ := hsh
          split at htr <;> (try simp_all; done)
          rename_i cs _ _ m' e' he
          simp only [Option.some.injEq, TypeDesc.array.injEq] at he
          obtain ⟨rfl, rfl⟩ := he
          split at htr
          rotate_left
          · cases htr
          rename_i hcl
          simp only [Option.map_eq_some_iff] at htr
          obtain ⟨xs, hxs, _⟩ := htr
          obtain ⟨_, g2⟩ := mapM_get hxs
          have hrl : ∀ k, (repC s k).length = k * s.length := by
            intro k; induction k with
            | zero => simp [repC]
            | succ k ihk => simp [repC, ihk, Nat.succ_mul]; omega
          have hel : ∀ i, i < m → ∃ l, RL w l ((cs.drop (i * s.length)).take s.length) ∧ FitL s l := by
            intro i hi
            obtain ⟨y, _, hy⟩ := g2 i i (by simp [hi])
            obtain ⟨l, a1, a2, a3⟩ := ih e s hs fuel _ y.1 y.2 hy
            rw [← a3] at a1
            exact ⟨l, a1, a2⟩
          have key : ∀ k, k ≤ m → ∃ l, RL w l ((cs.drop ((m - k) * s.length)).take (k * s.length)) ∧ FitL (repC s k) l := by
            intro k
            induction k with
            | zero => exact fun _ => ⟨[], by simp; exact .nil, .nil⟩
            | succ k ihk =>
              intro hk
              obtain ⟨l2, b1, b2⟩ := ihk (by omega)
              obtain ⟨l1, a1, a2⟩ := hel (m - (k + 1)) (by omega)
              refine ⟨l1 ++ l2, ?_, a2.append b2⟩
              have := a1.append b1
              have e1 : (m - k) * s.length = (m - (k + 1)) * s.length + s.length := by rw [← Nat.succ_mul]; congr 1; omega
              rw [e1] at this
              have e2 : (cs.drop ((m - (k + 1)) * s.length)).take ((k + 1) * s.length) = (cs.drop ((m - (k + 1)) * s.length)).take s.length ++ (cs.drop ((m - (k + 1)) * s.length + s.length)).take (k * s.length) := by
                rw [Nat.succ_mul, Nat.add_comm (k * s.length), List.take_add, List.drop_drop]
              rw [e2]; exact this
          obtain ⟨l, h1, h2⟩ := key m (Nat.le_refl _)
          refine ⟨l, ?_, h2⟩
          rw [hrl] at hlen'
          simpa [hlen', ← hcl] using h1
end
end Go.Ab

/-
  A law that the machine answers with true, whatever its arguments, holds as it is given.
-/
namespace Go.Ab
open Go.ChangeShapes Go.RowKit
set_option linter.unusedVariables false
set_option linter.unusedSimpArgs false
set_option linter.unnecessarySimpa false

/-- an argument: a struct's cells, or one cell -/
def FitA (p : Bool × List CS) (a : AV) : Prop := if p.1 then ∃ l, a = .agg l ∧ FitL p.2 l else ∃ x c, p.2 = [c] ∧ a = .one x ∧ Fit c x
inductive FitAL : List (Bool × List CS) → List AV → Prop
  | nil : FitAL [] []
  | cons (p : Bool × List CS) (a : AV) (ps : List (Bool × List CS)) (xs : List AV) : FitA p a → FitAL ps xs → FitAL (p :: ps) (a :: xs)
def paramShapes (P : Program) (n : Nat) : List TypeId → Option (List (Bool × List CS))
  | [] => some []
  | t :: ts => do
    let g ← isAggT P t
    let s ← shapeOf P n t
    let r ← paramShapes P n ts
    some ((g, s) :: r)

section
variable {P : Program} {w : World} {H' : Type} {enc : TypeId × Value → H'} {sp : Nat → Bool} {held : Bool}

theorem trod_arg {n : Nat} {t : TypeId} {g : Bool} {sh : List CS} (hg : isAggT P t = some g) (hs : shapeOf P n t = some sh) {base : Nat} {v : Value} {d : DataW H'} {ps : List MemPlace} (h : DataW.Trod enc P w 0 sp held t v d ps) (hv : Value.okWide P w .any base t v) :
    ∃ a, AVR (start w) (Nf (start w)) w a v ∧ FitA (g, sh) a := by
  obtain ⟨fuel, h⟩ := h
  obtain ⟨l, h1, h2, h3⟩ := trod_fit n t sh hs fuel _ d ps h
  simp only [isAggT, Option.bind_eq_bind, Option.bind_eq_some_iff] at hg
  obtain ⟨desc, hu, hg⟩ := hg
  unfold Value.okWide at hv
  rw [hu] at hv
  cases g with
  | true =>
    have hagg : ∃ cs, v = .agg cs := by
      cases desc <;> simp at hg
      · obtain ⟨cs, h, _⟩ := hv; exact ⟨cs, h⟩
      · obtain ⟨cs, h, _⟩ := hv; exact ⟨cs, h⟩
    obtain ⟨cs, rfl⟩ := hagg
    refine ⟨.agg l, ?_, ?_⟩
    · have := AVR.agg (φ := start w) (O := Nf (start w)) (w := w) l cs.toList (by simpa [Value.cells] using h1)
      simpa using this
    · show (if true = true then _ else _)
      rw [if_pos rfl]; exact ⟨l, rfl, h2⟩
  | false =>
    have hone : ∃ c, sh = [c] := by
      cases n with
      | zero => simp [shapeOf] at hs
      | succ n =>
        simp only [shapeOf, hu, Option.bind_some, Option.bind_eq_some_iff] at hs
        obtain ⟨s', hs', hl⟩ := hs
        split at hl
        · simp only [Option.some.injEq] at hl; subst hl
          cases desc <;> simp only [shapeD, reduceCtorEq, Option.some.injEq, Option.bind_eq_some_iff] at hs' hg
          case bool => exact ⟨_, hs'.symm⟩
          case int => exact ⟨_, hs'.symm⟩
          case float k => cases k <;> simp only [shapeD, reduceCtorEq, Option.some.injEq] at hs'; exact ⟨_, hs'.symm⟩
          case string => exact ⟨_, hs'.symm⟩
          case slice e =>
            obtain ⟨s, _, hs'⟩ := hs'
            split at hs'
            · cases hs'
            · simp only [Option.some.injEq] at hs'; exact ⟨_, hs'.symm⟩
        · cases hl
    obtain ⟨c, rfl⟩ := hone
    have hnagg : ∀ cs, v ≠ .agg cs := by
      rintro cs rfl
      cases desc <;> simp_all [Cell.okWide, Cell.ok]
    have hcells : v.cells.toList = [v] := by
      cases v <;> first | rfl | exact absurd rfl (hnagg _)
    rw [hcells] at h1
    cases h2 with
    | cons _ x _ _ hx ht =>
      cases ht
      cases h1 with
      | cons _ _ _ _ hxv _ =>
        refine ⟨.one x, .one _ _ hxv, ?_⟩
        show (if false = true then _ else _)
        rw [if_neg (by simp)]; exact ⟨x, c, rfl, rfl, hx⟩

theorem trod_args {n : Nat} : ∀ {ts : List TypeId} {shs : List (Bool × List CS)}, paramShapes P n ts = some shs → ∀ {base : Nat} {vs : List Value} {ds : List (DataW H')} {ps : List MemPlace}, DataW.TrodAll enc P w 0 sp held ts vs ds ps →
    (∀ (j : Nat) (t : TypeId) (v : Value), ts[j]? = some t → vs[j]? = some v → Value.okWide P w .any base t v) → ∃ xs, AVL (start w) (Nf (start w)) w xs vs ∧ FitAL shs xs
  | [], shs, h, base, vs, ds, ps, ht, _ => by
    simp only [paramShapes, Option.some.injEq] at h; subst h
    obtain ⟨rfl, rfl, rfl⟩ := trodAll_nil ht
    exact ⟨[], .nil, .nil⟩
  | t :: ts, shs, h, base, vs, ds, ps, ht, hv => by
    simp only [paramShapes, Option.bind_eq_bind, Option.bind_eq_some_iff, Option.some.injEq] at h
    obtain ⟨g, hg, s, hs, r, hr, rfl⟩ := h
    obtain ⟨v, vs', d, ds', p, q, rfl, rfl, rfl, h1, h2⟩ := trodAll_cons ht
    obtain ⟨a, a1, a2⟩ := trod_arg hg hs h1 (hv 0 t v rfl rfl)
    obtain ⟨xs, b1, b2⟩ := trod_args hr h2 (fun j t' v' hj hj' => hv (j + 1) t' v' (by simpa using hj) (by simpa using hj'))
    exact ⟨a :: xs, .cons _ _ _ _ a1 b1, .cons _ _ _ _ a2 b2⟩

theorem trodAll_stays (hl : laidOutB P = true) {W W' : World} {sp' : Nat → Bool} : ∀ {ts : List TypeId} {vs : List Value} {ds : List (DataW H')} {ps : List MemPlace}, (∀ t ∈ ts, P.readableRec t = true ∧ t < P.types.size) →
    DataW.TrodAll enc P W 0 (fun _ => true) true ts vs ds ps → (∀ p ∈ ps, W.sameAt W' p) → (∀ p ∈ ps, sp' p.block = true) → DataW.TrodAll enc P W' 0 sp' true ts vs ds ps
  | [], vs, ds, ps, _, h, _, _ => by obtain ⟨rfl, rfl, rfl⟩ := trodAll_nil h; rfl
  | t :: ts, vs, ds, ps, ht, h, h1, h2 => by
    obtain ⟨v, vs', d, ds', p, q, rfl, rfl, rfl, g1, g2⟩ := trodAll_cons h
    exact ⟨p, q, WideElems.Trod_stays hl (ht t (by simp)).1 (ht t (by simp)).2 g1 (fun x hx => h1 x (by simp [hx])) (fun x hx => h2 x (by simp [hx])),
      trodAll_stays hl (fun t' h' => ht t' (by simp [h'])) g2 (fun x hx => h1 x (by simp [hx])) (fun x hx => h2 x (by simp [hx])), rfl⟩
end

/-- a law, called -/
theorem law_calls {C : Conf} (hW : CallsOk C.P (W C)) {f : Nat} {fn : Func} {c : Code} (hf : C.P.funcs[f]? = some fn) (hb : fn.body = some c) (hn : (fn.name == "runtime.NumGoroutine") = false) {xs : List AV} {args : List Value} {w : World}
    (ha : AVL (start w) (Nf (start w)) w xs args) (hlaw : ∃ h', W C f xs H.empty = some (.ret (.one (.bool true)) h')) : Calls C.P f args.toArray w fun e w' => e = .returned (.bool true) ∧ Below w.heap.size w w' := by
  obtain ⟨h', hh⟩ := hlaw
  have hn' : ¬ fn.name = "runtime.NumGoroutine" := by simpa using hn
  rcases hW f xs H.empty _ hh (start w) w args (start_rel w) ha with ⟨cv, w', hr, _⟩ | ⟨_, hC⟩
  · simp only [callFunc, Sem.run_bind, run_program, Result.andThen_ok, hf, hb, beq_iff_eq, hn', if_false, Option.isNone_some, Bool.false_eq_true, Sem.run_pure] at hr
    cases hr
  · refine Calls.mono hC ?_
    intro e w' he
    cases e with
    | returned cv =>
      obtain ⟨v, h1, φ', e1, R', G, hv⟩ := he
      cases e1
      have := hv.one_inv.bool_inv
      subst this
      exact ⟨rfl, G.os, G.tape, G.output, G.size, fun k hk => G.keepF k hk hk⟩
    | panicked ch =>
      obtain ⟨v, h1, φ', cv, e1, _⟩ := he
      cases e1
    | outgrown => exact he.elim

/-- what is asked of a law's specification -/
structure LawSpec (s : ChangeSpec) (n : Nat) : Prop where
  vars : s.vars = []
  fn : ∀ (H : Type) (ds : List (DataW H)), ds.length = n → s.fn H ds = { results := [.lit (.bool true)], args := ds }

/-- THE LIFTED STATEMENT -/
theorem law_lifted {Ck : Checked} {os : Os} {f : FuncId} {fn : Func} {s : ChangeSpec} {H' : Type} {enc : TypeId × Value → H'} {a : Assume} (own : ownKnob Ck.prog.godebug = none) (started : os.Started) (noInit : Ck.prog.inits.idxOf? f = none)
    (hf : Ck.prog.funcs[f]? = some fn) (hl : laidOutB Ck.prog = true) {tb : TypeId} (hrt : fn.resultTypes = #[tb]) (hb : Ck.prog.underlying tb = some .bool) (hpr : ∀ t ∈ fn.params.toList, Ck.prog.readableRec t = true ∧ t < Ck.prog.types.size)
    (hs : LawSpec s fn.params.size)
    (witness : ∃ (w : World) (tape : Tape) (i : Input), w.os = os ∧ (w.forCall tape i).Shaped Ck.prog ∧ i.vars = [] ∧ Input.okWide Ck.prog (w.forCall tape i) .any w.heap.size f i ∧
      s.pre6 enc Ck.prog fn [] false (w.forCall tape i).memory i.args ∧ a.holds Ck.prog (lone (Frame.enter Ck.prog f i.args .normal) [] (w.forCall tape i)))
    {n : Nat} {shs : List (Bool × List CS)} (hsh : paramShapes Ck.prog n fn.params.toList = some shs)
    (hlaw : ∀ (w : World) (xs : List AV) (args : List Value), FitAL shs xs → AVL (start w) (Nf (start w)) w xs args → Calls Ck.prog f args.toArray w fun e w' => e = .returned (.bool true) ∧ Below w.heap.size w w') :
    ReturnsInHanded a Ck os f .any (s.pre6 enc Ck.prog fn [] false) (s.post enc Ck.prog fn false true false false) := by
  refine returnsInHanded_of_change (C := Ck) own started noInit hf witness ?_
  intro W base args ds gs before hval hW _ _
  have hW' := hW
  obtain ⟨p, q, hA, hV, rfl, hfz, hnd⟩ := hW
  have hv0 := hV
  rw [hs.vars] at hv0
  obtain ⟨rfl, rfl⟩ := trodVars_none hv0
  obtain ⟨xs, h1, h2⟩ := trod_args hsh hA (base := base) (fun j t v hj hj' => hval j t v (by simpa using hj) (by simpa using hj'))
  have hcall := hlaw W xs args.toList h2 h1
  have hlen : ∀ {ts : List TypeId} {vs : List Value} {ds : List (DataW H')} {ps : List MemPlace}, DataW.TrodAll enc Ck.prog W 0 (fun _ => true) true ts vs ds ps → ds.length = ts.length := by
    intro ts
    induction ts with
    | nil => intro vs ds ps h; obtain ⟨rfl, rfl, rfl⟩ := trodAll_nil h; rfl
    | cons t ts ih =>
      intro vs ds ps h
      obtain ⟨v, vs', d, ds', p, q, rfl, rfl, rfl, g1, g2⟩ := trodAll_cons h
      simp [ih g2]
  have hfn := hs.fn H' ds (by rw [hlen hA]; simp)
  refine Calls.mono (by simpa using hcall) ?_
  rintro e W' ⟨rfl, hbel⟩
  refine ⟨_, rfl, ds, [], p ++ [], [], p, [], hW', ?_, ?_, ?_, ?_, fun h => by cases h⟩
  · rw [List.append_nil, hfn, hrt]
    exact trodAll_mk1 (by simpa [Value.resultList] using shut_bool hb true)
  · rw [List.append_nil, hfn]
    exact trodAll_stays hl hpr hA (fun x hx => hbel.same (hW'.lt x (by simp [hx]))) (fun x hx => by simpa using hW'.lt x (by simp [hx]))
  · rw [List.append_nil, hfn, hs.vars]; rfl
  · refine World.keptBut_mono (fun x hx => ⟨hx, .inr (.inl (by simpa using hx))⟩) (hbel.frame (· ∈ p ++ []))
end Go.Ab
