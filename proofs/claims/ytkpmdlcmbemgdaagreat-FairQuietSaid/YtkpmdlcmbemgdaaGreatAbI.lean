/- slices.Insert of one element: the model's, run; the machine's. No conditions. -/
import Derived.Test.YtkpmdlcmbemgdaaGreatAb1
import Derived.Shelf.Spec.SlicesInsertGrow
import Derived.Test.YtkpmdlcmbemgdaaGreatAb2
import Derived.Test.YtkpmdlcmbemgdaaGreatAb4
set_option linter.unusedVariables false
set_option linter.unusedSimpArgs false
set_option linter.unnecessarySimpa false
namespace Go.Ab
open Go.Shelf Go.RowKit Go.Lib Go.Proofs
structure InsLay (P:Program) (ρ:Ren) (f el:Nat) (info:TypeInfo):Prop where
 mixed:P.follows .mixedOrders = true
 fn:∃ nm ta,(nm == "runtime.NumGoroutine") = false∧P.funcs[f]? = some { Body2.n21 ρ with name:=nm,targs:=ta }
 ov:∃ fo,P.funcs[ρ.f 27]? = some fo∧(fo.name == "runtime.NumGoroutine") = false∧fo.body.isNone = true∧Extern.findNext fo = none∧Extern.find fo = some (Extern.SlicesOverlaps.overlaps #[ρ.t 22,ρ.t 22] #[ρ.t 4])
 t3:P.underlying (ρ.t 3) = some (TypeDesc.int IntKind.i64)
 t22:P.underlying (ρ.t 22) = some (TypeDesc.slice el)
 el:P.info? el = some info
section
variable {P:Program} {ρ:Ren} {f el:Nat} {info:TypeInfo}
set_option maxHeartbeats 4000000 in
set_option maxRecDepth 100000 in
theorem ins_end (L:InsLay P ρ f el info) (base:Option Addr) (n c:Nat) (va:Addr) (vc:Nat) (w w':World) (rv:Value) (hnc:n ≤ c) (hnil:base = none→n = 0)
  (hrun:(Builtin.append_ #[ρ.t 22,ρ.t 22] (ρ.t 22) #[.slice base n c,.slice (some va) 1 vc]).run P w = .ok rv w') :
  Calls P f #[.slice base n c,.int .i64 n,.slice (some va) 1 vc] w fun e w2=>e = .returned rv∧w2 = w':=by
 obtain ⟨nm,ta,_,F⟩:=L.fn
 have t3:=L.t3;have t22:=L.t22
 have u3:=run_underlying L.t3;have u22:=run_underlying L.t22
 have ze:∀ w,(Go.sizeOf el).run P w = .ok info.size w:=fun w=>by simp [sizeOf,typeInfo,L.el]
 have mixed:=L.mixed
 go_enter F,Body2.n21_ntmps ρ
 cases base with
 | none =>
  have h0:=hnil rfl
  subst h0
  go_wp2_with (at_builtin;refine Lib.wpList_append_run _ rfl _ _ _ _ rfl _ _ rfl rfl _ _ hrun ?_)
  go_ret
  exact ⟨rfl,rfl⟩
 | some a =>
  obtain ⟨ab,ao,asp⟩:=a
  go_wp2_with (at_builtin;refine Lib.wpList_append_run _ rfl _ _ _ _ rfl _ _ rfl rfl _ _ hrun ?_)
  all_goals (go_ret;exact ⟨rfl,rfl⟩)
set_option maxHeartbeats 4000000 in
set_option maxRecDepth 100000 in
theorem ins_shift (L:InsLay P ρ f el info) (b off n c i k1:Nat) (va:Addr) (vc:Nat) (w W1 W2:World) (hi:i < n) (hroom:n + 1 ≤ c) (hn:n ≤ 17592186044416)
  (hov:∀ lb cb,(callFunc (ρ.f 27) #[.slice (some va) 1 vc,.slice (some ⟨b,off + (i + 1) * info.size,none⟩) lb cb]).run P w = .ok (.value (.bool false)) w)
  (hcp1:∀ ty dc sc,(Builtin.copy_ #[ρ.t 22,ρ.t 22] ty #[.slice (some ⟨b,off + (i + 1) * info.size,none⟩) (n - i) dc,.slice (some ⟨b,off + i * info.size,none⟩) (n + 1 - i) sc]).run P w.drew = .ok (goInt k1) W1)
  (hcp2:∀ ty dc,(Builtin.copy_ #[ρ.t 22,ρ.t 22] ty #[.slice (some ⟨b,off + i * info.size,none⟩) (n + 1 - i) dc,.slice (some va) 1 vc]).run P W1 = .ok (goInt 1) W2) :
  Calls P f #[.slice (some ⟨b,off,none⟩) n c,.int .i64 i,.slice (some va) 1 vc] w fun e w2=>e = .returned (.slice (some ⟨b,off,none⟩) (n + 1) c)∧w2 = W2:=by
 obtain ⟨nm,ta,_,F⟩:=L.fn
 have t3:=L.t3;have t22:=L.t22
 have u3:=run_underlying L.t3;have u22:=run_underlying L.t22
 have ze:∀ w,(Go.sizeOf el).run P w = .ok info.size w:=fun w=>by simp [sizeOf,typeInfo,L.el]
 have mixed:=L.mixed
 have hz2:¬ ((i:Int) = (n:Int)):=by omega
 have hw1:IntKind.i64.wrap ((i:Int) + 1) = (i:Int) + 1:=by rw [IntKind.wrap_i64];omega
 have hw2:IntKind.i64.wrap ((n:Int) + 1) = (n:Int) + 1:=by rw [IntKind.wrap_i64];omega
 have hb1:(0:Int) ≤ (i:Int) + 1:=by omega
 have hin:i ≤ n:=by omega
 have htn:((i:Int) + 1).toNat = i + 1:=by omega
 have htn2:((n:Int) + 1).toNat = n + 1:=by omega
 have hb2:¬ (c = i + 1):=by omega
 have hb3:(i:Int) ≤ (n:Int) + 1:=by omega
 have hb4:¬ (c = i):=by omega
 have hb5:¬ ((c:Int) < (n:Int) + 1):=by omega
 go_enter F,Body2.n21_ntmps ρ
 go_wp2_with (simp only [hov])
 go_region_law_o (refine step_copy_runI rfl _ _ (ρ.t 22) (ρ.t 22) rfl _ _ (by simp [Act.eval,Act.put]) (by simp [Act.eval,Act.put]) (hcp1 _ _ _) ?_)
 go_wp2_with (at_builtin;refine wpList_copy_runI _ rfl _ _ (ρ.t 22) (ρ.t 22) rfl _ _ rfl rfl (hcp2 _ _) ?_)
 go_ret
 exact ⟨rfl,rfl⟩
set_option maxHeartbeats 4000000 in
set_option maxRecDepth 100000 in
theorem ins_grow (L:InsLay P ρ f el info) (b off n c i k g G:Nat) (va:Addr) (vc:Nat) (w W1 W2 W3:World) (hi:i < n) (hnc:n ≤ c) (hroom:c < n + 1) (hn:n ≤ 17592186044416) (hG:n + 1 ≤ G)
  (hap:(Builtin.append_ #[ρ.t 22,ρ.t 3] (ρ.t 22) #[.slice (some ⟨b,off,none⟩) i c,.int .i64 ((n:Int) + 1 - (i:Int))]).run P w = .ok (.slice (some ⟨g,0,none⟩) (n + 1) G) W1)
  (hcpA:∀ ty dc,(Builtin.copy_ #[ρ.t 22,ρ.t 22] ty #[.slice (some ⟨g,i * info.size,none⟩) (n + 1 - i) dc,.slice (some va) 1 vc]).run P W1 = .ok (goInt 1) W2)
  (hcpB:∀ ty dc sc,(Builtin.copy_ #[ρ.t 22,ρ.t 22] ty #[.slice (some ⟨g,(i + 1) * info.size,none⟩) (n - i) dc,.slice (some ⟨b,off + i * info.size,none⟩) (n - i) sc]).run P W2.drew = .ok (goInt k) W3) :
  Calls P f #[.slice (some ⟨b,off,none⟩) n c,.int .i64 i,.slice (some va) 1 vc] w fun e w2=>e = .returned (.slice (some ⟨g,0,none⟩) (n + 1) G)∧w2 = W3:=by
 obtain ⟨nm,ta,_,F⟩:=L.fn
 have t3:=L.t3;have t22:=L.t22
 have u3:=run_underlying L.t3;have u22:=run_underlying L.t22
 have ze:∀ w,(Go.sizeOf el).run P w = .ok info.size w:=fun w=>by simp [sizeOf,typeInfo,L.el]
 have mixed:=L.mixed
 have hz2:¬ ((i:Int) = (n:Int)):=by omega
 have hz3:(c:Int) < (n:Int) + 1:=by omega
 have hw1:IntKind.i64.wrap ((i:Int) + 1) = (i:Int) + 1:=by rw [IntKind.wrap_i64];omega
 have hw2:IntKind.i64.wrap ((n:Int) + 1) = (n:Int) + 1:=by rw [IntKind.wrap_i64];omega
 have hw3:IntKind.i64.wrap ((n:Int) + 1 - (i:Int)) = (n:Int) + 1 - (i:Int):=by rw [IntKind.wrap_i64];omega
 have hb1:(0:Int) ≤ (i:Int) + 1:=by omega
 have hin:i ≤ n:=by omega
 have htn:((i:Int) + 1).toNat = i + 1:=by omega
 have hGi:¬ (G = i):=by omega
 have hGim:¬ (G = i + 1):=by omega
 have hci:¬ (c = i):=by omega
 have hb3:(i:Int) ≤ (n:Int):=by omega
 go_enter F,Body2.n21_ntmps ρ
 go_wp2_with (first
  | (at_builtin;refine Lib.wpList_append_run _ rfl _ _ _ _ rfl _ _ rfl rfl _ _ hap ?_)
  | (at_builtin;refine wpList_copy_runI _ rfl _ _ (ρ.t 22) (ρ.t 22) rfl _ _ rfl rfl (hcpA _ _) ?_))
 go_region_law_o (refine step_copy_runI rfl _ _ (ρ.t 22) (ρ.t 22) rfl (.slice (some ⟨g,(i + 1) * info.size,none⟩) (n - i) (G - (i + 1))) (.slice (some ⟨b,off + i * info.size,none⟩) (n - i) (c - i)) (by simp [Act.eval,Act.put]) (by simp [Act.eval,Act.put]) (hcpB (ρ.t 3) (G - (i + 1)) (c - i)) ?_)
 go_wp2
 go_ret
 exact ⟨rfl,rfl⟩
end
end Go.Ab
namespace Go.Ab
open Go.Shelf Go.RowKit Go.Lib Go.Proofs
theorem over_over (c:List Value) (o k:Nat) (v r:List Value) (hv:v.length = k) (hb:o + k + r.length ≤ c.length):over (over c (o + k) r) o v = over c o (v++r):=by
 have h1:(over c (o + k) r).length = c.length:=over_length _ _ _ (by omega)
 apply List.ext_getElem?
 intro i
 rw [over_get (over c (o + k) r) o v (by rw [h1];omega),over_get c (o + k) r (by omega),over_get c o (v++r) (by rw [List.length_append];omega),List.getElem?_append]
 simp only [List.length_append,hv]
 by_cases a1:i < o
 ·simp [a1,show i < o + k by omega]
 ·by_cases a2:i < o + k
  ·simp [a1,a2,show i < o + (k + r.length) by omega,show i - o < k by omega]
  ·by_cases a3:i < o + k + r.length
   ·simp [a1,a2,a3,show i < o + (k + r.length) by omega,show ¬ i - o < k by omega,show i - (o + k) = i - o - k by omega]
   ·simp [a1,a2,a3,show ¬ i < o + (k + r.length) by omega]
theorem run_copyK {P:Program} (w:World) {tS el:TypeId} (ty:TypeId) {size:Nat} (hu:P.underlying tS = some (.slice el)) (hz:∀ w,(Go.sizeOf el).run P w = .ok size w) (g o dn dc sb so sn sc:Nat) (cs:List Value) (k:Nat)
  (hk:Nat.min sn dn = k) (hl:cs.length = k * size) (hsrc:∀ j v,cs[j]? = some v→w.cell? ⟨sb,so + j,none⟩ = some v) {c:Array Value} {ty0:TypeId} {fz:Nat × Nat} (hc:w.heap[g]? = some (.cells c ty0 fz))
  (hfz:∀ j,j < cs.length→¬ (fz.1 ≤ o + j∧o + j < fz.2)) (hb:o + cs.length ≤ c.size) (h1:∀ v ∈ cs,v.oneCell' = true) :
  (Builtin.copy_ #[tS,tS] ty #[.slice (some ⟨g,o,none⟩) dn dc,.slice (some ⟨sb,so,none⟩) sn sc]).run P w = .ok (goInt k) (w.setRow g (over c.toList o cs).toArray):=by
 have hld:=run_loadCells_at P w sb so cs hsrc
 rw [hl] at hld
 have hst:=run_storeCells_any P g o ty0 fz cs 0 c w hc (by simpa using hfz) (by simpa using hb) h1
 simp only [Nat.add_zero] at hst
 have hfc:(Builtin.firstCells size k (.slice (some ⟨sb,so,none⟩) sn sc)).run P w = .ok cs.toArray w:=by simpa [Builtin.firstCells] using hld
 unfold Builtin.copy_
 simp [run_underlying hu,Builtin.lenOf,hz,hk,hfc,hst]
theorem over_app (a d v:List Value):over (a++d) a.length v = a++(v++d.drop v.length):=by simp [over,List.drop_append]
theorem alloc_setRow (w:World) (r r':Array Value) (el:TypeId):((w.alloc (.cells r el)).setRow w.heap.size r').heap = (w.alloc (.cells r' el)).heap:=by
 apply Array.ext_getElem?
 intro k
 rw [heap_setRow]
 by_cases hk:k = w.heap.size
 ·subst hk
  rw [if_pos rfl]
  show (match (w.heap.push _)[w.heap.size]? with | some (.cells _ e fz)=>some (.cells r' e fz) | o=>o) = (w.heap.push _)[w.heap.size]?
  rw [Array.getElem?_push_size,Array.getElem?_push_size]
 ·rw [if_neg hk]
  show (w.heap.push _)[k]? = (w.heap.push _)[k]?
  rw [Array.getElem?_push,Array.getElem?_push,if_neg hk,if_neg hk]
def SameW (w w':World):Prop:=w'.heap = w.heap∧w'.os = w.os∧w'.tape = w.tape∧w'.output = w.output
structure InsFn where
 size:Nat
 bytes:Nat
def endA (o:Option (AS × H)):Option CR:=o.map fun p=>.ret (.one p.1) p.2
def insA (F:InsFn) (args:List AV) (h:H):Option CR :=
 match args with
 | [.one s,.one (.int .i64 i),.one (.slc bv vv ov 1 sv cv)] =>
  (elemsOf h F.size 1 (.slc bv vv ov 1 sv cv)).bind fun new =>
  match s with
  | .nilslc=>if i = 0 then endA (appendL F.size F.bytes 1 new h .nilslc) else none
  | .slc b v o n s' c =>
   if i = (n:Int) then endA (appendL F.size F.bytes 1 new h (.slc b v o n s' c))
   else (h.f bv).bind fun k =>
    if 0 ≤ i∧i < n∧bv ≠ b∧k.fixed = true∧s' = F.size∧0 < F.size∧n ≤ 17592186044416 then
     (readC h (.ptr b v (o + i.toNat * F.size)) ((n - i.toNat) * F.size)).bind fun rest=>endA (appendL F.size F.bytes (1 + (n - i.toNat)) (new++rest) h (.slc b v o i.toNat s' c))
    else none
  | _=>none
 | _=>none
theorem endA_inv {o:Option (AS × H)} {r:CR} (h:endA o = some r):∃ q h',o = some (q,h')∧r = .ret (.one q) h':=by
 simp only [endA,Option.map_eq_some_iff] at h
 obtain ⟨⟨q,h'⟩,e,rfl⟩:=h
 exact ⟨q,h',e,rfl⟩
set_option maxHeartbeats 4000000 in
theorem insA_ok {P:Program} (hP:OkT P) {ρ:Ren} {f el:Nat} {info:TypeInfo} (L:InsLay P ρ f el info) (hel:el < P.types.size) {F:InsFn} (hF:F = ⟨info.size,info.bytes⟩) {args:List AV} {h:H} {r:CR} (hr:insA F args h = some r) {φ:Phi} {w:World} {cargs:List Value}
  (R:Rel φ h w) (ha:AVL φ (Nf φ) w args cargs):CallR P φ h w f cargs r:=by
 subst hF
 obtain ⟨nm,ta,hnm,hfn⟩:=L.fn
 obtain ⟨z,hz,hzs⟩:=hP.zero el info hel L.el
 have ze:∀ w,(Go.sizeOf el).run P w = .ok info.size w:=fun w=>by simp [sizeOf,typeInfo,L.el]
 unfold insA at hr
 split at hr
 rotate_left 1
 ·cases hr
 rename_i s i bv vv ov sv cv
 cases ha with
 | cons _ sval _ _ a1 ha =>
 cases ha with
 | cons _ ival _ _ a2 ha =>
 cases ha with
 | cons _ vval _ _ a3 ha =>
 cases ha
 have hs:=a1.one_inv
 have hi:=a2.one_inv
 have hv:=a3.one_inv
 cases hi
 have hnm':¬ nm = "runtime.NumGoroutine" := by simpa using hnm
 obtain ⟨code,hb⟩:∃ c,(Body2.n21 ρ).body = some c:=⟨_,rfl⟩
 refine .inr ⟨by simp [callFunc,hfn,hnm',hb], ?_⟩
 have fin:∀ (rv:Value) (w':World) (φ':Phi) (q:AS) (h':H),Rel φ' h' w'→Grow φ h w φ' h' w'→VR φ' (Nf φ') w' q rv→r = .ret (.one q) h'→Calls P f [sval,.int .i64 i,vval].toArray w (fun e w2=>e = .returned rv∧SameW w' w2) →
   Calls P f [sval,.int .i64 i,vval].toArray w (Ends φ h w r):=by
  intro rv w' φ' q h' R' G' hvr e hc
  refine hc.mono ?_
  rintro e2 w2 ⟨rfl,s1,s2,s3,s4⟩
  obtain ⟨R2,G2⟩:=rel_same R' s1 s2 s3 s4
  exact ⟨_,h',φ',e,R2,G'.trans G2,.one _ _ (G2.vr hvr)⟩
 simp only [oqB] at hr
 obtain ⟨new,hnew,hr⟩:=hr
 obtain ⟨us,hus,hlen,hfc⟩:=elems_ok (P:=P) R hv rfl hnew
 have hsrc:Src P w (ρ.t 22) info 1 us vval:=.cells vval (.slice el) L.t22 (.inl ⟨_,rfl⟩) hlen hfc
 have atEnd:∀ (q:AS) (h':H) (base:Option Addr) (n cap:Nat),sval = .slice base n cap→n ≤ cap→(base = none→n = 0)→i = (n:Int)→appendL info.size info.bytes 1 new h s = some (q,h')→r = .ret (.one q) h'→Calls P f [sval,.int .i64 i,vval].toArray w (Ends φ h w r):=by
  rintro q h' base n cap rfl hnc hnil rfl hA e
  obtain ⟨rv,w',φ',hrun,hvr,R',G'⟩:=appendL_ok hP R (ρ.t 22) (ρ.t 22) (ρ.t 22) el info 1 new us s q _ vval L.t22 hel L.el hs hus hsrc hA
  refine fin rv w' φ' q h' R' G' hvr e ?_
  cases hv with
  | slc _ _ _ _ _ _ Lv av vcap hφv hsv0 hav hvc hvcap hvext =>
  exact (ins_end L base n cap av vcap w w' rv hnc hnil hrun).mono fun e2 w2 ⟨e3,e4⟩=>⟨e3,by subst e4;exact ⟨rfl,rfl,rfl,rfl⟩⟩
 split at hr
 ·split at hr
  ·rename_i hi0
   obtain ⟨q,h',hA,rfl⟩:=endA_inv hr
   cases hs
   exact atEnd q h' none 0 0 rfl (Nat.le_refl _) (fun _=>rfl) (by omega) hA rfl
  ·cases hr
 ·rename_i b v o n s' c
  split at hr
  ·rename_i hi0
   obtain ⟨q,h',hA,rfl⟩:=endA_inv hr
   have hs2:=hs
   cases hs2 with
   | slc _ _ _ _ _ _ Ls a cap hφs hs0 ha0 hnc hcapc hext =>
   exact atEnd q h' (some a) n cap rfl hnc (fun e=>by cases e) hi0 hA rfl
  ·rename_i hne
   simp only [oqB] at hr
   obtain ⟨k,hk,hr⟩:=hr
   split at hr
   rotate_left 1
   ·cases hr
   rename_i hcond
   obtain ⟨h0,h1,hbb,hfx,rfl,hsz,hnl⟩:=hcond
   simp only [oqB] at hr
   obtain ⟨rest,hrest,hr⟩:=hr
   obtain ⟨q,h',hA,rfl⟩:=endA_inv hr
   obtain ⟨j,rfl⟩:∃ j:Nat,i = j:=⟨i.toNat,by omega⟩
   simp only [Int.toNat_natCast] at hrest hA
   have hj:j < n:=by omega
   cases hs with
   | slc _ _ _ _ _ _ Ls a cap hφs hs0 ha0 hnc hcapc hext =>
   have ha1:=ha0 (by omega)
   subst ha1
   cases hv with
   | slc _ _ _ _ _ _ Lv av vcap hφv hsv0 hav hvc hvcap hvext =>
   have hav1:=hav (by omega)
   subst hav1
   have hnew':readC h (.ptr bv vv ov) (1 * info.size) = some new:=by
    simp only [elemsOf] at hnew
    split at hnew
    ·exact hnew
    ·cases hnew
   obtain ⟨b1,o1,us1,e1,hus1,hul,huc⟩:=read_ok R (VR.ptr bv vv ov Lv hφv) hnew'
   simp only [Value.pointer.injEq,oqI,Addr.mk.injEq,and_true] at e1
   obtain ⟨rfl,rfl⟩:=e1
   obtain ⟨b2,o2,rs,e2,hrs,hrl,hrc⟩:=read_ok R (VR.ptr b v (o + j * info.size) Ls hφs) hrest
   simp only [Value.pointer.injEq,oqI,Addr.mk.injEq,and_true] at e2
   obtain ⟨rfl,rfl⟩:=e2
   obtain ⟨B,E,hB,hE,hle,_⟩:=readC_ptr hrest
   obtain ⟨Ls',q1,hLe,_,hLl,_,C,ty,fz,hC,hCs,hCf,_⟩:=R.blk b B v E hB hE
   rw [hφs] at q1;cases q1
   obtain ⟨Bv,Ev,hBv,hEv,hlev,_⟩:=readC_ptr hnew'
   rw [hk] at hBv;cases hBv
   obtain ⟨Lv',q2,hLve,_,hLvl,_,Cv,tyv,fzv,hCv,hCvs,hCvf,_⟩:=R.blk bv k vv Ev hk hEv
   rw [hφv] at q2;cases q2
   have hdiff:Lv.blk ≠ Ls.blk:=fun e=>hbb (R.sep bv k vv Ev Lv b B v E Ls hk hEv hφv hB hE hφs e).1
   have hplain:fzv.1 = fzv.2:=hCvf.resolve_right (fun q=>by rw [hfx] at q;cases q.2)
   have hlim:o + cap * info.size ≤ Ls.lim:=by
    cases c with
    | none=>simp only at hcapc;omega
    | some cc=>simp only at hcapc;obtain ⟨rfl,h2⟩:=hcapc;exact h2
   have m1:(j + 1) * info.size = j * info.size + info.size:=Nat.succ_mul _ _
   have m2:(n - j) * info.size + j * info.size = n * info.size:=by rw [← Nat.add_mul];congr 1;omega
   have m3:(n + 1) * info.size = n * info.size + info.size:=Nat.succ_mul _ _
   rw [Nat.one_mul] at hul
   have hnf:∀ x,w.frozen? ⟨Lv.blk,x,none⟩ = false:=by
    intro x
    simp only [World.frozen?,hCv]
    obtain ⟨lo,hi⟩:=fzv
    simp only at hplain
    subst hplain
    by_cases hx:lo ≤ x <;> simp [hx]
   suffices key:∃ rv w' φ',Calls P f [.slice (some ⟨Ls.blk,Ls.base + o,none⟩) n cap,.int .i64 (j:Int),.slice (some ⟨Lv.blk,Lv.base + ov,none⟩) 1 vcap].toArray w (fun e w2=>e = .returned rv∧SameW w' w2)∧VR φ' (Nf φ') w' q rv∧Rel φ' h' w'∧Grow φ h w φ' h' w' by
    obtain ⟨rv,w',φ',hcall,hvr,R',G'⟩:=key
    exact fin rv w' φ' q h' R' G' hvr rfl hcall
   refine appendL_gen hP R el info (1 + (n - j)) (new++rest) (us1++rs) (.slc b v o j info.size c) q (.slice (some ⟨Ls.blk,Ls.base + o,none⟩) j cap) z
    (fun rv w'=>Calls P f [.slice (some ⟨Ls.blk,Ls.base + o,none⟩) n cap,.int .i64 (j:Int),.slice (some ⟨Lv.blk,Lv.base + ov,none⟩) 1 vcap].toArray w (fun e w2=>e = .returned rv∧SameW w' w2)) hel L.el hz
    (.slc b v o j info.size c Ls _ cap hφs hs0 (fun _=>rfl) (by omega) hcapc (by have:=Nat.mul_le_mul_right info.size (Nat.le_of_lt hj);omega)) (hus1.append hrs)
    (fun k cap e _=>nomatch e) ?_ ?_ hA
   ·-- there is room
    intro a' k' cap' w' e hle2 hst
    simp only [Value.slice.injEq,oqI] at e
    obtain ⟨rfl,rfl,rfl⟩:=e
    have m4:=Nat.mul_le_mul_right info.size (show n + 1 ≤ cap by omega)
    have hfz:fz.1 = fz.2 ∨ Ls.base + Ls.lim ≤ fz.1:=hCf.imp id And.left
    have hst2:=run_storeCells_any P Ls.blk (Ls.base + o + j * info.size) ty fz (us1++rs) 0 C w hC (fun t ht=>by rw [List.length_append] at ht;omega) (by rw [List.length_append];omega) (hus1.append hrs).oneCells
    rw [add_none] at hst
    rw [hst] at hst2
    simp only [Nat.add_zero,Result.ok.injEq,true_and] at hst2
    have hov:∀ lb cb,(callFunc (ρ.f 27) #[.slice (some ⟨Lv.blk,Lv.base + ov,none⟩) 1 vcap,.slice (some ⟨Ls.blk,Ls.base + o + (j + 1) * info.size,none⟩) lb cb]).run P w = .ok (.value (.bool false)) w:=fun lb cb=>by
     obtain ⟨fo,f1,f2,f3,f4,f5⟩:=L.ov
     rw [run_callFunc_extern f1 f2 f3 f4 f5,Lib.run_overlaps_apart w (ρ.t 22) (ρ.t 4) el L.t22 info.size ze ⟨Lv.blk,Lv.base + ov,none⟩ ⟨Ls.blk,Ls.base + o + (j + 1) * info.size,none⟩ 1 vcap lb cb hdiff tyv ty Cv.size C.size
      (by simp [World.shape?,hCv]) (by simp [World.shape?,hC]) (by omega) (hnf _) (hnf _)]
     rfl
    have hrow:over (over C.toList (Ls.base + o + (j + 1) * info.size) rs) (Ls.base + o + j * info.size) us1 = over C.toList (Ls.base + o + j * info.size) (us1++rs):=by
     rw [m1,← Nat.add_assoc]
     exact over_over _ _ _ _ _ hul (by simp only [Array.length_toList];omega)
    obtain ⟨W1,hW1⟩:∃ W1,W1 = w.drew.setRow Ls.blk (over C.toList (Ls.base + o + (j + 1) * info.size) rs).toArray:=⟨_,rfl⟩
    have hW1h:W1.heap[Ls.blk]? = some (.cells (over C.toList (Ls.base + o + (j + 1) * info.size) rs).toArray ty fz):=by rw [hW1];exact setRow_heap _ _ _ _ _ _ hC
    have hcp1:∀ ty2 dc sc,(Builtin.copy_ #[ρ.t 22,ρ.t 22] ty2 #[.slice (some ⟨Ls.blk,Ls.base + o + (j + 1) * info.size,none⟩) (n - j) dc,.slice (some ⟨Ls.blk,Ls.base + o + j * info.size,none⟩) (n + 1 - j) sc]).run P w.drew = .ok (goInt (n - j:Nat)) W1:=fun ty2 dc sc=>by
     rw [hW1]
     refine run_copyK w.drew ty2 L.t22 ze Ls.blk _ (n - j) dc Ls.blk _ (n + 1 - j) sc rs (n - j) ?_ hrl (fun t x hx=>?_) hC (fun t ht=>by omega) (by omega) hrs.oneCells
     ·simp only [Nat.min_def];split <;> omega
     ·have:=hrc t x hx
      rwa [← Nat.add_assoc] at this
    have hcp2:∀ ty2 dc,(Builtin.copy_ #[ρ.t 22,ρ.t 22] ty2 #[.slice (some ⟨Ls.blk,Ls.base + o + j * info.size,none⟩) (n + 1 - j) dc,.slice (some ⟨Lv.blk,Lv.base + ov,none⟩) 1 vcap]).run P W1 = .ok (goInt (1:Nat)) (W1.setRow Ls.blk (over C.toList (Ls.base + o + j * info.size) (us1++rs)).toArray):=fun ty2 dc=>by
     rw [← hrow]
     have:=run_copyK (P:=P) W1 ty2 L.t22 ze Ls.blk (Ls.base + o + j * info.size) (n + 1 - j) dc Lv.blk (Lv.base + ov) 1 vcap us1 1 (by simp only [Nat.min_def];split <;> omega) (by omega) (fun t x hx=>by
      rw [hW1]
      have:=huc t x hx
      simp only [World.cell?] at this ⊢
      rw [heap_setRow,if_neg hdiff];exact this) hW1h (fun t ht=>by omega) (by simp only [List.size_toArray];rw [over_length _ _ _ (by simp only [Array.length_toList];omega)];simp only [Array.length_toList];omega) hus1.oneCells
     simpa using this
    refine (ins_shift L Ls.blk (Ls.base + o) n cap j (n - j) ⟨Lv.blk,Lv.base + ov,none⟩ vcap w W1 _ hj (by omega) hnl hov hcp1 hcp2).mono ?_
    rintro e2 w2 ⟨rfl,rfl⟩
    refine ⟨by rw [show j + (1 + (n - j)) = n + 1 by omega], ?_⟩
    rw [hst2,hW1,setRow_setRow]
    exact ⟨rfl,rfl,rfl,rfl⟩
   ·-- there is none
    intro base k' cap' olds e ho hol hlt hb1 hb2
    simp only [Value.slice.injEq] at e
    obtain ⟨rfl,rfl,rfl⟩:=e
    have hzl:∀ m,(Builtin.zeroCells z.cells m).toList.length = m * info.size:=fun m=>by simp [size_zeroCells,hzs]
    obtain ⟨G,hG,hrun⟩:=run_append_new P (ρ.t 22) (ρ.t 3) (ρ.t 22) w (.slice (some ⟨Ls.blk,Ls.base + o,none⟩) j cap) (some ⟨Ls.blk,Ls.base + o,none⟩) j cap (n + 1 - j) el info z (.int .i64 ((n:Int) + 1 - (j:Int))) (Builtin.zeroCells z.cells (n + 1 - j)).toList olds L.t22 L.el hz
     (.zeros .i64 .i64 _ z (by omega) L.t3 (by rw [IntKind.wrap_i64] <;> omega) (by
      have h2:(n + 1 - j) * info.bytes ≤ (j + (1 + (n - j)) + 600) * info.bytes:=Nat.mul_le_mul_right _ (by omega)
      have h3:(((n + 1 - j) * info.bytes:Nat):Int) ≤ ((17592186044416:Nat):Int):=Int.ofNat_le.2 (by omega)
      rw [Int.natCast_mul] at h3
      omega) hz hsz (by simp)) rfl ho (by omega) (by rw [show j + (n + 1 - j) = j + (1 + (n - j)) by omega];exact hb1) (by omega)
    rw [show j + (n + 1 - j) = n + 1 by omega] at hG hrun
    refine ⟨G,by omega, ?_⟩
    rw [show j + (1 + (n - j)) = n + 1 by omega]
    obtain ⟨row,hrow⟩:∃ row,row = olds++((Builtin.zeroCells z.cells (n + 1 - j)).toList++(Builtin.zeroCells z.cells (G - (n + 1))).toList):=⟨_,rfl⟩
    have hrl2:row.length = j * info.size + ((n + 1 - j) * info.size + (G - (n + 1)) * info.size):=by rw [hrow];simp only [List.length_append,hzl,hol]
    have m5:(n + 1 - j) * info.size = (n - j) * info.size + info.size:=by rw [← Nat.succ_mul];congr 1;omega
    rw [← hrow] at hrun
    have hbw:Ls.blk < w.heap.size:=(R.dom _ _ _ hφs).2
    have hvw:Lv.blk < w.heap.size:=(R.dom _ _ _ hφv).2
    obtain ⟨W1,hW1⟩:∃ W1,W1 = w.drew.alloc (.cells row.toArray el):=⟨_,rfl⟩
    rw [← hW1] at hrun
    have hW1h:W1.heap[w.heap.size]? = some (.cells row.toArray el (0,0)):=by rw [hW1];exact Array.getElem?_push_size
    have hold:∀ g,g < w.heap.size→W1.heap[g]? = w.heap[g]?:=fun g hg=>by
     rw [hW1]
     show (w.heap.push _)[g]? = _
     rw [Array.getElem?_push,if_neg (by omega)]
    obtain ⟨W2,hW2⟩:∃ W2,W2 = W1.setRow w.heap.size (over row (j * info.size) us1).toArray:=⟨_,rfl⟩
    have hW2h:W2.heap[w.heap.size]? = some (.cells (over row (j * info.size) us1).toArray el (0,0)):=by rw [hW2];exact setRow_heap _ _ _ _ _ _ hW1h
    have hcpA:∀ ty2 dc,(Builtin.copy_ #[ρ.t 22,ρ.t 22] ty2 #[.slice (some ⟨w.heap.size,j * info.size,none⟩) (n + 1 - j) dc,.slice (some ⟨Lv.blk,Lv.base + ov,none⟩) 1 vcap]).run P W1 = .ok (goInt (1:Nat)) W2:=fun ty2 dc=>by
     rw [hW2]
     have:=run_copyK (P:=P) W1 ty2 L.t22 ze w.heap.size (j * info.size) (n + 1 - j) dc Lv.blk (Lv.base + ov) 1 vcap us1 1 (by simp only [Nat.min_def];split <;> omega) (by omega) (fun t x hx=>by
      have:=huc t x hx
      simp only [World.cell?] at this ⊢
      rw [hold _ hvw];exact this) hW1h (fun t ht=>by simp) (by simp only [List.size_toArray];omega) hus1.oneCells
     simpa using this
    have hcpB:∀ ty2 dc sc,(Builtin.copy_ #[ρ.t 22,ρ.t 22] ty2 #[.slice (some ⟨w.heap.size,(j + 1) * info.size,none⟩) (n - j) dc,.slice (some ⟨Ls.blk,Ls.base + o + j * info.size,none⟩) (n - j) sc]).run P W2.drew = .ok (goInt (n - j:Nat)) (W2.drew.setRow w.heap.size (over (over row (j * info.size) us1) ((j + 1) * info.size) rs).toArray):=fun ty2 dc sc=>by
     have:=run_copyK (P:=P) W2.drew ty2 L.t22 ze w.heap.size ((j + 1) * info.size) (n - j) dc Ls.blk (Ls.base + o + j * info.size) (n - j) sc rs (n - j) (Nat.min_self _) hrl (fun t x hx=>by
      have:=hrc t x hx
      rw [← Nat.add_assoc] at this
      show W2.cell? _ = _
      simp only [World.cell?] at this ⊢
      rw [hW2,heap_setRow,if_neg (by omega),hold _ hbw];exact this) hW2h (fun t ht=>by simp) (by simp only [List.size_toArray];rw [over_length _ _ _ (by omega)];omega) hrs.oneCells
     simpa using this
    refine (ins_grow L Ls.blk (Ls.base + o) n cap j (n - j) w.heap.size G ⟨Lv.blk,Lv.base + ov,none⟩ vcap w W1 W2 _ hj hnc (by omega) hnl hG hrun hcpA hcpB).mono ?_
    rintro e2 w2 ⟨rfl,rfl⟩
    refine ⟨rfl, ?_⟩
    have hfinal:over (over row (j * info.size) us1) ((j + 1) * info.size) rs = olds++(us1++rs++(Builtin.zeroCells z.cells (G - (n + 1))).toList):=by
     rw [hrow,← hol,over_app,m1,← hol,← hul,← List.length_append,← List.append_assoc,over_app]
     simp only [List.append_assoc]
     congr 3
     rw [List.drop_drop,List.drop_append_of_le_length (by rw [hzl,hrl];omega),List.drop_of_length_le (by rw [hzl,hrl];omega)]
     simp
    rw [hfinal,hW2]
    refine ⟨?_,by rw [hW1];rfl,by rw [hW1];rfl,by rw [hW1];rfl⟩
    show ((W1.setRow w.heap.size _).setRow w.heap.size _).heap = _
    rw [setRow_setRow,hW1]
    exact alloc_setRow w.drew _ _ el
 ·cases hr
end Go.Ab
namespace Go.Ab
end Go.Ab
