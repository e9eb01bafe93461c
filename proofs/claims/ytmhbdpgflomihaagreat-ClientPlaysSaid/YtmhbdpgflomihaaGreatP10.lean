/- A part of a proof over the abstract machine. No conditions. -/
import Derived.Test.YtmhbdpgflomihaaGreatP9
namespace Go.Proofs.YtmhbdpgflomihaaGreat
open Go Go.Ab Wm NumPlain
set_option linter.unusedSimpArgs false
set_option linter.unnecessarySimpa false
set_option linter.unusedVariables false
set_option maxRecDepth 10000
set_option maxHeartbeats 8000000
def blkC (id : Nat) : Code → Option Code
  | .block i b => if i = id then some b else blkC id b
  | .seq a b => match blkC id a with | some c => some c | none => blkC id b
  | .cond _ a b => match blkC id a with | some c => some c | none => blkC id b
  | .loop b => blkC id b
  | _ => none
def isBlk (id : Nat) : Code → Bool
  | .block i _ => i == id
  | .seq _ b => isBlk id b
  | _ => false
def restC (id : Nat) : Code → Option Code
  | .seq a b => if isBlk id a then some b else match restC id a with | some c => some c | none => restC id b
  | .block _ b => restC id b
  | .cond _ a b => match restC id a with | some c => some c | none => restC id b
  | .loop b => restC id b
  | _ => none
noncomputable def codeOf (f : Func) : Code := f.body.getD .skip
noncomputable def swC : Code := (blkC 2 (codeOf Tryz.f8)).getD .skip
noncomputable def tlC : Code := (restC 2 (codeOf Tryz.f8)).getD .skip
def frP (kid n : Int) (L : AS) (p q i : Nat) (j : Nat → AV) : Fr := ((.one (ii kid)) :: (.one (ii n)) :: (.one L) :: j 3 :: j 4 :: j 5 :: (.one (.bool false)) :: (.one (.ptr p 0 0)) :: (.one (.ptr q 0 0)) :: (.one (ii i)) :: j 10 :: j 11 :: j 12 :: j 13 :: j 14 :: j 15 :: j 16 :: j 17 :: j 18 :: j 19 :: j 20 :: j 21 :: j 22 :: j 23 :: j 24 :: j 25 :: j 26 :: j 27 :: j 28 :: j 29 :: j 30 :: j 31 :: j 32 :: j 33 :: j 34 :: j 35 :: j 36 :: j 37 :: j 38 :: j 39 :: j 40 :: j 41 :: j 42 :: j 43 :: j 44 :: j 45 :: j 46 :: j 47 :: j 48 :: j 49 :: j 50 :: j 51 :: j 52 :: j 53 :: j 54 :: j 55 :: j 56 :: j 57 :: j 58 :: j 59 :: j 60 :: j 61 :: j 62 :: j 63 :: j 64 :: j 65 :: j 66 :: j 67 :: j 68 :: j 69 :: j 70 :: j 71 :: j 72 :: j 73 :: j 74 :: j 75 :: j 76 :: j 77 :: j 78 :: j 79 :: j 80 :: j 81 :: j 82 :: j 83 :: j 84 :: j 85 :: j 86 :: j 87 :: j 88 :: j 89 :: j 90 :: j 91 :: j 92 :: j 93 :: j 94 :: j 95 :: j 96 :: j 97 :: j 98 :: j 99 :: j 100 :: j 101 :: j 102 :: j 103 :: j 104 :: j 105 :: j 106 :: j 107 :: j 108 :: j 109 :: j 110 :: j 111 :: j 112 :: j 113 :: j 114 :: j 115 :: j 116 :: j 117 :: j 118 :: j 119 :: j 120 :: j 121 :: j 122 :: j 123 :: j 124 :: j 125 :: j 126 :: j 127 :: j 128 :: j 129 :: j 130 :: j 131 :: j 132 :: j 133 :: j 134 :: j 135 :: j 136 :: j 137 :: j 138 :: j 139 :: j 140 :: j 141 :: j 142 :: j 143 :: j 144 :: j 145 :: j 146 :: j 147 :: j 148 :: j 149 :: j 150 :: j 151 :: j 152 :: j 153 :: j 154 :: j 155 :: j 156 :: j 157 :: j 158 :: j 159 :: j 160 :: j 161 :: j 162 :: j 163 :: j 164 :: j 165 :: j 166 :: j 167 :: j 168 :: j 169 :: j 170 :: j 171 :: j 172 :: j 173 :: j 174 :: j 175 :: j 176 :: j 177 :: j 178 :: j 179 :: j 180 :: j 181 :: j 182 :: j 183 :: j 184 :: j 185 :: j 186 :: j 187 :: j 188 :: j 189 :: j 190 :: j 191 :: j 192 :: j 193 :: j 194 :: j 195 :: j 196 :: j 197 :: j 198 :: j 199 :: j 200 :: j 201 :: j 202 :: j 203 :: j 204 :: j 205 :: j 206 :: j 207 :: j 208 :: j 209 :: j 210 :: j 211 :: j 212 :: j 213 :: j 214 :: j 215 :: j 216 :: j 217 :: j 218 :: j 219 :: j 220 :: j 221 :: j 222 :: j 223 :: j 224 :: j 225 :: j 226 :: j 227 :: j 228 :: j 229 :: j 230 :: j 231 :: j 232 :: j 233 :: j 234 :: j 235 :: j 236 :: j 237 :: j 238 :: j 239 :: j 240 :: j 241 :: j 242 :: j 243 :: j 244 :: j 245 :: j 246 :: j 247 :: j 248 :: j 249 :: j 250 :: j 251 :: j 252 :: j 253 :: j 254 :: j 255 :: j 256 :: j 257 :: j 258 :: j 259 :: j 260 :: j 261 :: j 262 :: j 263 :: j 264 :: j 265 :: j 266 :: j 267 :: j 268 :: j 269 :: j 270 :: j 271 :: j 272 :: j 273 :: [])
def frM (kid n : Int) (L : AS) (p q i : Nat) (s : AS) (sends : Bool) (j : Nat → AV) : Fr := ((.one (ii kid)) :: (.one (ii n)) :: (.one L) :: j 3 :: j 4 :: j 5 :: (.one (.bool false)) :: (.one (.ptr p 0 0)) :: (.one (.ptr q 0 0)) :: (.one (ii i)) :: j 10 :: j 11 :: j 12 :: (.one s) :: (.one (.bool sends)) :: j 15 :: j 16 :: j 17 :: j 18 :: j 19 :: j 20 :: j 21 :: j 22 :: j 23 :: j 24 :: j 25 :: j 26 :: j 27 :: j 28 :: j 29 :: j 30 :: j 31 :: j 32 :: j 33 :: j 34 :: j 35 :: j 36 :: j 37 :: j 38 :: j 39 :: j 40 :: j 41 :: j 42 :: j 43 :: j 44 :: j 45 :: j 46 :: j 47 :: j 48 :: j 49 :: j 50 :: j 51 :: j 52 :: j 53 :: j 54 :: j 55 :: j 56 :: j 57 :: j 58 :: j 59 :: j 60 :: j 61 :: j 62 :: j 63 :: j 64 :: j 65 :: j 66 :: j 67 :: j 68 :: j 69 :: j 70 :: j 71 :: j 72 :: j 73 :: j 74 :: j 75 :: j 76 :: j 77 :: j 78 :: j 79 :: j 80 :: j 81 :: j 82 :: j 83 :: j 84 :: j 85 :: j 86 :: j 87 :: j 88 :: j 89 :: j 90 :: j 91 :: j 92 :: j 93 :: j 94 :: j 95 :: j 96 :: j 97 :: j 98 :: j 99 :: j 100 :: j 101 :: j 102 :: j 103 :: j 104 :: j 105 :: j 106 :: j 107 :: j 108 :: j 109 :: j 110 :: j 111 :: j 112 :: j 113 :: j 114 :: j 115 :: j 116 :: j 117 :: j 118 :: j 119 :: j 120 :: j 121 :: j 122 :: j 123 :: j 124 :: j 125 :: j 126 :: j 127 :: j 128 :: j 129 :: j 130 :: j 131 :: j 132 :: j 133 :: j 134 :: j 135 :: j 136 :: j 137 :: j 138 :: j 139 :: j 140 :: j 141 :: j 142 :: j 143 :: j 144 :: j 145 :: j 146 :: j 147 :: j 148 :: j 149 :: j 150 :: j 151 :: j 152 :: j 153 :: j 154 :: j 155 :: j 156 :: j 157 :: j 158 :: j 159 :: j 160 :: j 161 :: j 162 :: j 163 :: j 164 :: j 165 :: j 166 :: j 167 :: j 168 :: j 169 :: j 170 :: j 171 :: j 172 :: j 173 :: j 174 :: j 175 :: j 176 :: j 177 :: j 178 :: j 179 :: j 180 :: j 181 :: j 182 :: j 183 :: j 184 :: j 185 :: j 186 :: j 187 :: j 188 :: j 189 :: j 190 :: j 191 :: j 192 :: j 193 :: j 194 :: j 195 :: j 196 :: j 197 :: j 198 :: j 199 :: j 200 :: j 201 :: j 202 :: j 203 :: j 204 :: j 205 :: j 206 :: j 207 :: j 208 :: j 209 :: j 210 :: j 211 :: j 212 :: j 213 :: j 214 :: j 215 :: j 216 :: j 217 :: j 218 :: j 219 :: j 220 :: j 221 :: j 222 :: j 223 :: j 224 :: j 225 :: j 226 :: j 227 :: j 228 :: j 229 :: j 230 :: j 231 :: j 232 :: j 233 :: j 234 :: j 235 :: j 236 :: j 237 :: j 238 :: j 239 :: j 240 :: j 241 :: j 242 :: j 243 :: j 244 :: j 245 :: j 246 :: j 247 :: j 248 :: j 249 :: j 250 :: j 251 :: j 252 :: j 253 :: j 254 :: j 255 :: j 256 :: j 257 :: j 258 :: j 259 :: j 260 :: j 261 :: j 262 :: j 263 :: j 264 :: j 265 :: j 266 :: j 267 :: j 268 :: j 269 :: j 270 :: j 271 :: j 272 :: j 273 :: [])
def frS (kid n : Int) (L : AS) (p q i x : Nat) (g : Int) (t : Nat) (k9 : Int) (j : Nat → AV) : Fr := ((.one (ii kid)) :: (.one (ii n)) :: (.one L) :: j 3 :: j 4 :: j 5 :: (.one (.bool false)) :: (.one (.ptr p 0 0)) :: (.one (.ptr q 0 0)) :: (.one (ii i)) :: (.one (.ptr x 0 0)) :: (.one (ii g)) :: (.one (.ptr t 0 0)) :: (.one .nilslc) :: (.one (.bool false)) :: j 15 :: j 16 :: j 17 :: j 18 :: j 19 :: j 20 :: j 21 :: j 22 :: j 23 :: j 24 :: j 25 :: j 26 :: j 27 :: j 28 :: j 29 :: j 30 :: j 31 :: j 32 :: j 33 :: j 34 :: j 35 :: j 36 :: j 37 :: j 38 :: j 39 :: j 40 :: j 41 :: j 42 :: j 43 :: j 44 :: j 45 :: j 46 :: j 47 :: j 48 :: j 49 :: j 50 :: j 51 :: j 52 :: j 53 :: j 54 :: j 55 :: j 56 :: j 57 :: (.one (ii k9)) :: j 59 :: j 60 :: j 61 :: j 62 :: j 63 :: j 64 :: j 65 :: j 66 :: j 67 :: j 68 :: j 69 :: j 70 :: j 71 :: j 72 :: j 73 :: j 74 :: j 75 :: j 76 :: j 77 :: j 78 :: j 79 :: j 80 :: j 81 :: j 82 :: j 83 :: j 84 :: j 85 :: j 86 :: j 87 :: j 88 :: j 89 :: j 90 :: j 91 :: j 92 :: j 93 :: j 94 :: j 95 :: j 96 :: j 97 :: j 98 :: j 99 :: j 100 :: j 101 :: j 102 :: j 103 :: j 104 :: j 105 :: j 106 :: j 107 :: j 108 :: j 109 :: j 110 :: j 111 :: j 112 :: j 113 :: j 114 :: j 115 :: j 116 :: j 117 :: j 118 :: j 119 :: j 120 :: j 121 :: j 122 :: j 123 :: j 124 :: j 125 :: j 126 :: j 127 :: j 128 :: j 129 :: j 130 :: j 131 :: j 132 :: j 133 :: j 134 :: j 135 :: j 136 :: j 137 :: j 138 :: j 139 :: j 140 :: j 141 :: j 142 :: j 143 :: j 144 :: j 145 :: j 146 :: j 147 :: j 148 :: j 149 :: j 150 :: j 151 :: j 152 :: j 153 :: j 154 :: j 155 :: j 156 :: j 157 :: j 158 :: j 159 :: j 160 :: j 161 :: j 162 :: j 163 :: j 164 :: j 165 :: j 166 :: j 167 :: j 168 :: j 169 :: j 170 :: j 171 :: j 172 :: j 173 :: j 174 :: j 175 :: j 176 :: j 177 :: j 178 :: j 179 :: j 180 :: j 181 :: j 182 :: j 183 :: j 184 :: j 185 :: j 186 :: j 187 :: j 188 :: j 189 :: j 190 :: j 191 :: j 192 :: j 193 :: j 194 :: j 195 :: j 196 :: j 197 :: j 198 :: j 199 :: j 200 :: j 201 :: j 202 :: j 203 :: j 204 :: j 205 :: j 206 :: j 207 :: j 208 :: j 209 :: j 210 :: j 211 :: j 212 :: j 213 :: j 214 :: j 215 :: j 216 :: j 217 :: j 218 :: j 219 :: j 220 :: j 221 :: j 222 :: j 223 :: j 224 :: j 225 :: j 226 :: j 227 :: j 228 :: j 229 :: j 230 :: j 231 :: j 232 :: j 233 :: j 234 :: j 235 :: j 236 :: j 237 :: j 238 :: j 239 :: j 240 :: j 241 :: j 242 :: j 243 :: j 244 :: j 245 :: j 246 :: j 247 :: j 248 :: j 249 :: j 250 :: j 251 :: j 252 :: j 253 :: j 254 :: j 255 :: j 256 :: j 257 :: j 258 :: j 259 :: j 260 :: j 261 :: j 262 :: j 263 :: j 264 :: j 265 :: j 266 :: j 267 :: j 268 :: j 269 :: j 270 :: j 271 :: j 272 :: j 273 :: [])
def Mid (kid n : Int) (p q i : Nat) (c : Cl) (m : Md) (h : H) (s : AS) (sends : Bool) : Prop := Bt h p q c m ∧ Rl c m ∧ m.seq ≤ i + 1 ∧ m.id = kid ∧ m.n = n ∧ (∃ h0, Asks h0 h c sends (.one s)) ∧ (sends = true → m.busy = true)
def EndR (kid n : Int) (L : AS) (p q i : Nat) (x : Ex) (fr : Fr) (h : H) : Prop := x = .normal ∧ ∃ c m s sends, Mid kid n p q i c m h s sends ∧ ∃ j : Nat → AV, fr = frM kid n L p q i s sends j
def TailR (kid n : Int) (L : AS) (p q i : Nat) (x : Ex) (fr : Fr) (h : H) : Prop := x = .normal ∧ ∃ c m, Bt h p q c m ∧ Rl c m ∧ m.seq ≤ i + 1 ∧ m.id = kid ∧ m.n = n ∧ ∃ j : Nat → AV, fr = frP kid n L p q i j
theorem cut_block {id : Nat} {b rest : Code} {fr : Fr} {h : H} {Q R T : Ex → Fr → H → Prop} (h1 : Does K b fr h R) (hR : ∀ x fr h, R x fr h → x = .normal ∧ Does K rest fr h T) (hT : ∀ x fr h, T x fr h → Q x fr h) : Does K (.block id b) fr h (seqQ K rest Q) := by
  rw [K_block]
  refine h1.mono fun x fr h hx => ?_
  obtain ⟨rfl, h2⟩ := hR x fr h hx
  simp only [blockQ_normal, seqQ_normal]
  exact h2.mono hT
theorem tail_c {kid n : Int} {p q i : Nat} {c' : Cl} {m' : Md} {h5 : H} {s : AS} {sends : Bool} (L : AS) (hm : Mid kid n p q i c' m' h5 s sends) (j' : Nat → AV) : Does K tlC (frM kid n L p q i s sends j') h5 (TailR kid n L p q i) := by
  obtain ⟨bt5, rl5, hsq5, hmi5, hmn5, ⟨h0, as5⟩, hbs⟩ := hm
  have hml5 := rl5.len.2
  obtain ⟨r6, d6, hr6⟩ := ask_m bt5.md (by omega)
  obtain ⟨v6, h6, rfl, rfl, n6, k6⟩ := hr6.ret
  have hs6 := new_set h6 ⟨0, [19], true, zC⟩ ⟨0, [19], true, mW m'⟩
  have hcl6 := mW_len m'
  have bt6 : Bt (h6.new ⟨0, [19], true, mW m'⟩) p q c' m' := (bt5.keep n6 k6).new _
  have as6 : Asks h0 (h6.new ⟨0, [19], true, mW m'⟩) c' sends (.one s) := (as5.keep n6 fun b _ h => k6 b h).keep (by simp) fun b _ h => by rw [new_at, if_neg (by omega)]
  have f6c : (h6.new ⟨0, [19], true, mW m'⟩).f h6.next = some ⟨0, [19], true, mW m'⟩ := by simp
  generalize hH6 : h6.new ⟨0, [19], true, mW m'⟩ = H6 at *
  obtain ⟨r8, d8, hr8⟩ := told_cl bt6.cl rl5.ans
  obtain ⟨v8, h8, rfl, hv8, ca8, he8⟩ := hr8.ret
  have bt8 := bt6.cl_step ca8 he8
  have fq8 := bt6.mdq he8
  obtain ⟨st, hv9, hst⟩ : ∃ st : Option BL, v8 = .tup [(false, [ii m'.last]), (true, [ii m'.ans.code, .nilslc, .str m'.ans.span.lo, .str m'.ans.span.hi, ii m'.ans.group, ii m'.ans.gen, ii m'.ans.old, ii m'.ans.to, ii m'.ans.do_, .str m'.ans.at_, bs st]), (false, [.bool (decide (0 < m'.last))])] ∧ ls st = ls m'.ans.state := by
    rw [rl5.told] at hv8
    rcases rl5.ansr with ⟨e1, e2⟩ | ⟨e1, e2, _⟩
    · rw [if_pos e1] at hv8
      exact ⟨none, by rw [hv8, e1, e2]; rfl, by rw [e2]⟩
    · have hd : decide (0 < m'.last) = true := by simp [e1]
      rw [if_neg (by omega), e2] at hv8
      exact ⟨some (ls (norm m'.ans).state), by rw [hv8, hd]; rfl, rfl⟩
  clear hv8 hr8
  subst hv9
  have hs8 := new_set h8 ⟨0, [11], true, zA⟩ ⟨0, [11], true, [ii m'.ans.code, .nilslc, .str m'.ans.span.lo, .str m'.ans.span.hi, ii m'.ans.group, ii m'.ans.gen, ii m'.ans.old, ii m'.ans.to, ii m'.ans.do_, .str m'.ans.at_, bs st]⟩
  have bt9 := bt8.new ⟨0, [11], true, [ii m'.ans.code, .nilslc, .str m'.ans.span.lo, .str m'.ans.span.hi, ii m'.ans.group, ii m'.ans.gen, ii m'.ans.old, ii m'.ans.to, ii m'.ans.do_, .str m'.ans.at_, bs st]⟩
  have f8 : (h8.new ⟨0, [11], true, [ii m'.ans.code, .nilslc, .str m'.ans.span.lo, .str m'.ans.span.hi, ii m'.ans.group, ii m'.ans.gen, ii m'.ans.old, ii m'.ans.to, ii m'.ans.do_, .str m'.ans.at_, bs st]⟩).f h8.next = some ⟨0, [11], true, [ii m'.ans.code, .nilslc, .str m'.ans.span.lo, .str m'.ans.span.hi, ii m'.ans.group, ii m'.ans.gen, ii m'.ans.old, ii m'.ans.to, ii m'.ans.do_, .str m'.ans.at_, bs st]⟩ := by simp
  have fq9 : (h8.new ⟨0, [11], true, [ii m'.ans.code, .nilslc, .str m'.ans.span.lo, .str m'.ans.span.hi, ii m'.ans.group, ii m'.ans.gen, ii m'.ans.old, ii m'.ans.to, ii m'.ans.do_, .str m'.ans.at_, bs st]⟩).f q = H6.f q := by
    have h1 := bt8.md.1
    rw [new_at, if_neg (by omega)]; exact fq8
  generalize hH8 : h8.new ⟨0, [11], true, [ii m'.ans.code, .nilslc, .str m'.ans.span.lo, .str m'.ans.span.hi, ii m'.ans.group, ii m'.ans.gen, ii m'.ans.old, ii m'.ans.to, ii m'.ans.do_, .str m'.ans.at_, bs st]⟩ = H8 at *
  have mz := bt9.md
  obtain ⟨_, sm, fm9, hsm9, _⟩ := mz
  have fm6 : H6.f q = some ⟨0, [30], true, mdC m' sm⟩ := by rw [← fq9]; exact fm9
  have hbz := busy_cl bt9.cl
  obtain ⟨oc, hoc, e9⟩ := cached_cl bt9.cl (by have := rl5.len.1; omega)
  have e10 := same_c fm9 hsm9 rl5 hoc
  have e11 := sameAns_c m'.ans.code m'.ans.span.lo m'.ans.span.hi m'.ans.group m'.ans.gen m'.ans.old m'.ans.to m'.ans.do_ m'.ans.at_ st m'.ans.state hst H8
  have g2 : sub (mdC m' sm) 2 1 = some [ii m'.seq] := rfl
  have g5 : sub (mdC m' sm) 5 1 = some [.bool m'.busy] := rfl
  have g17 : sub (mdC m' sm) 17 1 = some [sm] := rfl
  have g18 : sub (mdC m' sm) 18 1 = some [ii m'.last] := rfl
  have g19 : sub (mdC m' sm) 19 11 = some [ii m'.ans.code, .nilslc, .str m'.ans.span.lo, .str m'.ans.span.hi, ii m'.ans.group, ii m'.ans.gen, ii m'.ans.old, ii m'.ans.to, ii m'.ans.do_, .str m'.ans.at_, bs m'.ans.state] := rfl
  have gl : (mdC m' sm).length = 30 := rfl
  have hw19 := sub_all hcl6
  rw [rl5.busy] at hbz
  generalize mdC m' sm = M at *
  simp [tlC, codeOf, Tryz.f8, restC, isBlk, -K_seq, -K_region, -K_block, -K_cond]
  cases sends
  · obtain ⟨s1, e12, e13, _⟩ := as6
    have e14 : s = .nilslc := by cases e12; exact e13
    subst e14
    first | (refine hide ?_; intro Q1 hQ1) | have hQ1 := True.intro
    repeat' (first
      | (replace hQ1 := hQ1; simp [frM, d6, hs6, hH6, hH8, hcl6, f6c, fm6, d8, hs8, f8, fm9, hbz, e9, e10, e11, g2, g5, g17, g18, g19, gl, hw19])
      | (refine hQ1 _ _ _ ?_; clear hQ1 Q1; first | simp only [] | simp [frM, d6, hs6, hH6, hH8, hcl6, f6c, fm6, d8, hs8, f8, fm9, hbz, e9, e10, e11, g2, g5, g17, g18, g19, gl, hw19] | skip)
      | (refine hadQ (by assumption) ?_; (try clear hQ1); first | simp only [] | simp [frM, d6, hs6, hH6, hH8, hcl6, f6c, fm6, d8, hs8, f8, fm9, hbz, e9, e10, e11, g2, g5, g17, g18, g19, gl, hw19] | skip)
      | ((fail_if_success replace hQ1 := hQ1); (first | refine hide ?_ | refine hideS ?_ | refine hideB ?_); intro Q1 hQ1)
      | (first | refine dF (id := 37) [0, 1, 2, 3, 4, 5, 6, 7, 8, 9] [] ?_ | refine dF (id := 46) [0, 1, 2, 3, 4, 5, 6, 7, 8, 9, 10] [] ?_ | refine dF (id := 49) [0, 1, 2, 3, 4, 5, 6, 7, 8, 9, 10, 11, 12, 13, 14, 15, 16, 17, 18, 19, 20, 21, 22] [] ?_ | refine dF (id := 52) [0, 1, 2, 3, 4, 5, 6, 7, 8, 9, 10, 11, 12, 13, 14, 15, 16, 17, 18, 19, 20, 21, 22, 23, 24, 25, 26, 27, 28, 29, 30, 31, 32, 33, 34, 35, 36, 37, 38, 39, 40, 41, 42] [(1, 5), (35, 39)] ?_)
      | (first | apply cF | apply wN | apply wS) <;> intro hcnd <;> (try simp only [hcnd]) <;> (try simp [-List.isEmpty_iff, -List.isEmpty_eq_false_iff] at hcnd))
    all_goals exact ⟨rfl, c', m', bt9, rl5, hsq5, hmi5, hmn5, ex_get' (by rfl)⟩
  · obtain ⟨s1, e12, e13⟩ := asks_rel rl5 (hbs rfl) as6
    cases e12
    rw [hmi5, hmn5] at e13
    first | (refine hide ?_; intro Q2 hQ2) | have hQ2 := True.intro
    repeat' (first
      | (replace hQ2 := hQ2; simp [frM, d6, hs6, hH6, hH8, hcl6, f6c, fm6, d8, hs8, f8, fm9, hbz, e9, e10, e11, g2, g5, g17, g18, g19, gl, hw19, e13])
      | (refine hQ2 _ _ _ ?_; clear hQ2 Q2; first | simp only [] | simp [frM, d6, hs6, hH6, hH8, hcl6, f6c, fm6, d8, hs8, f8, fm9, hbz, e9, e10, e11, g2, g5, g17, g18, g19, gl, hw19, e13] | skip)
      | (refine hadQ (by assumption) ?_; (try clear hQ2); first | simp only [] | simp [frM, d6, hs6, hH6, hH8, hcl6, f6c, fm6, d8, hs8, f8, fm9, hbz, e9, e10, e11, g2, g5, g17, g18, g19, gl, hw19, e13] | skip)
      | ((fail_if_success replace hQ2 := hQ2); (first | refine hide ?_ | refine hideS ?_ | refine hideB ?_); intro Q2 hQ2)
      | (first | refine dF (id := 37) [0, 1, 2, 3, 4, 5, 6, 7, 8, 9] [] ?_ | refine dF (id := 46) [0, 1, 2, 3, 4, 5, 6, 7, 8, 9, 10] [] ?_ | refine dF (id := 49) [0, 1, 2, 3, 4, 5, 6, 7, 8, 9, 10, 11, 12, 13, 14, 15, 16, 17, 18, 19, 20, 21, 22] [] ?_ | refine dF (id := 52) [0, 1, 2, 3, 4, 5, 6, 7, 8, 9, 10, 11, 12, 13, 14, 15, 16, 17, 18, 19, 20, 21, 22, 23, 24, 25, 26, 27, 28, 29, 30, 31, 32, 33, 34, 35, 36, 37, 38, 39, 40, 41, 42] [(1, 5), (35, 39)] ?_)
      | (first | apply cF | apply wN | apply wS) <;> intro hcnd <;> (try simp only [hcnd]) <;> (try simp [-List.isEmpty_iff, -List.isEmpty_eq_false_iff] at hcnd))
    all_goals exact ⟨rfl, c', m', bt9, rl5, hsq5, hmi5, hmn5, ex_get' (by rfl)⟩
end Go.Proofs.YtmhbdpgflomihaaGreat
