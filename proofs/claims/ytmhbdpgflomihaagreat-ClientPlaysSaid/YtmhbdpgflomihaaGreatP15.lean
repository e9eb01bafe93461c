/- A part of a proof over the abstract machine. No conditions. -/
import Derived.Test.YtmhbdpgflomihaaGreatP14
namespace Go.Proofs.YtmhbdpgflomihaaGreat
open Go Go.Ab Wm NumPlain
set_option linter.unusedSimpArgs false
set_option linter.unnecessarySimpa false
set_option linter.unusedVariables false
set_option maxRecDepth 10000
set_option maxHeartbeats 8000000
def isReg (id : Nat) : Code → Bool
  | .region i _ _ => i == id
  | _ => false
def fromC (id : Nat) : Code → Option Code
  | .seq (.seq a c) r => if isReg id a then some (.seq c r) else match fromC id (.seq a c) with | some d => some d | none => fromC id r
  | .seq a b => match fromC id a with | some c => some c | none => fromC id b
  | .block _ b => fromC id b
  | .cond _ a b => match fromC id a with | some c => some c | none => fromC id b
  | .loop b => fromC id b
  | _ => none
noncomputable def gC : Code := (fromC 43 (codeOf Tryz.f8)).getD .skip
def frG (kid n : Int) (L : AS) (p q i x : Nat) (g : Int) (t : Nat) (B : Bool) (j : Nat → AV) : Fr := ((.one (ii kid)) :: (.one (ii n)) :: (.one L) :: j 3 :: j 4 :: j 5 :: (.one (.bool false)) :: (.one (.ptr p 0 0)) :: (.one (.ptr q 0 0)) :: (.one (ii i)) :: (.one (.ptr x 0 0)) :: (.one (ii g)) :: j 12 :: (.one .nilslc) :: (.one (.bool false)) :: j 15 :: j 16 :: j 17 :: j 18 :: j 19 :: (.one (.ptr t 0 0)) :: j 21 :: j 22 :: j 23 :: j 24 :: j 25 :: j 26 :: j 27 :: j 28 :: j 29 :: j 30 :: j 31 :: j 32 :: j 33 :: j 34 :: j 35 :: j 36 :: j 37 :: j 38 :: j 39 :: j 40 :: j 41 :: j 42 :: j 43 :: j 44 :: j 45 :: j 46 :: j 47 :: j 48 :: j 49 :: j 50 :: j 51 :: j 52 :: j 53 :: j 54 :: j 55 :: j 56 :: j 57 :: j 58 :: j 59 :: j 60 :: j 61 :: j 62 :: j 63 :: j 64 :: j 65 :: j 66 :: j 67 :: j 68 :: j 69 :: j 70 :: j 71 :: j 72 :: j 73 :: j 74 :: j 75 :: j 76 :: j 77 :: j 78 :: j 79 :: j 80 :: j 81 :: j 82 :: j 83 :: j 84 :: j 85 :: j 86 :: j 87 :: j 88 :: j 89 :: j 90 :: j 91 :: j 92 :: j 93 :: j 94 :: j 95 :: j 96 :: j 97 :: j 98 :: j 99 :: j 100 :: j 101 :: j 102 :: j 103 :: j 104 :: j 105 :: j 106 :: j 107 :: j 108 :: j 109 :: j 110 :: j 111 :: j 112 :: j 113 :: j 114 :: j 115 :: j 116 :: j 117 :: j 118 :: j 119 :: j 120 :: j 121 :: j 122 :: j 123 :: j 124 :: j 125 :: j 126 :: j 127 :: j 128 :: j 129 :: j 130 :: j 131 :: j 132 :: j 133 :: j 134 :: j 135 :: j 136 :: j 137 :: j 138 :: j 139 :: j 140 :: j 141 :: j 142 :: j 143 :: j 144 :: j 145 :: j 146 :: j 147 :: j 148 :: j 149 :: j 150 :: j 151 :: j 152 :: j 153 :: j 154 :: j 155 :: j 156 :: j 157 :: j 158 :: j 159 :: j 160 :: j 161 :: j 162 :: j 163 :: j 164 :: j 165 :: j 166 :: j 167 :: j 168 :: j 169 :: j 170 :: (.one (.bool B)) :: j 172 :: j 173 :: j 174 :: j 175 :: j 176 :: j 177 :: j 178 :: j 179 :: j 180 :: j 181 :: j 182 :: j 183 :: j 184 :: j 185 :: j 186 :: j 187 :: j 188 :: j 189 :: j 190 :: j 191 :: j 192 :: j 193 :: j 194 :: j 195 :: j 196 :: j 197 :: j 198 :: j 199 :: j 200 :: j 201 :: j 202 :: j 203 :: j 204 :: j 205 :: j 206 :: j 207 :: j 208 :: j 209 :: j 210 :: j 211 :: j 212 :: j 213 :: j 214 :: j 215 :: j 216 :: j 217 :: j 218 :: j 219 :: j 220 :: j 221 :: j 222 :: j 223 :: j 224 :: j 225 :: j 226 :: j 227 :: j 228 :: j 229 :: j 230 :: j 231 :: j 232 :: j 233 :: j 234 :: j 235 :: j 236 :: j 237 :: j 238 :: j 239 :: j 240 :: j 241 :: j 242 :: j 243 :: j 244 :: j 245 :: j 246 :: j 247 :: j 248 :: j 249 :: j 250 :: j 251 :: j 252 :: j 253 :: j 254 :: j 255 :: j 256 :: j 257 :: j 258 :: j 259 :: j 260 :: j 261 :: j 262 :: j 263 :: j 264 :: j 265 :: j 266 :: j 267 :: j 268 :: j 269 :: j 270 :: j 271 :: j 272 :: j 273 :: [])
theorem got_c {kid n : Int} {p q i xb : Nat} {c : Cl} {m : Md} {h : H} (L : AS) (x_kind x_a x_b x_group x_code : Int) (o_kind : Int) (o_row : Int) (o_hi : Int) (o_most : Int) (o_col : Int) (o_has : Bool) (o_want : Bool) (o_v_text : Bool) (o_v_n : Int) (o_v_x : Nat) (o_v_b : Option BL) (o_l : Option (List KC)) (hgr : I64 x_group) (w : Sw kid n p q i xb ⟨0, [17], true, [ii x_kind, ii x_a, ii x_b, ii x_group, ii x_code, ii o_kind, ii o_row, ii o_hi, ii o_most, ii o_col, .bool o_has, .bool o_want, .bool o_v_text, ii o_v_n, .flt o_v_x, bs o_v_b, sl 7 encKC o_l]⟩ c m h) (C7 : Blk) (cd : Int) (hcd : 0 ≤ cd ∧ cd ≤ 255) (g : Int) (B : Bool) (j : Nat → AV) :
    Does K gC (frG kid n L p q i xb g (h.next + 1) B j) ((h.new C7).new ⟨0, [11], true, ansC (ansN cd 0 0)⟩) (EndR kid n L p q i) := by
  have rl := w.rl
  have hid : 0 ≤ kid ∧ kid < 4 := by rw [← w.id]; exact rl.idb
  have hsq := w.seq
  have ais := ansN_is (code := cd) (g := 0) (n := 0) hcd (by omega) (by omega)
  have bt1 := (w.bt.new C7).new ⟨0, [11], true, ansC (ansN cd 0 0)⟩
  have hw := within_c x_group 0 3 (by omega) (by omega) (by omega) hgr
  have hr := fun G => reply_c G kid m.seq hid _ ais
  have hob := fun G (hG : 0 < G) => on_both w bt1 G _ ais (fun e => by omega)
  have hxl := w.xlt
  have fx : ((h.new C7).new ⟨0, [11], true, ansC (ansN cd 0 0)⟩).f xb = some ⟨0, [17], true, [ii x_kind, ii x_a, ii x_b, ii x_group, ii x_code, ii o_kind, ii o_row, ii o_hi, ii o_most, ii o_col, .bool o_has, .bool o_want, .bool o_v_text, ii o_v_n, .flt o_v_x, bs o_v_b, sl 7 encKC o_l]⟩ := by rw [new_at, if_neg (by simp; omega), new_at, if_neg (by omega)]; exact w.fx
  have fa : ((h.new C7).new ⟨0, [11], true, ansC (ansN cd 0 0)⟩).f (h.next + 1) = some ⟨0, [11], true, ansC (ansN cd 0 0)⟩ := by rw [new_at, if_pos (by simp)]
  obtain ⟨hqlt, sm, fm, _, _⟩ := bt1.md
  have hplt := bt1.cl.1
  have hpn : h.next + 1 ≠ p := by have := w.bt.cl.1; omega
  have hq1 : clQ ((h.new C7).new ⟨0, [11], true, ansC (ansN cd 0 0)⟩) p ≠ some (h.next + 1) := fun e => by
    have h2 : clQ ((h.new C7).new ⟨0, [11], true, ansC (ansN cd 0 0)⟩) p = clQ h p := by have := w.bt.cl.1; simp only [clQ]; rw [new_at, if_neg (by simp; omega), new_at, if_neg (by omega)]
    rw [h2] at e; have := w.bt.cl.qlt e; omega
  have g2 : sub (mdC m sm) 2 1 = some [ii m.seq] := rfl
  have gl : (mdC m sm).length = 30 := rfl
  have hM0 : Mid kid n p q i c m ((h.new C7).new ⟨0, [11], true, ansC (ansN cd 0 0)⟩) .nilslc false := ⟨bt1, rl, by omega, w.id, w.n, ⟨h, .nilslc, rfl, rfl, by simp [ownB]⟩, (fun h => by cases h)⟩
  have hn1 : h.next + 1 < ((h.new C7).new ⟨0, [11], true, ansC (ansN cd 0 0)⟩).next := by simp
  generalize (h.new C7).new ⟨0, [11], true, ansC (ansN cd 0 0)⟩ = H1 at *
  generalize hA : ansN cd 0 0 = A at *
  generalize hAB : ansB0 A = AB at *
  have eA : ansC A = [ii cd, .nilslc, .str [], .str [], ii 0, ii 0, ii 0, ii 0, ii 0, .str [], .nilslc] := by rw [← hA]; rfl
  rw [eA] at fa
  simp only [eA] at hr hob
  generalize mdC m sm = M at *
  clear hA hAB eA ais bt1
  simp [gC, codeOf, Tryz.f8, fromC, isReg, -K_seq, -K_region, -K_block, -K_cond]
  obtain ⟨G, hGd⟩ : ∃ G, (if B then withinI x_group 0 3 else g) = G := ⟨_, rfl⟩
  generalize withinI x_group 0 3 = G2 at *
  by_cases hG : 0 < G
  · have hGb : decide (0 < G) = true := by simp [hG]
    obtain ⟨s, h3, d3, he3, ⟨M3, fm3, gl3, g53⟩, k1, k2⟩ := hob G hG
    have f3 : h3.f (h.next + 1) = some ⟨0, [11], true, [ii cd, .nilslc, .str [], .str [], ii 0, ii 0, ii 0, ii 0, ii 0, .str [], .nilslc]⟩ := by rw [he3.2.1 _ hn1 hpn hq1]; exact fa
    have hrG := hr G
    clear hr hob hM0
    cases hbz : m.busy
    · obtain ⟨c', m', hMid⟩ := k2 hbz
      rw [hbz] at g53
      cases B
      · simp only [Bool.false_eq_true, if_false] at hGd
        subst hGd
        first | (refine hide ?_; intro Q1 hQ1) | have hQ1 := True.intro
        repeat' (first
          | (replace hQ1 := hQ1; simp [frG, fx, hw, fm, g2, gl, fa, hG, hGb, hrG, d3, fm3, gl3, g53, f3])
          | (refine hQ1 _ _ _ ?_; clear hQ1 Q1; first | simp only [] | simp [frG, fx, hw, fm, g2, gl, fa, hG, hGb, hrG, d3, fm3, gl3, g53, f3] | skip)
          | (refine hadQ (by assumption) ?_; (try clear hQ1); first | simp only [] | simp [frG, fx, hw, fm, g2, gl, fa, hG, hGb, hrG, d3, fm3, gl3, g53, f3] | skip)
          | ((fail_if_success replace hQ1 := hQ1); (first | refine hide ?_ | refine hideS ?_ | refine hideB ?_); intro Q1 hQ1)
          | (first | refine dF (id := 37) [0, 1, 2, 3, 4, 5, 6, 7, 8, 9] [] ?_ | refine dF (id := 46) [0, 1, 2, 3, 4, 5, 6, 7, 8, 9, 10] [] ?_ | refine dF (id := 49) [0, 1, 2, 3, 4, 5, 6, 7, 8, 9, 10, 11, 12, 13, 14, 15, 16, 17, 18, 19, 20, 21, 22] [] ?_ | refine dF (id := 52) [0, 1, 2, 3, 4, 5, 6, 7, 8, 9, 10, 11, 12, 13, 14, 15, 16, 17, 18, 19, 20, 21, 22, 23, 24, 25, 26, 27, 28, 29, 30, 31, 32, 33, 34, 35, 36, 37, 38, 39, 40, 41, 42] [(1, 5), (35, 39)] ?_)
          | (first | apply cF | apply wN | apply wS) <;> intro hcnd <;> (try simp only [hcnd]) <;> (try simp [-List.isEmpty_iff, -List.isEmpty_eq_false_iff] at hcnd))
        all_goals exact ⟨rfl, _, _, _, _, hMid, ex_get' (by rfl)⟩
      · simp only [if_true] at hGd
        subst hGd
        first | (refine hide ?_; intro Q2 hQ2) | have hQ2 := True.intro
        repeat' (first
          | (replace hQ2 := hQ2; simp [frG, fx, hw, fm, g2, gl, fa, hG, hGb, hrG, d3, fm3, gl3, g53, f3])
          | (refine hQ2 _ _ _ ?_; clear hQ2 Q2; first | simp only [] | simp [frG, fx, hw, fm, g2, gl, fa, hG, hGb, hrG, d3, fm3, gl3, g53, f3] | skip)
          | (refine hadQ (by assumption) ?_; (try clear hQ2); first | simp only [] | simp [frG, fx, hw, fm, g2, gl, fa, hG, hGb, hrG, d3, fm3, gl3, g53, f3] | skip)
          | ((fail_if_success replace hQ2 := hQ2); (first | refine hide ?_ | refine hideS ?_ | refine hideB ?_); intro Q2 hQ2)
          | (first | refine dF (id := 37) [0, 1, 2, 3, 4, 5, 6, 7, 8, 9] [] ?_ | refine dF (id := 46) [0, 1, 2, 3, 4, 5, 6, 7, 8, 9, 10] [] ?_ | refine dF (id := 49) [0, 1, 2, 3, 4, 5, 6, 7, 8, 9, 10, 11, 12, 13, 14, 15, 16, 17, 18, 19, 20, 21, 22] [] ?_ | refine dF (id := 52) [0, 1, 2, 3, 4, 5, 6, 7, 8, 9, 10, 11, 12, 13, 14, 15, 16, 17, 18, 19, 20, 21, 22, 23, 24, 25, 26, 27, 28, 29, 30, 31, 32, 33, 34, 35, 36, 37, 38, 39, 40, 41, 42] [(1, 5), (35, 39)] ?_)
          | (first | apply cF | apply wN | apply wS) <;> intro hcnd <;> (try simp only [hcnd]) <;> (try simp [-List.isEmpty_iff, -List.isEmpty_eq_false_iff] at hcnd))
        all_goals exact ⟨rfl, _, _, _, _, hMid, ex_get' (by rfl)⟩
    · obtain ⟨h4, d4, c', m', hMid⟩ := k1 hbz
      rw [hbz] at g53
      generalize (onM m G A).2 = sd at *
      cases B
      · simp only [Bool.false_eq_true, if_false] at hGd
        subst hGd
        first | (refine hide ?_; intro Q3 hQ3) | have hQ3 := True.intro
        repeat' (first
          | (replace hQ3 := hQ3; simp [frG, fx, hw, fm, g2, gl, fa, hG, hGb, hrG, d3, fm3, gl3, g53, f3, d4])
          | (refine hQ3 _ _ _ ?_; clear hQ3 Q3; first | simp only [] | simp [frG, fx, hw, fm, g2, gl, fa, hG, hGb, hrG, d3, fm3, gl3, g53, f3, d4] | skip)
          | (refine hadQ (by assumption) ?_; (try clear hQ3); first | simp only [] | simp [frG, fx, hw, fm, g2, gl, fa, hG, hGb, hrG, d3, fm3, gl3, g53, f3, d4] | skip)
          | ((fail_if_success replace hQ3 := hQ3); (first | refine hide ?_ | refine hideS ?_ | refine hideB ?_); intro Q3 hQ3)
          | (first | refine dF (id := 37) [0, 1, 2, 3, 4, 5, 6, 7, 8, 9] [] ?_ | refine dF (id := 46) [0, 1, 2, 3, 4, 5, 6, 7, 8, 9, 10] [] ?_ | refine dF (id := 49) [0, 1, 2, 3, 4, 5, 6, 7, 8, 9, 10, 11, 12, 13, 14, 15, 16, 17, 18, 19, 20, 21, 22] [] ?_ | refine dF (id := 52) [0, 1, 2, 3, 4, 5, 6, 7, 8, 9, 10, 11, 12, 13, 14, 15, 16, 17, 18, 19, 20, 21, 22, 23, 24, 25, 26, 27, 28, 29, 30, 31, 32, 33, 34, 35, 36, 37, 38, 39, 40, 41, 42] [(1, 5), (35, 39)] ?_)
          | (first | apply cF | apply wN | apply wS) <;> intro hcnd <;> (try simp only [hcnd]) <;> (try simp [-List.isEmpty_iff, -List.isEmpty_eq_false_iff] at hcnd))
        all_goals exact ⟨rfl, _, _, _, _, hMid, ex_get' (by rfl)⟩
      · simp only [if_true] at hGd
        subst hGd
        first | (refine hide ?_; intro Q4 hQ4) | have hQ4 := True.intro
        repeat' (first
          | (replace hQ4 := hQ4; simp [frG, fx, hw, fm, g2, gl, fa, hG, hGb, hrG, d3, fm3, gl3, g53, f3, d4])
          | (refine hQ4 _ _ _ ?_; clear hQ4 Q4; first | simp only [] | simp [frG, fx, hw, fm, g2, gl, fa, hG, hGb, hrG, d3, fm3, gl3, g53, f3, d4] | skip)
          | (refine hadQ (by assumption) ?_; (try clear hQ4); first | simp only [] | simp [frG, fx, hw, fm, g2, gl, fa, hG, hGb, hrG, d3, fm3, gl3, g53, f3, d4] | skip)
          | ((fail_if_success replace hQ4 := hQ4); (first | refine hide ?_ | refine hideS ?_ | refine hideB ?_); intro Q4 hQ4)
          | (first | refine dF (id := 37) [0, 1, 2, 3, 4, 5, 6, 7, 8, 9] [] ?_ | refine dF (id := 46) [0, 1, 2, 3, 4, 5, 6, 7, 8, 9, 10] [] ?_ | refine dF (id := 49) [0, 1, 2, 3, 4, 5, 6, 7, 8, 9, 10, 11, 12, 13, 14, 15, 16, 17, 18, 19, 20, 21, 22] [] ?_ | refine dF (id := 52) [0, 1, 2, 3, 4, 5, 6, 7, 8, 9, 10, 11, 12, 13, 14, 15, 16, 17, 18, 19, 20, 21, 22, 23, 24, 25, 26, 27, 28, 29, 30, 31, 32, 33, 34, 35, 36, 37, 38, 39, 40, 41, 42] [(1, 5), (35, 39)] ?_)
          | (first | apply cF | apply wN | apply wS) <;> intro hcnd <;> (try simp only [hcnd]) <;> (try simp [-List.isEmpty_iff, -List.isEmpty_eq_false_iff] at hcnd))
        all_goals exact ⟨rfl, _, _, _, _, hMid, ex_get' (by rfl)⟩
  · have hGb : decide (0 < G) = false := by simp [hG]
    clear hr hob
    cases B
    · simp only [Bool.false_eq_true, if_false] at hGd
      subst hGd
      first | (refine hide ?_; intro Q5 hQ5) | have hQ5 := True.intro
      repeat' (first
        | (replace hQ5 := hQ5; simp [frG, fx, hw, hG, hGb])
        | (refine hQ5 _ _ _ ?_; clear hQ5 Q5; first | simp only [] | simp [frG, fx, hw, hG, hGb] | skip)
        | (refine hadQ (by assumption) ?_; (try clear hQ5); first | simp only [] | simp [frG, fx, hw, hG, hGb] | skip)
        | ((fail_if_success replace hQ5 := hQ5); (first | refine hide ?_ | refine hideS ?_ | refine hideB ?_); intro Q5 hQ5)
        | (first | refine dF (id := 37) [0, 1, 2, 3, 4, 5, 6, 7, 8, 9] [] ?_ | refine dF (id := 46) [0, 1, 2, 3, 4, 5, 6, 7, 8, 9, 10] [] ?_ | refine dF (id := 49) [0, 1, 2, 3, 4, 5, 6, 7, 8, 9, 10, 11, 12, 13, 14, 15, 16, 17, 18, 19, 20, 21, 22] [] ?_ | refine dF (id := 52) [0, 1, 2, 3, 4, 5, 6, 7, 8, 9, 10, 11, 12, 13, 14, 15, 16, 17, 18, 19, 20, 21, 22, 23, 24, 25, 26, 27, 28, 29, 30, 31, 32, 33, 34, 35, 36, 37, 38, 39, 40, 41, 42] [(1, 5), (35, 39)] ?_)
        | (first | apply cF | apply wN | apply wS) <;> intro hcnd <;> (try simp only [hcnd]) <;> (try simp [-List.isEmpty_iff, -List.isEmpty_eq_false_iff] at hcnd))
      all_goals exact ⟨rfl, _, _, _, _, hM0, ex_get' (by rfl)⟩
    · simp only [if_true] at hGd
      subst hGd
      first | (refine hide ?_; intro Q6 hQ6) | have hQ6 := True.intro
      repeat' (first
        | (replace hQ6 := hQ6; simp [frG, fx, hw, hG, hGb])
        | (refine hQ6 _ _ _ ?_; clear hQ6 Q6; first | simp only [] | simp [frG, fx, hw, hG, hGb] | skip)
        | (refine hadQ (by assumption) ?_; (try clear hQ6); first | simp only [] | simp [frG, fx, hw, hG, hGb] | skip)
        | ((fail_if_success replace hQ6 := hQ6); (first | refine hide ?_ | refine hideS ?_ | refine hideB ?_); intro Q6 hQ6)
        | (first | refine dF (id := 37) [0, 1, 2, 3, 4, 5, 6, 7, 8, 9] [] ?_ | refine dF (id := 46) [0, 1, 2, 3, 4, 5, 6, 7, 8, 9, 10] [] ?_ | refine dF (id := 49) [0, 1, 2, 3, 4, 5, 6, 7, 8, 9, 10, 11, 12, 13, 14, 15, 16, 17, 18, 19, 20, 21, 22] [] ?_ | refine dF (id := 52) [0, 1, 2, 3, 4, 5, 6, 7, 8, 9, 10, 11, 12, 13, 14, 15, 16, 17, 18, 19, 20, 21, 22, 23, 24, 25, 26, 27, 28, 29, 30, 31, 32, 33, 34, 35, 36, 37, 38, 39, 40, 41, 42] [(1, 5), (35, 39)] ?_)
        | (first | apply cF | apply wN | apply wS) <;> intro hcnd <;> (try simp only [hcnd]) <;> (try simp [-List.isEmpty_iff, -List.isEmpty_eq_false_iff] at hcnd))
      all_goals exact ⟨rfl, _, _, _, _, hM0, ex_get' (by rfl)⟩
theorem got_apply {a b : Code} {fr : Fr} {h : H} {Q : Ex → Fr → H → Prop} {c : Option AS} {F : (Nat → AV) → Fr} (hfr : ∃ j, fr = F j) (hl : ∀ j, condK K a b (F j) h Q c) : condK K a b fr h Q c := by
  obtain ⟨j, rfl⟩ := hfr; exact hl j
theorem case_group {kid n : Int} {p q i xb : Nat} {c : Cl} {m : Md} {h : H} (L : AS) (x_kind x_a x_b x_group x_code : Int) (o_kind : Int) (o_row : Int) (o_hi : Int) (o_most : Int) (o_col : Int) (o_has : Bool) (o_want : Bool) (o_v_text : Bool) (o_v_n : Int) (o_v_x : Nat) (o_v_b : Option BL) (o_l : Option (List KC)) (hgr : I64 x_group) (hc : I64 x_code) (w : Sw kid n p q i xb ⟨0, [17], true, [ii x_kind, ii x_a, ii x_b, ii x_group, ii x_code, ii o_kind, ii o_row, ii o_hi, ii o_most, ii o_col, .bool o_has, .bool o_want, .bool o_v_text, ii o_v_n, .flt o_v_x, bs o_v_b, sl 7 encKC o_l]⟩ c m h) (g : Int) (t : Nat) (k9 : Int) (hk : k9 = 5 ∨ k9 = 6 ∨ k9 = 7) (j : Nat → AV) :
    Does K swC (frS kid n L p q i xb g t k9 j) h (EndR kid n L p q i) := by
  have hfx := w.fx
  have hxl := w.xlt
  have hxn : ¬ xb = h.next := by omega
  have hxn2 : ¬ xb = h.next + 1 := by omega
  have hw7 := m20_c x_code hc
  have hb7 := m20_bounds x_code
  have ht7 : (m20 x_code).tmod 7 = m20 x_code % 7 := tmod_pos hb7.1
  obtain ⟨kn, hkn⟩ : ∃ kn : Nat, m20 x_code % 7 = kn := ⟨(m20 x_code % 7).toNat, by omega⟩
  have hkb : kn < 7 := by omega
  rw [hkn] at ht7
  have hai := arr_index (P := Tryz.prog) (t := 82) (size := 1) (b := h.next) (v := 0) (n := 7) (i := kn) Tryz.underlying82 (by simp) (by omega) hkb
  simp only [Nat.mul_one] at hai
  obtain ⟨cd, hcd, hsub⟩ : ∃ cd : Int, (0 ≤ cd ∧ cd ≤ 255) ∧ sub [ii 0, ii 25, ii 26, ii 4, ii 27, ii 12, ii 13] kn 1 = some [ii cd] := by
    rcases (show kn = 0 ∨ kn = 1 ∨ kn = 2 ∨ kn = 3 ∨ kn = 4 ∨ kn = 5 ∨ kn = 6 by omega) with rfl | rfl | rfl | rfl | rfl | rfl | rfl <;> exact ⟨_, by omega, rfl⟩
  have hk1 : kn + 1 ≤ 7 := by omega
  have eA : ansC (ansN cd 0 0) = [ii cd, .nilslc, .str [], .str [], ii 0, ii 0, ii 0, ii 0, ii 0, .str [], .nilslc] := rfl
  have hs := new_set (h.new ⟨0, [7], true, [ii 0, ii 25, ii 26, ii 4, ii 27, ii 12, ii 13]⟩) ⟨0, [11], true, [ii 0, .nilslc, .str [], .str [], ii 0, ii 0, ii 0, ii 0, ii 0, .str [], .nilslc]⟩ ⟨0, [11], true, [ii cd, .nilslc, .str [], .str [], ii 0, ii 0, ii 0, ii 0, ii 0, .str [], .nilslc]⟩
  simp only [new_next] at hs
  have hgot := fun j => got_c L x_kind x_a x_b x_group x_code o_kind o_row o_hi o_most o_col o_has o_want o_v_text o_v_n o_v_x o_v_b o_l hgr w ⟨0, [7], true, [ii 0, ii 25, ii 26, ii 4, ii 27, ii 12, ii 13]⟩ cd hcd g (decide (x_a.tmod 3 = 0)) j
  simp only [eA] at hgot
  generalize EndR kid n L p q i = E at *
  simp [gC, codeOf, Tryz.f8, fromC, isReg, frG] at hgot
  simp [swC, codeOf, Tryz.f8, blkC, -K_seq, -K_region, -K_block, -K_cond]
  rcases hk with rfl | rfl | rfl
  · simp [frS, hfx, hxn, hxn2, hw7, ht7, hai, hsub, hk1, hs]
    exact got_apply (F := frG kid n L p q i xb g (h.next + 1) (decide (x_a.tmod 3 = 0))) (ex_get' (by rfl)) fun j => hgot j
  · simp [frS, hfx, hxn, hxn2, hw7, ht7, hai, hsub, hk1, hs]
    exact got_apply (F := frG kid n L p q i xb g (h.next + 1) (decide (x_a.tmod 3 = 0))) (ex_get' (by rfl)) fun j => hgot j
  · simp [frS, hfx, hxn, hxn2, hw7, ht7, hai, hsub, hk1, hs]
    exact got_apply (F := frG kid n L p q i xb g (h.next + 1) (decide (x_a.tmod 3 = 0))) (ex_get' (by rfl)) fun j => hgot j
end Go.Proofs.YtmhbdpgflomihaaGreat
