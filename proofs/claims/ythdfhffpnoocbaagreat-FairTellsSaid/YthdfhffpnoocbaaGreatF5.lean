/- A part of a proof over the abstract machine. No conditions. -/
import Derived.Test.YthdfhffpnoocbaaGreatF4
import Derived.Test.YthdfhffpnoocbaaGreatF3c
namespace Go.Proofs.YthdfhffpnoocbaaGreat
open Go Go.Ab Wm
set_option linter.unusedSimpArgs false
set_option linter.unnecessarySimpa false
set_option linter.unusedVariables false
set_option maxRecDepth 10000
set_option maxHeartbeats 8000000
theorem sameI_pl (a b : It) : sameI a b = FairPlain.same (pl a) (pl b) := by
  obtain ⟨k1, g1, n1, c1, z1⟩ := a
  obtain ⟨k2, g2, n2, c2, z2⟩ := b
  unfold sameI FairPlain.same pl
  simp only
  by_cases h1 : k1 = k2
  · subst h1
    by_cases h2 : k1 = 1
    · subst h2
      by_cases h3 : n1 = 100
      · subst h3
        simp only [beq_self_eq_true, Bool.true_and, and_self, if_true, ne_eq, not_true_eq_false, if_false]
        rw [Bool.eq_iff_iff]; simp
      · by_cases h4 : n1 = 101
        · subst h4
          simp only [beq_self_eq_true, Bool.true_and, h3, and_self, and_false, if_false, if_true, ne_eq, not_true_eq_false]
          rw [Bool.eq_iff_iff]; simp
        · simp only [beq_self_eq_true, Bool.true_and, h3, h4, and_false, if_false, ne_eq, not_true_eq_false]
          rw [Bool.eq_iff_iff]; simp
    · simp [h2]
  · have e1 : (k1 == k2) = false := by simp [h1]
    simp [e1, h1]
def repI (R : List It) : Nat → List It
  | 0 => []
  | t + 1 => repI R t ++ R
theorem repI_len (R : List It) : ∀ t, (repI R t).length = t * R.length
  | 0 => by simp [repI]
  | t + 1 => by rw [repI, List.length_append, repI_len R t, Nat.succ_mul]
theorem repI_pl (R : List It) : ∀ t, (repI R t).map pl = FairPlain.reps (R.map pl) t
  | 0 => rfl
  | t + 1 => by rw [repI, List.map_append, repI_pl R t]; rfl
theorem roundL_pl (g n k : Nat) : (roundL g n k).map pl = FairPlain.round g n k := by
  simp only [roundL, FairPlain.round, FairPlain.ticks, List.map_append, List.map_flatMap, List.map_map, List.map_cons, List.map_nil, pl, Function.comp_def, List.cons_append, List.nil_append]
theorem lay_z {l : List It} {M : List AS} {i : Nat} (hi : i < l.length) (hM : i * 5 + 5 ≤ M.length) (hs : sub M (i * 5) 5 = some (encIt l[i])) (x : AS) : lay M (i * 5 + 4) [x] = lay M (i * 5) (encIt { l[i] with z := x }) := by
  unfold sub at hs
  rw [if_pos hM] at hs
  simp only [Option.some.injEq] at hs
  have h4 : M.take (i * 5 + 4) = M.take (i * 5) ++ [ii l[i].kind, ii l[i].group, ii l[i].n, ii l[i].client] := by
    rw [List.take_add]
    congr 1
    have : (M.drop (i * 5)).take 4 = ((M.drop (i * 5)).take 5).take 4 := by rw [List.take_take]; rfl
    rw [this, hs]; rfl
  unfold lay
  rw [h4]
  simp [encIt]
end Go.Proofs.YthdfhffpnoocbaaGreat
