/- A part of a proof over the abstract machine. No conditions. -/
import Derived.Test.YthdfhffpnoocbaaGreatW5
import Derived.Test.YthdfhffpnoocbaaGreatSeatF
import Derived.Test.YthdfhffpnoocbaaGreatAb5
import Derived.Test.YthdfhffpnoocbaaGreatAb5
import Derived.Test.YthdfhffpnoocbaaGreatAb5
namespace Go.Proofs.YthdfhffpnoocbaaGreat
open Go Go.Ab Wm
set_option linter.unusedSimpArgs false
set_option linter.unnecessarySimpa false
set_option linter.unusedVariables false
set_option maxRecDepth 10000
set_option maxHeartbeats 2000000
@[simp] theorem KP : K.P = Tryz.prog := rfl
structure It where
  kind : Int
  group : Int
  n : Int
  client : Int
  z : AS
def encIt (x : It) : List AS := [ii x.kind, ii x.group, ii x.n, ii x.client, x.z]
theorem len_it (x : It) : (encIt x).length = 5 := rfl
def roundL (g n k : Nat) : List It := ((List.range (g + 1)).flatMap fun a => (List.range n).map fun i => ⟨1, (a : Nat), (i : Nat), 0, .nilslc⟩) ++ (⟨1, 0, 100, 0, .nilslc⟩ :: ((List.range k).map fun i => ⟨1, 0, 101, (i : Nat), .nilslc⟩) ++ [⟨8, 0, 0, 0, .nilslc⟩])
def rdE (g n k b v nx : Nat) (ex : List Nat) : Entry := ⟨[.agg [ii g, ii n, ii k]], ⟨0, []⟩, .one (.slc b v 0 (roundL g n k).length 5 none), ⟨nx, [(b, ⟨v, (cat encIt (roundL g n k)).length :: ex, false, cat encIt (roundL g n k)⟩)]⟩⟩
theorem mS_round (ρ : Nat → Nat) : ∀ {l : List It}, (∀ x ∈ l, x.z = .nilslc) → mL ρ (cat encIt l) = cat encIt l
  | [], _ => rfl
  | x :: l, h => by
    have h1 := mS_round ρ (l := l) (fun y hy => h y (by simp [hy]))
    have := h x (by simp)
    simp [cat_cons, encIt, this, mS, mL, h1]
theorem round_nil (g n k : Nat) : ∀ x ∈ roundL g n k, x.z = .nilslc := by
  intro x hx
  simp only [roundL, List.mem_append, List.mem_flatMap, List.mem_map, List.mem_cons, List.not_mem_nil, or_false] at hx
  rcases hx with ⟨a, _, i, _, rfl⟩ | ((rfl | ⟨i, _, rfl⟩) | rfl) <;> rfl
def Laid (f : Nat) (args : List AV) (l : List It) (h : H) : Prop := ∃ s h', W K f args h = some (.ret (.one s) h') ∧ Sl h' 5 encIt s l ∧ h.next ≤ h'.next ∧ (∀ b, b < h.next → h'.f b = h.f b) ∧ ∀ b, ownB s = some b → h.next ≤ b
theorem laid_of {f g n k b v nx : Nat} {ex : List Nat} (he : EntryOk K f (rdE g n k b v nx ex)) (hb : b < nx) (h : H) : Laid f [.agg [ii g, ii n, ii k]] (roundL g n k) h := by
  obtain ⟨h', e1, e2, e3, e4⟩ := W_entry hp hRn he rfl (fun ρ => by simp [rdE, mV, mL, mS]) h
  have e5 := e3 b ⟨v, (cat encIt (roundL g n k)).length :: ex, false, cat encIt (roundL g n k)⟩ (by simp [rdE, findB])
  refine ⟨.slc (h.next + b) v 0 (roundL g n k).length 5 none, h', ?_, .inr ⟨h.next + b, v, [], rfl, by rw [e2]; simp [rdE]; omega, false, ex, ?_⟩, by rw [e2]; simp [rdE], e4, fun c hc => by simp [ownB] at hc; omega⟩
  · simpa [rdE, mV, mS] using e1
  · rw [e5]
    simp [mB, mS_round _ (round_nil g n k)]
end Go.Proofs.YthdfhffpnoocbaaGreat
