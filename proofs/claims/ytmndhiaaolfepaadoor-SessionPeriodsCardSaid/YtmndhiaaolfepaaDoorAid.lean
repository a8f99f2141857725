/- Small aids for the walks of the statements of law08. -/
import Derived.Test.YtmndhiaaolfepaaDoorLast
namespace Go.Proofs.YtmndhiaaolfepaaDoor
set_option linter.all false
open Go Go.RowKit
theorem Rd.take {w : World} {A : Option Addr} {sz : Nat} {xs : List (Array Value)} (h : Rd w A sz xs) (k : Nat) : Rd w A sz (xs.take k) :=
  ⟨fun j c hc => by
    rw [List.getElem?_take] at hc
    split at hc
    · exact h.at_ j c hc
    · cases hc⟩
theorem taken_valid {f : Fct} {b : Bool} (h : f.kind = 1 → b = f.valid) (h1 : b = true) (h2 : f.kind = 1) : f.valid = true := by rw [← h h2, h1]
theorem taken_not {f : Fct} {b : Bool} (h : f.kind = 1 → b = f.valid) (h1 : b = false ∨ ¬ f.kind = 1) : f.valid = false := by
  by_cases hk : f.kind = 1
  · rcases h1 with h1 | h1
    · rw [← h hk, h1]
    · exact absurd hk h1
  · exact valid_kind hk
theorem mineB_no {d : Int} {f : Fct} (h : f.valid = false) : mineB d f = false := by simp [mineB, h]
theorem othersB_no {d : Int} {f : Fct} (h : f.valid = false) : othersB d f = false := by simp [othersB, h]
theorem mineB_yes {d : Int} {f : Fct} (h : f.valid = true) : mineB d f = decide (f.device = d) := by simp [mineB, h]; rfl
theorem othersB_yes {d : Int} {f : Fct} (h : f.valid = true) : othersB d f = !decide (f.device = d) := by simp [othersB, h]; rfl
theorem keepsS_yes {f : Fct} {s : Strm} (h : s.device ≠ f.device ∨ s.second < f.second ∨ (s.second = f.second ∧ s.id < f.id)) : keepsS f s = true := by
  simp only [keepsS, Bool.or_eq_true, Bool.and_eq_true, Bool.not_eq_true', beq_eq_false_iff_ne, decide_eq_true_eq, beq_iff_eq]
  exact h
theorem keepsS_no {f : Fct} {s : Strm} (h : ¬ (s.device ≠ f.device ∨ s.second < f.second ∨ (s.second = f.second ∧ s.id < f.id))) : keepsS f s = false := by
  cases hk : keepsS f s with
  | false => rfl
  | true =>
    simp only [keepsS, Bool.or_eq_true, Bool.and_eq_true, Bool.not_eq_true', beq_eq_false_iff_ne, decide_eq_true_eq, beq_iff_eq] at hk
    exact absurd hk h
theorem filter_succ_yes {α : Type} {l ys : List α} {p : α → Bool} {i : Nat} {x : α} (h : l[i]? = some x) (hp : p x = true) (hy : ys = (l.take i).filter p) : ys ++ [x] = (l.take (i + 1)).filter p := by
  rw [take_succ h, List.filter_append, ← hy]; simp [hp]
theorem filter_succ_no {α : Type} {l ys : List α} {p : α → Bool} {i : Nat} {x : α} (h : l[i]? = some x) (hp : p x = false) (hy : ys = (l.take i).filter p) : ys = (l.take (i + 1)).filter p := by
  rw [take_succ h, List.filter_append, ← hy]; simp [hp]
theorem filter_take_le {α : Type} {l ys : List α} {p : α → Bool} {i : Nat} (hy : ys = (l.take i).filter p) : ys.length ≤ i := by
  rw [hy]; exact Nat.le_trans (List.length_filter_le _ _) (by simp; omega)
theorem filter_take_all {α : Type} {l ys : List α} {p : α → Bool} {i : Nat} (hy : ys = (l.take i).filter p) (hi : l.length ≤ i) : ys = l.filter p := by rw [hy, List.take_of_length_le hi]
end Go.Proofs.YtmndhiaaolfepaaDoor
