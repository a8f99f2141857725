/- Aids for the walk of SessionReasons. -/
import Derived.Test.YtmndhiaaolfepaaDoorAid
namespace Go.Proofs.YtmndhiaaolfepaaDoor
set_option linter.all false
open Go Go.RowKit
section
variable {α : Type} {l : List α} {k : Nat} {x : α} {p : α → Bool} {b c : Bool} {n : Nat}
theorem any_succ (h : l[k]? = some x) : (l.take (k + 1)).any p = ((l.take k).any p || p x) := by
  rw [take_succ h, List.any_append]; simp
theorem any_yes (h : l[k]? = some x) (hb : b = (l.take k).any p) (ht : b = true) : true = (l.take (k + 1)).any p := by rw [any_succ h, ← hb, ht, Bool.true_or]
theorem any_or (h : l[k]? = some x) (hb : b = (l.take k).any p) (ht : b = false) (hp : p x = c) : c = (l.take (k + 1)).any p := by rw [any_succ h, ← hb, ht, Bool.false_or, hp]
theorem any_no (h : l[k]? = some x) (hp : p x = false) (hb : b = (l.take k).any p) : b = (l.take (k + 1)).any p := by rw [any_succ h, ← hb, hp, Bool.or_false]
theorem count_no (h : l[k]? = some x) (hp : p x = false) (hn : n = (l.take k).countP p) : n = (l.take (k + 1)).countP p := by rw [countP_succ h, ← hn, hp]; simp
theorem count_yes (h : l[k]? = some x) (hp : p x = true) (hn : n = (l.take k).countP p) : n + 1 = (l.take (k + 1)).countP p := by rw [countP_succ h, ← hn, hp]; simp
theorem count_take_le (hn : n = (l.take k).countP p) : n ≤ k := by
  rw [hn]; exact Nat.le_trans List.countP_le_length (by simp; omega)
end
section
variable {f g : Fct} {s : Strm} {gs : List Fct}
theorem hers_dev (h : s.device ≠ f.device) : hers f s = false := by simp [hers, h]
theorem overs_dev (h : s.device ≠ f.device) : overs gs f s = false := by simp [overs, h]
theorem loops_dev (h : s.device ≠ f.device) : loopsB gs f s = false := by simp [loopsB, h]
theorem hers_eq (h : s.device = f.device) : hers f s = decide (s.id = f.id) := by simp [hers, h]; rfl
theorem overs_eq (h : s.device = f.device) (he : earlier (findF gs s) f = true) : overs gs f s = decide (f.second < (findF gs s).stop) := by simp [overs, h, he]
theorem overs_no (_ : s.device = f.device) (he : earlier (findF gs s) f = false) : overs gs f s = false := by simp [overs, he]
theorem loops_no (_ : s.device = f.device) (he : earlier (findF gs s) f = false) : loopsB gs f s = false := by simp [loopsB, he]
theorem loops_rec (h : ¬ s.recording = f.recording) : loopsB gs f s = false := by simp [loopsB, h]
theorem loops_yes (h : s.device = f.device) (he : earlier (findF gs s) f = true) (hr : s.recording = f.recording) : loopsB gs f s = true := by simp [loopsB, h, he, hr]
theorem earlier_lt (h : g.second < f.second) : earlier g f = true := by simp [earlier, h]
theorem earlier_id (h : ¬ g.second < f.second) (h2 : g.second = f.second) : earlier g f = decide (g.id < f.id) := by simp [earlier, h2]
theorem earlier_not (h : ¬ g.second < f.second) (h2 : ¬ g.second = f.second) : earlier g f = false := by simp [earlier, h2]; omega
end
theorem reasons_no1 {C : Prop} {c b1 b2 : Bool} {n : Nat} (h : c = true → b1 = true ∨ b2 = true ∨ 5 ≤ n) (h1 : c = true) (h2 : (!b1) = true) (h3 : (!b2) = true) (h4 : (n : Int) < 5) : C := by
  rcases h h1 with h | h | h
  · rw [h] at h2; cases h2
  · rw [h] at h3; cases h3
  · omega
theorem reasons_no2 {C : Prop} {c b1 b2 : Bool} (h : b1 = true → b2 = false ∧ c = true) (h1 : b1 = true) (h2 : b2 = true) : C := by
  have := (h h1).1; rw [h2] at this; cases this
theorem reasons_no3 {C : Prop} {c b1 b2 : Bool} (h : b1 = true → b2 = false ∧ c = true) (h1 : b1 = true) (h2 : (!c) = true) : C := by
  have := (h h1).2; rw [this] at h2; cases h2
end Go.Proofs.YtmndhiaaolfepaaDoor
