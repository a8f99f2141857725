/- For session.Period. -/
import Derived.Test.YtmndhiaaolfepaaDoorDefs3
namespace Go.Proofs.YtmndhiaaolfepaaDoor
set_option linter.all false
open Go Go.RowKit
theorem SL.keepC {w0 w : World} {O : List Nat} {L : List Ent} (h : SL w0 O w L) {a : Addr} {v : Value} (hc : w0.cell? a = some v) (hO : a.block ∉ O) : w.cell? a = some v := by
  rw [h.cell0 (World.block_lt_of_cell? w0 _ hc) hO]; exact hc
theorem Ent.capLe {w : World} {A : Option Addr} {cap : Nat} {e : TypeId} {sz : Nat} {xs : List (Array Value)} (h : (Ent.row A cap e sz xs).sat w) : xs.length ≤ cap := by
  obtain ⟨⟨_, h2⟩, _⟩ := h
  rcases h2 with ⟨hv, hn⟩ | ⟨g, c, _, hv, _, _, hn, _⟩
  · omega
  · injection hv with _ _ hc
    omega
theorem rd_none {α : Type} {enc : α → Array Value} {w : World} {A : Option Addr} {sz : Nat} {xs : List α} (h : Rd w A sz (xs.map enc)) (hA : A.isNone = true) : xs = [] := by
  cases xs with
  | nil => rfl
  | cons x xs =>
    obtain ⟨b, j, e⟩ := h.some (k := 0) (by simp)
    subst e; simp at hA
/-- What slices.IndexFunc finds: the first stream of another period. -/
def IdxOk (p : Int) (ss : List Strm) (r : Int) : Prop := (r = -1 ∧ ∀ s ∈ ss, inPeriod p s = true) ∨ ∃ (k : Nat) (s : Strm), r = (k : Int) ∧ ss[k]? = some s ∧ inPeriod p s = false ∧ ∀ s ∈ ss.take k, inPeriod p s = true
theorem idx_none {p : Int} {ss : List Strm} {r : Int} (h : IdxOk p ss r) (hr : r = -1) : ∀ s ∈ ss, inPeriod p s = true := by
  rcases h with ⟨_, h⟩ | ⟨k, s, e, _⟩
  · exact h
  · omega
theorem idx_some {p : Int} {ss : List Strm} {r : Int} (h : IdxOk p ss r) (hr : ¬ r = -1) : ∃ (k : Nat) (s : Strm), r = (k : Int) ∧ ss[k]? = some s ∧ inPeriod p s = false ∧ ∀ s ∈ ss.take k, inPeriod p s = true := by
  rcases h with ⟨e, _⟩ | h
  · exact absurd e hr
  · exact h
theorem filter_all_in {p : Int} {ss : List Strm} (h : ∀ s ∈ ss, inPeriod p s = true) : ss.filter (inPeriod p) = ss := List.filter_eq_self.2 h
theorem start_del {p : Int} {ss : List Strm} {k : Nat} {s : Strm} (h : ss[k]? = some s) (hs : inPeriod p s = false) (ha : ∀ s ∈ ss.take k, inPeriod p s = true) : ss.take k = (ss.take (k + 1)).filter (inPeriod p) := by
  rw [take_succ h, List.filter_append, filter_all_in ha]; simp [hs]
theorem del_no {p : Int} {ss zs : List Strm} {i j : Nat} {s : Strm} (h : ss[j]? = some s) (ht : zs.take i = (ss.take j).filter (inPeriod p)) (hs : inPeriod p s = false) : zs.take i = (ss.take (j + 1)).filter (inPeriod p) := by
  rw [take_succ h, List.filter_append, ← ht]; simp [hs]
theorem del_yes {p : Int} {ss zs : List Strm} {i j : Nat} {s : Strm} (h : ss[j]? = some s) (ht : zs.take i = (ss.take j).filter (inPeriod p)) (hi : i < zs.length) (hs : inPeriod p s = true) : (zs.set i s).take (i + 1) = (ss.take (j + 1)).filter (inPeriod p) := by
  rw [take_succ h, List.filter_append, ← ht, take_succ (x := s) (by simp [hi]), List.take_set_of_le (Nat.le_refl _)]; simp [hs]
theorem del_drop {ss zs : List Strm} {i j : Nat} {s : Strm} (h : zs.drop j = ss.drop j) (hij : i < j + 1) : (zs.set i s).drop (j + 1) = ss.drop (j + 1) := by
  rw [List.drop_set_of_lt hij, ← List.drop_drop, h, List.drop_drop]
end Go.Proofs.YtmndhiaaolfepaaDoor
