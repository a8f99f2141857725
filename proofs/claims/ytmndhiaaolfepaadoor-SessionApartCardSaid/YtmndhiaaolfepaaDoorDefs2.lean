/- More for the walks of law08. -/
import Derived.Test.YtmndhiaaolfepaaDoorDefs
namespace Go.Proofs.YtmndhiaaolfepaaDoor
set_option linter.all false
open Go Go.RowKit
theorem ordered_perm (fs : List Fct) : (ordered fs).Perm (fs.filter Fct.valid) := Srt.isort_perm _ _
theorem ordered_valid (fs : List Fct) {p : Fct} (h : p ∈ ordered fs) : p.valid = true := (List.mem_filter.1 ((ordered_perm fs).mem_iff.1 h)).2
theorem ordered_length (fs : List Fct) : (ordered fs).length ≤ fs.length := by rw [(ordered_perm fs).length_eq]; exact List.length_filter_le _ _
section
variable {w0 w : World} {O : List Nat} {M R : List Ent}
/-- Blocks that the call has made. -/
theorem SL.fresh {L : List Ent} (h : SL w0 [] w L) {M : List Ent} (hM : M ⊆ L) {b : Nat} (hb : b < w0.heap.size) : b ∉ M.flatMap Ent.blocks := by
  intro hm
  obtain ⟨p, hp, hbp⟩ := List.mem_flatMap.1 hm
  rcases h.own p (hM hp) b hbp with h1 | h1
  · simp at h1
  · omega
theorem SL.apart (h : SL w0 O w (M ++ R)) (i : Nat) {q : Ent} (hq : R[i]? = some q) {b : Nat} (hb : b ∈ q.blocks) : b ∉ M.flatMap Ent.blocks := by
  intro hm
  have hn := h.nodup
  rw [List.flatMap_append, List.nodup_append] at hn
  exact hn.2.2 b hm b (List.mem_flatMap.2 ⟨q, List.mem_of_getElem? hq, hb⟩) rfl
theorem SL.apartA (h : SL w0 O w (M ++ R)) (h0 : 0 ∉ M.flatMap Ent.blocks) (i : Nat) {A : Option Addr} {cap : Nat} {e : TypeId} {sz : Nat} {xs : List (Array Value)} (hq : R[i]? = some (.row A cap e sz xs)) : ab A ∉ M.flatMap Ent.blocks := by
  cases A with
  | none => exact h0
  | some a => exact h.apart i hq (b := a.block) (by simp [Ent.blocks])
end
theorem Holds.round {n : Nat} {D : List Deferred} {a : Act} {V : List (Nat × Value)} (h : Holds n D a V) (p : Nat) (hp : Nat.blt p n = true) (v : Value) : Holds n [] { tmps := a.tmps.setIfInBounds p v, defers := [] } ((p, v) :: V) := by
  have := h.put hp v
  exact ⟨rfl, this.size, this.at_⟩
end Go.Proofs.YtmndhiaaolfepaaDoor
