/- Walks, printed by a program. Walks, printed by a program. Walks, printed by a program. Walks, printed by a program. Walks, printed by a program. -/
import Derived.Test.YtpcfgoadkfajfaaK3
namespace Go.Proofs.Ytpcfgoadkfajfaa
set_option linter.all false
open Go Go.RowKit
set_option maxRecDepth 100000
set_option maxRecDepth 100000 in
theorem w_insert {w : World} {A : Option Addr} {cap : Nat} (xs : List Int) (hr : Rd w A 1 (xs.map iR)) (hl : xs.length ≤ 1000000) (n : Int) :
    Calls Try.prog 68 #[.slice A xs.length cap, .int .i64 n] w (fun e w' => ∃ z : (Option Addr × Nat) × List Int, ((∀ x, x ∈ z.2 ↔ x ∈ xs ∨ x = n) ∧ z.2.length ≤ xs.length + 1) ∧ e = .returned (.slice z.1.1 z.2.length z.1.2) ∧ SL w [] w' [.row z.1.1 z.1.2 3 1 (List.map iR z.2)]) := by
  refine calls_of_CX (O := []) (L := []) (args := [.slice A xs.length cap, .int .i64 n]) Try.func68 rfl (by simp [Try.ntmps68]) (SL.refl w) ?_
  refine CX.sub (V' := [(0, .slice A xs.length cap), (1, .int .i64 n)]) ⟨rfl, rfl, trivial⟩ ?_
  refine CX.seq ?_
  refine CX.region ?_
  refine RX.cons rfl rfl (op_w (yw_assign rfl rfl) rfl rfl ?_)
  refine RX.nil (XX.next (V' := [(0, _), (1, _)]) ⟨rfl, rfl, trivial⟩ ?_)
  refine CX.seq ?_
  refine CX.region ?_
  refine RX.cons rfl rfl (op_w (yw_assign rfl rfl) rfl rfl ?_)
  refine RX.nil (XX.next (V' := [(0, _), (1, _), (5, _)]) ⟨rfl, rfl, rfl, trivial⟩ ?_)
  refine CX.seq ?_
  refine CX.region ?_
  refine RX.cons rfl rfl (op_w (yw_assign rfl rfl) rfl rfl ?_)
  refine RX.nil (XX.next (V' := [(0, _), (1, _), (5, _), (6, _)]) ⟨rfl, rfl, rfl, rfl, trivial⟩ ?_)
  refine CX.seq ?_
  refine CX.seq ?_
  refine CX.region ?_
  refine RX.cons rfl rfl (op_w (yw_assign rfl rfl) rfl rfl ?_)
  refine RX.nil (XX.next (V' := [(0, _), (1, _), (5, _), (6, _), (7, _)]) ⟨rfl, rfl, rfl, rfl, rfl, trivial⟩ ?_)
  refine CX.block ?_
  refine CX.rowNil 3 1 ?_
  refine CX.loop (σ := Nat × Bool × (Option Addr × Nat) × List Int) (fun z => [(0, .slice A xs.length cap), (1, .int .i64 n), (5, .slice z.2.2.1.1 (List.length (z.2.2.2 : List Int)) z.2.2.1.2), (6, .bool z.2.1), (7, .int .i64 ((z.1 : Nat) : Int))]) (fun z => [.row z.2.2.1.1 z.2.2.1.2 3 1 (List.map iR z.2.2.2)]) (fun z => z.1 ≤ xs.length ∧ (∀ x, x ∈ z.2.2.2 ↔ (x ∈ xs.take z.1 ∧ x ≠ n) ∨ (z.2.1 = true ∧ x = n)) ∧ z.2.2.2.length ≤ z.1 + (if z.2.1 = true then 1 else 0)) (fun z => xs.length - z.1) (0, false, (none, 0), []) ⟨Nat.zero_le _, by simp, by simp⟩ ⟨rfl, rfl, rfl, rfl, rfl, trivial⟩ rfl (fun z hI => ?_)
  obtain ⟨i, dn, ⟨A1, c1⟩, Y⟩ := z
  dsimp only at hI ⊢
  obtain ⟨hi, hY, hYn⟩ := hI
  have hYb : Y.length ≤ i + 1 := by split at hYn <;> omega
  refine CX.seq ?_
  refine CX.seq ?_
  refine CX.region ?_
  refine RX.cons rfl rfl (op_w (yw_move rfl rfl) rfl rfl ?_)
  refine RX.cons rfl rfl (op_w (yw_move rfl rfl) rfl rfl ?_)
  refine RX.cons rfl rfl (op_w (yw_lenS rfl Try.underlying36 rfl) rfl rfl ?_)
  refine RX.cons rfl rfl (op_w (yw_lss rfl rfl rfl) rfl rfl ?_)
  refine RX.nil (XX.next (V' := [(0, _), (1, _), (5, _), (6, _), (7, _), (11, _)]) ⟨rfl, rfl, rfl, rfl, rfl, rfl, trivial⟩ ?_)
  refine CX.condD (p := ((i : Nat) : Int) < ((xs.length : Nat) : Int)) rfl (fun c11 => ?_) (fun c11 => ?_)
  · obtain ⟨x0, hx0⟩ := get_some (l := xs) (k := i) (by omega)
    have hx0m := List.mem_of_getElem? hx0
    have hA : ∃ b j, A = some ⟨b, j, none⟩ := hr.some (k := 0) (by simp; omega)
    refine CX.skip (XX.next (V' := [(0, _), (1, _), (5, _), (6, _), (7, _)]) ⟨rfl, rfl, rfl, rfl, rfl, trivial⟩ ?_)
    refine CX.seq ?_
    refine CX.block ?_
    refine CX.seq ?_
    refine CX.seq ?_
    refine CX.region ?_
    refine RX.cons rfl rfl (op_w (yw_move rfl rfl) rfl rfl ?_)
    refine RX.cons rfl rfl (op_w (yw_not rfl rfl) rfl rfl ?_)
    refine RX.cons rfl rfl (op_w (yw_move rfl rfl) rfl rfl ?_)
    refine RX.split (t := 16) (b := !dn) rfl (fun d16 => ?_) (fun d16 => ?_)
    · refine RX.consG rfl rfl rfl rfl rfl (op_w (yw_move rfl rfl) rfl rfl ?_)
      refine RX.consG rfl rfl rfl rfl rfl (op_w (yw_move rfl rfl) rfl rfl ?_)
      refine RX.consG rfl rfl rfl rfl rfl (op_w (yw_index (k := i) rfl slt_36 rfl rfl (by omega) (by omega) hA) rfl rfl ?_)
      refine RX.consG rfl rfl rfl rfl rfl (op_yld (y_elem1 rfl rfl one_3 hr (by simp) (map_get hx0)) rfl rfl ?_)
      refine RX.consG rfl rfl rfl rfl rfl (op_w (yw_move rfl rfl) rfl rfl ?_)
      refine RX.consG rfl rfl rfl rfl rfl (op_w (yw_geq rfl rfl rfl) rfl rfl ?_)
      refine RX.cons rfl rfl (op_w (yw_pickT rfl rfl rfl) rfl rfl ?_)
      refine RX.nil (XX.next (V' := [(0, _), (1, _), (5, _), (6, _), (7, _), (23, _)]) ⟨rfl, rfl, rfl, rfl, rfl, rfl, trivial⟩ ?_)
      refine CX.condD (p := n ≤ x0) rfl (fun c23 => ?_) (fun c23 => ?_)
      · refine CX.seq ?_
        refine CX.region ?_
        refine RX.cons rfl rfl (op_w (yw_move rfl rfl) rfl rfl ?_)
        refine RX.cons rfl rfl (op_w (yw_move rfl rfl) rfl rfl ?_)
        refine RX.cons rfl rfl (op_buildSlice rfl rfl rfl slb_36 rfl rfl (by intro v hv; simp only [List.mem_cons, List.not_mem_nil, or_false] at hv; subst hv; exact ⟨rfl, (plain_of rfl)⟩) (by decide) fun g7 => ?_)
        refine RX.cons rfl rfl (op_appendM iR (i := 1) (j := 0) (xs := Y) ([n]) rfl rfl rfl slb_36 rfl rfl rfl rfl rfl rfl (by rw [List.length_singleton]; omega) (by rw [List.length_singleton]; omega) fun A2 c2 => ?_)
        refine RX.cons rfl rfl (op_w (yw_assign rfl rfl) rfl rfl ?_)
        refine RX.nil (XX.next (V' := [(0, _), (1, _), (5, _), (7, _)]) ⟨rfl, rfl, rfl, rfl, trivial⟩ ?_)
        refine CX.region ?_
        refine RX.cons rfl rfl (op_w (yw_assign rfl rfl) rfl rfl ?_)
        refine RX.nil (XX.next (V' := [(0, _), (1, _), (5, _), (6, _), (7, _)]) ⟨rfl, rfl, rfl, rfl, rfl, trivial⟩ ?_)
        refine CX.seq ?_
        refine CX.region ?_
        refine RX.cons rfl rfl (op_w (yw_move rfl rfl) rfl rfl ?_)
        refine RX.cons rfl rfl (op_w (yw_move rfl rfl) rfl rfl ?_)
        refine RX.cons rfl rfl (op_w (yw_index (k := i) rfl slt_36 rfl rfl (by omega) (by omega) hA) rfl rfl ?_)
        refine RX.cons rfl rfl (op_yld (y_elem1 rfl rfl one_3 hr (by simp) (map_get hx0)) rfl rfl ?_)
        refine RX.cons rfl rfl (op_w (yw_move rfl rfl) rfl rfl ?_)
        refine RX.cons rfl rfl (op_w (yw_neq rfl rfl rfl) rfl rfl ?_)
        refine RX.nil (XX.next (V' := [(0, _), (1, _), (5, _), (6, _), (7, _), (33, _)]) ⟨rfl, rfl, rfl, rfl, rfl, rfl, trivial⟩ ?_)
        refine CX.condD (p := x0 ≠ n) rfl (fun c33 => ?_) (fun c33 => ?_)
        · refine CX.region ?_
          refine RX.cons rfl rfl (op_w (yw_move rfl rfl) rfl rfl ?_)
          refine RX.cons rfl rfl (op_w (yw_move rfl rfl) rfl rfl ?_)
          refine RX.cons rfl rfl (op_w (yw_move rfl rfl) rfl rfl ?_)
          refine RX.cons rfl rfl (op_w (yw_index (k := i) rfl slt_36 rfl rfl (by omega) (by omega) hA) rfl rfl ?_)
          refine RX.cons rfl rfl (op_yld (y_elem1 rfl rfl one_3 hr (by simp) (map_get hx0)) rfl rfl ?_)
          refine RX.cons rfl rfl (op_buildSlice rfl rfl rfl slb_36 rfl rfl (by intro v hv; simp only [List.mem_cons, List.not_mem_nil, or_false] at hv; subst hv; exact ⟨rfl, (plain_of rfl)⟩) (by decide) fun g8 => ?_)
          refine RX.cons rfl rfl (op_appendM iR (i := 2) (j := 0) (xs := (Y ++ [n])) ([x0]) rfl rfl rfl slb_36 rfl rfl rfl rfl rfl rfl (by simp only [List.length_append, List.length_singleton]; omega) (by simp only [List.length_append, List.length_singleton]; omega) fun A3 c3 => ?_)
          refine RX.cons rfl rfl (op_w (yw_assign rfl rfl) rfl rfl ?_)
          refine RX.nil (XX.inBlock (V' := [(0, _), (1, _), (5, _), (6, _), (7, _)]) ⟨rfl, rfl, rfl, rfl, rfl, trivial⟩ ?_)
          refine XX.next (V' := [(0, _), (1, _), (5, _), (6, _), (7, _)]) ⟨rfl, rfl, rfl, rfl, rfl, trivial⟩ ?_
          refine CX.region ?_
          refine RX.cons rfl rfl (op_w (yw_move rfl rfl) rfl rfl ?_)
          refine RX.cons rfl rfl (op_w (yw_add rfl rfl rfl (by omega) (by omega)) rfl rfl ?_)
          refine RX.cons rfl rfl (op_w (yw_assign rfl rfl) rfl rfl ?_)
          refine RX.nil (XX.againP ([.row (some ⟨g8, 0, none⟩) 1 3 1 (List.map iR ([x0])), .row (some ⟨g7, 0, none⟩) 1 3 1 (List.map iR ([n]))]) (i + 1, true, (A3, c3), Y ++ [n] ++ [x0]) (by dsimp only; omega) ⟨by dsimp only; omega, by dsimp only; intro x; have h8 := hY x; rw [take_succ hx0]; simp only [List.mem_append, List.mem_singleton]; grind, by dsimp only; (try simp only [List.length_append, List.length_singleton]); split at hYn <;> simp_all <;> omega⟩ ⟨rfl, rfl, rfl, rfl, rfl, trivial⟩ ((perm_pick 2 rfl).trans (List.Perm.cons _ (List.Perm.refl _))))
        · refine CX.skip (XX.inBlock (V' := [(0, _), (1, _), (5, _), (6, _), (7, _)]) ⟨rfl, rfl, rfl, rfl, rfl, trivial⟩ ?_)
          refine XX.next (V' := [(0, _), (1, _), (5, _), (6, _), (7, _)]) ⟨rfl, rfl, rfl, rfl, rfl, trivial⟩ ?_
          refine CX.region ?_
          refine RX.cons rfl rfl (op_w (yw_move rfl rfl) rfl rfl ?_)
          refine RX.cons rfl rfl (op_w (yw_add rfl rfl rfl (by omega) (by omega)) rfl rfl ?_)
          refine RX.cons rfl rfl (op_w (yw_assign rfl rfl) rfl rfl ?_)
          refine RX.nil (XX.againP ([.row (some ⟨g7, 0, none⟩) 1 3 1 (List.map iR ([n]))]) (i + 1, true, (A2, c2), Y ++ [n]) (by dsimp only; omega) ⟨by dsimp only; omega, by dsimp only; intro x; have h8 := hY x; rw [take_succ hx0]; simp only [List.mem_append, List.mem_singleton]; grind, by dsimp only; (try simp only [List.length_append, List.length_singleton]); split at hYn <;> simp_all <;> omega⟩ ⟨rfl, rfl, rfl, rfl, rfl, trivial⟩ ((perm_pick 1 rfl).trans (List.Perm.cons _ (List.Perm.refl _))))
      · refine CX.skip (XX.next (V' := [(0, _), (1, _), (5, _), (6, _), (7, _)]) ⟨rfl, rfl, rfl, rfl, rfl, trivial⟩ ?_)
        refine CX.seq ?_
        refine CX.region ?_
        refine RX.cons rfl rfl (op_w (yw_move rfl rfl) rfl rfl ?_)
        refine RX.cons rfl rfl (op_w (yw_move rfl rfl) rfl rfl ?_)
        refine RX.cons rfl rfl (op_w (yw_index (k := i) rfl slt_36 rfl rfl (by omega) (by omega) hA) rfl rfl ?_)
        refine RX.cons rfl rfl (op_yld (y_elem1 rfl rfl one_3 hr (by simp) (map_get hx0)) rfl rfl ?_)
        refine RX.cons rfl rfl (op_w (yw_move rfl rfl) rfl rfl ?_)
        refine RX.cons rfl rfl (op_w (yw_neq rfl rfl rfl) rfl rfl ?_)
        refine RX.nil (XX.next (V' := [(0, _), (1, _), (5, _), (6, _), (7, _), (33, _)]) ⟨rfl, rfl, rfl, rfl, rfl, rfl, trivial⟩ ?_)
        refine CX.condD (p := x0 ≠ n) rfl (fun c33 => ?_) (fun c33 => ?_)
        · refine CX.region ?_
          refine RX.cons rfl rfl (op_w (yw_move rfl rfl) rfl rfl ?_)
          refine RX.cons rfl rfl (op_w (yw_move rfl rfl) rfl rfl ?_)
          refine RX.cons rfl rfl (op_w (yw_move rfl rfl) rfl rfl ?_)
          refine RX.cons rfl rfl (op_w (yw_index (k := i) rfl slt_36 rfl rfl (by omega) (by omega) hA) rfl rfl ?_)
          refine RX.cons rfl rfl (op_yld (y_elem1 rfl rfl one_3 hr (by simp) (map_get hx0)) rfl rfl ?_)
          refine RX.cons rfl rfl (op_buildSlice rfl rfl rfl slb_36 rfl rfl (by intro v hv; simp only [List.mem_cons, List.not_mem_nil, or_false] at hv; subst hv; exact ⟨rfl, (plain_of rfl)⟩) (by decide) fun g8 => ?_)
          refine RX.cons rfl rfl (op_appendM iR (i := 1) (j := 0) (xs := Y) ([x0]) rfl rfl rfl slb_36 rfl rfl rfl rfl rfl rfl (by simp only [List.length_append, List.length_singleton]; omega) (by simp only [List.length_append, List.length_singleton]; omega) fun A3 c3 => ?_)
          refine RX.cons rfl rfl (op_w (yw_assign rfl rfl) rfl rfl ?_)
          refine RX.nil (XX.inBlock (V' := [(0, _), (1, _), (5, _), (6, _), (7, _)]) ⟨rfl, rfl, rfl, rfl, rfl, trivial⟩ ?_)
          refine XX.next (V' := [(0, _), (1, _), (5, _), (6, _), (7, _)]) ⟨rfl, rfl, rfl, rfl, rfl, trivial⟩ ?_
          refine CX.region ?_
          refine RX.cons rfl rfl (op_w (yw_move rfl rfl) rfl rfl ?_)
          refine RX.cons rfl rfl (op_w (yw_add rfl rfl rfl (by omega) (by omega)) rfl rfl ?_)
          refine RX.cons rfl rfl (op_w (yw_assign rfl rfl) rfl rfl ?_)
          refine RX.nil (XX.againP ([.row (some ⟨g8, 0, none⟩) 1 3 1 (List.map iR ([x0]))]) (i + 1, dn, (A3, c3), Y ++ [x0]) (by dsimp only; omega) ⟨by dsimp only; omega, by dsimp only; intro x; have h8 := hY x; rw [take_succ hx0]; simp only [List.mem_append, List.mem_singleton]; grind, by dsimp only; (try simp only [List.length_append, List.length_singleton]); split at hYn <;> simp_all <;> omega⟩ ⟨rfl, rfl, rfl, rfl, rfl, trivial⟩ ((perm_pick 1 rfl).trans (List.Perm.cons _ (List.Perm.refl _))))
        · refine CX.skip (XX.inBlock (V' := [(0, _), (1, _), (5, _), (6, _), (7, _)]) ⟨rfl, rfl, rfl, rfl, rfl, trivial⟩ ?_)
          refine XX.next (V' := [(0, _), (1, _), (5, _), (6, _), (7, _)]) ⟨rfl, rfl, rfl, rfl, rfl, trivial⟩ ?_
          refine CX.region ?_
          refine RX.cons rfl rfl (op_w (yw_move rfl rfl) rfl rfl ?_)
          refine RX.cons rfl rfl (op_w (yw_add rfl rfl rfl (by omega) (by omega)) rfl rfl ?_)
          refine RX.cons rfl rfl (op_w (yw_assign rfl rfl) rfl rfl ?_)
          refine RX.nil (XX.againP ([]) (i + 1, dn, (A1, c1), Y) (by dsimp only; omega) ⟨by dsimp only; omega, by dsimp only; intro x; have h8 := hY x; rw [take_succ hx0]; simp only [List.mem_append, List.mem_singleton]; grind, by dsimp only; (try simp only [List.length_append, List.length_singleton]); split at hYn <;> simp_all <;> omega⟩ ⟨rfl, rfl, rfl, rfl, rfl, trivial⟩ ((perm_pick 0 rfl).trans (List.Perm.cons _ (List.Perm.refl _))))
    · refine RX.skip rfl rfl rfl rfl rfl rfl rfl ?_
      refine RX.skip rfl rfl rfl rfl rfl rfl rfl ?_
      refine RX.skip rfl rfl rfl rfl rfl rfl rfl ?_
      refine RX.skip rfl rfl rfl rfl rfl rfl rfl ?_
      refine RX.skip rfl rfl rfl rfl rfl rfl rfl ?_
      refine RX.skip rfl rfl rfl rfl rfl rfl rfl ?_
      refine RX.cons rfl rfl (op_w (yw_pickF rfl rfl rfl) rfl rfl ?_)
      refine RX.nil (XX.next (V' := [(0, _), (1, _), (5, _), (6, _), (7, _), (23, _)]) ⟨rfl, rfl, rfl, rfl, rfl, rfl, trivial⟩ ?_)
      refine CX.condF rfl ?_
      refine CX.skip (XX.next (V' := [(0, _), (1, _), (5, _), (6, _), (7, _)]) ⟨rfl, rfl, rfl, rfl, rfl, trivial⟩ ?_)
      refine CX.seq ?_
      refine CX.region ?_
      refine RX.cons rfl rfl (op_w (yw_move rfl rfl) rfl rfl ?_)
      refine RX.cons rfl rfl (op_w (yw_move rfl rfl) rfl rfl ?_)
      refine RX.cons rfl rfl (op_w (yw_index (k := i) rfl slt_36 rfl rfl (by omega) (by omega) hA) rfl rfl ?_)
      refine RX.cons rfl rfl (op_yld (y_elem1 rfl rfl one_3 hr (by simp) (map_get hx0)) rfl rfl ?_)
      refine RX.cons rfl rfl (op_w (yw_move rfl rfl) rfl rfl ?_)
      refine RX.cons rfl rfl (op_w (yw_neq rfl rfl rfl) rfl rfl ?_)
      refine RX.nil (XX.next (V' := [(0, _), (1, _), (5, _), (6, _), (7, _), (33, _)]) ⟨rfl, rfl, rfl, rfl, rfl, rfl, trivial⟩ ?_)
      refine CX.condD (p := x0 ≠ n) rfl (fun c33 => ?_) (fun c33 => ?_)
      · refine CX.region ?_
        refine RX.cons rfl rfl (op_w (yw_move rfl rfl) rfl rfl ?_)
        refine RX.cons rfl rfl (op_w (yw_move rfl rfl) rfl rfl ?_)
        refine RX.cons rfl rfl (op_w (yw_move rfl rfl) rfl rfl ?_)
        refine RX.cons rfl rfl (op_w (yw_index (k := i) rfl slt_36 rfl rfl (by omega) (by omega) hA) rfl rfl ?_)
        refine RX.cons rfl rfl (op_yld (y_elem1 rfl rfl one_3 hr (by simp) (map_get hx0)) rfl rfl ?_)
        refine RX.cons rfl rfl (op_buildSlice rfl rfl rfl slb_36 rfl rfl (by intro v hv; simp only [List.mem_cons, List.not_mem_nil, or_false] at hv; subst hv; exact ⟨rfl, (plain_of rfl)⟩) (by decide) fun g8 => ?_)
        refine RX.cons rfl rfl (op_appendM iR (i := 1) (j := 0) (xs := Y) ([x0]) rfl rfl rfl slb_36 rfl rfl rfl rfl rfl rfl (by simp only [List.length_append, List.length_singleton]; omega) (by simp only [List.length_append, List.length_singleton]; omega) fun A3 c3 => ?_)
        refine RX.cons rfl rfl (op_w (yw_assign rfl rfl) rfl rfl ?_)
        refine RX.nil (XX.inBlock (V' := [(0, _), (1, _), (5, _), (6, _), (7, _)]) ⟨rfl, rfl, rfl, rfl, rfl, trivial⟩ ?_)
        refine XX.next (V' := [(0, _), (1, _), (5, _), (6, _), (7, _)]) ⟨rfl, rfl, rfl, rfl, rfl, trivial⟩ ?_
        refine CX.region ?_
        refine RX.cons rfl rfl (op_w (yw_move rfl rfl) rfl rfl ?_)
        refine RX.cons rfl rfl (op_w (yw_add rfl rfl rfl (by omega) (by omega)) rfl rfl ?_)
        refine RX.cons rfl rfl (op_w (yw_assign rfl rfl) rfl rfl ?_)
        refine RX.nil (XX.againP ([.row (some ⟨g8, 0, none⟩) 1 3 1 (List.map iR ([x0]))]) (i + 1, dn, (A3, c3), Y ++ [x0]) (by dsimp only; omega) ⟨by dsimp only; omega, by dsimp only; intro x; have h8 := hY x; rw [take_succ hx0]; simp only [List.mem_append, List.mem_singleton]; grind, by dsimp only; (try simp only [List.length_append, List.length_singleton]); split at hYn <;> simp_all <;> omega⟩ ⟨rfl, rfl, rfl, rfl, rfl, trivial⟩ ((perm_pick 1 rfl).trans (List.Perm.cons _ (List.Perm.refl _))))
      · refine CX.skip (XX.inBlock (V' := [(0, _), (1, _), (5, _), (6, _), (7, _)]) ⟨rfl, rfl, rfl, rfl, rfl, trivial⟩ ?_)
        refine XX.next (V' := [(0, _), (1, _), (5, _), (6, _), (7, _)]) ⟨rfl, rfl, rfl, rfl, rfl, trivial⟩ ?_
        refine CX.region ?_
        refine RX.cons rfl rfl (op_w (yw_move rfl rfl) rfl rfl ?_)
        refine RX.cons rfl rfl (op_w (yw_add rfl rfl rfl (by omega) (by omega)) rfl rfl ?_)
        refine RX.cons rfl rfl (op_w (yw_assign rfl rfl) rfl rfl ?_)
        refine RX.nil (XX.againP ([]) (i + 1, dn, (A1, c1), Y) (by dsimp only; omega) ⟨by dsimp only; omega, by dsimp only; intro x; have h8 := hY x; rw [take_succ hx0]; simp only [List.mem_append, List.mem_singleton]; grind, by dsimp only; (try simp only [List.length_append, List.length_singleton]); split at hYn <;> simp_all <;> omega⟩ ⟨rfl, rfl, rfl, rfl, rfl, trivial⟩ ((perm_pick 0 rfl).trans (List.Perm.cons _ (List.Perm.refl _))))
  · refine CX.exit ?_
    refine XX.then_exit ?_
    refine XX.then_exit ?_
    refine XX.block_exit ?_
    refine XX.next (V' := [(1, _), (5, _), (6, _)]) ⟨rfl, rfl, rfl, trivial⟩ ?_
    refine CX.seq ?_
    refine CX.seq ?_
    refine CX.region ?_
    refine RX.cons rfl rfl (op_w (yw_move rfl rfl) rfl rfl ?_)
    refine RX.cons rfl rfl (op_w (yw_not rfl rfl) rfl rfl ?_)
    refine RX.nil (XX.next (V' := [(1, _), (5, _), (42, _)]) ⟨rfl, rfl, rfl, trivial⟩ ?_)
    refine CX.cond (b := !dn) rfl (fun c42 => ?_) (fun c42 => ?_)
    · refine CX.region ?_
      refine RX.cons rfl rfl (op_w (yw_move rfl rfl) rfl rfl ?_)
      refine RX.cons rfl rfl (op_w (yw_move rfl rfl) rfl rfl ?_)
      refine RX.cons rfl rfl (op_buildSlice rfl rfl rfl slb_36 rfl rfl (by intro v hv; simp only [List.mem_cons, List.not_mem_nil, or_false] at hv; subst hv; exact ⟨rfl, (plain_of rfl)⟩) (by decide) fun g9 => ?_)
      refine RX.cons rfl rfl (op_appendM iR (i := 1) (j := 0) (xs := Y) ([n]) rfl rfl rfl slb_36 rfl rfl rfl rfl rfl rfl (by rw [List.length_singleton]; omega) (by rw [List.length_singleton]; omega) fun A5 c5 => ?_)
      refine RX.cons rfl rfl (op_w (yw_assign rfl rfl) rfl rfl ?_)
      refine RX.nil (XX.next (V' := [(5, _)]) ⟨rfl, trivial⟩ ?_)
      refine CX.seq ?_
      refine CX.region ?_
      refine RX.cons rfl rfl (op_w (yw_move rfl rfl) rfl rfl ?_)
      refine RX.cons rfl rfl (op_w (yw_assign rfl rfl) rfl rfl ?_)
      refine RX.nil (XX.next (V' := [(4, .slice A5 ((Y ++ [n]).length) c5)]) ⟨rfl, trivial⟩ ?_)
      refine CX.ret ?_
      exact ret_tmp rfl rfl fun w1 hw => ⟨((A5, c5), Y ++ [n]), ⟨by intro x; have h8 := hY x; rw [List.take_of_length_le (by omega)] at h8; simp only [List.mem_append, List.mem_singleton]; grind, by rw [List.length_append, List.length_singleton]; split at hYn <;> simp_all <;> omega⟩, rfl, hw.pick ((perm_pick 1 rfl).trans (List.Perm.cons _ (List.Perm.refl _)))⟩
    · refine CX.skip (XX.next (V' := [(5, _)]) ⟨rfl, trivial⟩ ?_)
      refine CX.seq ?_
      refine CX.region ?_
      refine RX.cons rfl rfl (op_w (yw_move rfl rfl) rfl rfl ?_)
      refine RX.cons rfl rfl (op_w (yw_assign rfl rfl) rfl rfl ?_)
      refine RX.nil (XX.next (V' := [(4, .slice A1 (List.length (Y : List Int)) c1)]) ⟨rfl, trivial⟩ ?_)
      refine CX.ret ?_
      exact ret_tmp rfl rfl fun w1 hw => ⟨((A1, c1), Y), ⟨by intro x; have h8 := hY x; rw [List.take_of_length_le (by omega)] at h8; grind, by split at hYn <;> simp_all <;> omega⟩, rfl, hw.pick ((perm_pick 0 rfl).trans (List.Perm.cons _ (List.Perm.refl _)))⟩

end Go.Proofs.Ytpcfgoadkfajfaa
namespace Go.Proofs.Ytpcfgoadkfajfaa
set_option linter.all false
open Go Go.RowKit
set_option maxRecDepth 100000
theorem slt_22 : SlT Try.prog 22 24 9 := ⟨(Try.prog.info? 24).get!, Try.underlying22, by kernel_rfl, by kernel_rfl⟩
theorem fld_24_2 : Fld Try.prog 24 2 2 := ⟨_, _, (Try.prog.info? 3).get!, Try.underlying24, rfl, rfl, by kernel_rfl, by decide +kernel⟩
theorem fld_24_0 : Fld Try.prog 24 0 0 := ⟨_, _, (Try.prog.info? 3).get!, Try.underlying24, rfl, rfl, by kernel_rfl, by decide +kernel⟩
theorem slb_52 : SlB Try.prog 52 73 2 16 (.agg (#[.int .i64 0, .int .i64 0])) := ⟨Try.underlying52, ⟨(Try.prog.info? 73).get!, by kernel_rfl, by kernel_rfl, by kernel_rfl, by kernel_rfl⟩, by decide, by decide⟩
/-- A stream. -/
structure Sm where
  dev : Int
  id : Int
  acc : Int
  song : Int
  ter : Int
  sec : Int
  per : Int
  ses : Int
  mark : Int
abbrev smC (s : Sm) : Array Value := #[.int .i64 s.dev, .int .i64 s.id, .int .i64 s.acc, .int .i64 s.song, .int .i64 s.ter, .int .i64 s.sec, .int .i64 s.per, .int .i64 s.ses, .int .i64 s.mark]
/-- The edges of streams. -/
def edgesOf (l : List Sm) : List (Int × Int) := l.map fun s => (s.acc, s.dev)
set_option maxRecDepth 100000 in
theorem w_graph11 {w : World} {A : Option Addr} {cap : Nat} (l : List Sm) (hr : Rd w A 9 (l.map smC)) (hl : l.length ≤ 1000000) :
    Calls Try.prog 25 #[.slice A l.length cap] w (fun e w' => ∃ z : Option Addr × Nat, True ∧ e = .returned (.slice z.1 (edgesOf l).length z.2) ∧ SL w [] w' [.row z.1 z.2 73 2 (List.map edC (edgesOf l))]) := by
  refine calls_of_CX (O := []) (L := []) (args := [.slice A l.length cap]) Try.func25 rfl (by simp [Try.ntmps25]) (SL.refl w) ?_
  refine CX.sub (V' := [(0, .slice A l.length cap)]) ⟨rfl, trivial⟩ ?_
  refine CX.seq ?_
  refine CX.region ?_
  refine RX.cons rfl rfl (op_w (yw_assign rfl rfl) rfl rfl ?_)
  refine RX.nil (XX.next (V' := [(0, _)]) ⟨rfl, trivial⟩ ?_)
  refine CX.seq ?_
  refine CX.region ?_
  refine RX.cons rfl rfl (op_w (yw_assign rfl rfl) rfl rfl ?_)
  refine RX.nil (XX.next (V' := [(0, _), (3, _)]) ⟨rfl, rfl, trivial⟩ ?_)
  refine CX.seq ?_
  refine CX.seq ?_
  refine CX.region ?_
  refine RX.cons rfl rfl (op_w (yw_assign rfl rfl) rfl rfl ?_)
  refine RX.nil (XX.next (V' := [(0, _), (3, _), (4, _)]) ⟨rfl, rfl, rfl, trivial⟩ ?_)
  refine CX.block ?_
  refine CX.rowNil 73 2 ?_
  refine CX.loop (σ := Nat × (Option Addr × Nat) × List (Int × Int)) (fun z => [(0, .slice A l.length cap), (3, .slice z.2.1.1 (List.length (z.2.2 : List (Int × Int))) z.2.1.2), (4, .int .i64 ((z.1 : Nat) : Int))]) (fun z => [.row z.2.1.1 z.2.1.2 73 2 (List.map edC z.2.2)]) (fun z => z.1 ≤ l.length ∧ z.2.2 = edgesOf (l.take z.1)) (fun z => l.length - z.1) (0, (none, 0), []) ⟨Nat.zero_le _, rfl⟩ ⟨rfl, rfl, rfl, trivial⟩ rfl (fun z hI => ?_)
  obtain ⟨i, ⟨A1, c1⟩, Y⟩ := z
  dsimp only at hI ⊢
  obtain ⟨hi, hY⟩ := hI
  have hYn : Y.length = i := by rw [hY, edgesOf, List.length_map, List.length_take]; omega
  refine CX.seq ?_
  refine CX.seq ?_
  refine CX.region ?_
  refine RX.cons rfl rfl (op_w (yw_move rfl rfl) rfl rfl ?_)
  refine RX.cons rfl rfl (op_w (yw_move rfl rfl) rfl rfl ?_)
  refine RX.cons rfl rfl (op_w (yw_lenS rfl Try.underlying22 rfl) rfl rfl ?_)
  refine RX.cons rfl rfl (op_w (yw_lss rfl rfl rfl) rfl rfl ?_)
  refine RX.nil (XX.next (V' := [(0, _), (3, _), (4, _), (8, _)]) ⟨rfl, rfl, rfl, rfl, trivial⟩ ?_)
  refine CX.condD (p := ((i : Nat) : Int) < ((l.length : Nat) : Int)) rfl (fun c8 => ?_) (fun c8 => ?_)
  · obtain ⟨x0, hx0⟩ := get_some (l := l) (k := i) (by omega)
    have hx0m := List.mem_of_getElem? hx0
    have hA : ∃ b j, A = some ⟨b, j, none⟩ := hr.some (k := 0) (by simp; omega)
    refine CX.skip (XX.next (V' := [(0, _), (3, _), (4, _)]) ⟨rfl, rfl, rfl, trivial⟩ ?_)
    refine CX.seq ?_
    refine CX.block ?_
    refine CX.draw 13 [(0, 8, 2048), (0, 1, 4096), (0, 16, 8192), (6, 12288, 16384), (8, 16384, 32768), (16, 32768, 65536), (0, 1, 131072), (0, 16, 262144), (192, 393216, 524288), (256, 524288, 1048576), (512, 1048576, 2097152), (1056, 2162688, 4194304), (2048, 4194304, 8388608), (4097, 8390656, 16777216), (16383, 16777216, 8)] (by kernel_rfl) (by kernel_rfl) (by kernel_rfl) ?_
    refine DX.takeW 0 1 (by kernel_rfl) rfl rfl rfl rfl rfl (yw_move rfl rfl) ?_
    refine DX.takeW 1 3 (by kernel_rfl) rfl rfl rfl rfl rfl (yw_move rfl rfl) ?_
    refine DX.takeW 2 7 (by kernel_rfl) rfl rfl rfl rfl rfl (yw_move rfl rfl) ?_
    refine DX.takeW 3 15 (by kernel_rfl) rfl rfl rfl rfl rfl (yw_index (k := i) rfl slt_22 rfl rfl (by omega) (by omega) hA) ?_
    refine DX.takeW 4 31 (by kernel_rfl) rfl rfl rfl rfl rfl (yw_fieldAddr rfl fld_24_2 rfl) ?_
    refine DX.take 5 63 (by kernel_rfl) rfl rfl rfl rfl rfl (List.Sublist.refl _) (y_elemF rfl rfl one_3 hr (by simp) (map_get hx0) rfl) ?_
    refine DX.takeW 6 127 (by kernel_rfl) rfl rfl rfl rfl rfl (yw_move rfl rfl) ?_
    refine DX.takeW 7 255 (by kernel_rfl) rfl rfl rfl rfl rfl (yw_move rfl rfl) ?_
    refine DX.takeW 8 511 (by kernel_rfl) rfl rfl rfl rfl rfl (yw_index (k := i) rfl slt_22 rfl rfl (by omega) (by omega) hA) ?_
    refine DX.takeW 9 1023 (by kernel_rfl) rfl rfl rfl rfl rfl (yw_field0 rfl fld_24_0 rfl) ?_
    refine DX.take 10 2047 (by kernel_rfl) rfl rfl rfl rfl rfl (List.Sublist.refl _) (y_elemF (j := 0) rfl rfl one_3 hr (by simp) (map_get hx0) rfl) ?_
    refine DX.takeW 11 4095 (by kernel_rfl) rfl rfl rfl rfl rfl (yw_build (v := .agg (#[.int .i64 (Sm.acc x0), .int .i64 (Sm.dev x0)])) rfl rfl (fun _ => by kernel_rfl)) ?_
    refine DX.step 12 8191 (by kernel_rfl) rfl rfl rfl (op_buildSlice rfl rfl rfl slb_52 rfl rfl (by intro v hv; simp only [List.mem_cons, List.not_mem_nil, or_false] at hv; subst hv; exact ⟨rfl, (plain_of rfl)⟩) (by decide) fun g7 => (DXs.mk (List.Sublist.cons _ (List.Sublist.refl _)) ?_))
    refine DX.stepT 13 16383 (by kernel_rfl) rfl rfl rfl rfl (op_appendM edC (i := 1) (j := 0) (xs := Y) ([(Sm.acc x0, Sm.dev x0)]) rfl rfl rfl slb_52 rfl rfl rfl rfl rfl rfl (by rw [List.length_singleton]; omega) (by rw [List.length_singleton]; omega) fun A2 c2 => ?_)
    refine DX.takeW 14 32767 (by kernel_rfl) rfl rfl rfl rfl rfl (yw_assign rfl rfl) ?_
    refine DX.done (by kernel_rfl) (XX.inBlock (V' := [(0, _), (3, _), (4, _)]) ⟨rfl, rfl, rfl, trivial⟩ ?_)
    refine XX.next (V' := [(0, _), (3, _), (4, _)]) ⟨rfl, rfl, rfl, trivial⟩ ?_
    refine CX.region ?_
    refine RX.cons rfl rfl (op_w (yw_move rfl rfl) rfl rfl ?_)
    refine RX.cons rfl rfl (op_w (yw_add rfl rfl rfl (by omega) (by omega)) rfl rfl ?_)
    refine RX.cons rfl rfl (op_w (yw_assign rfl rfl) rfl rfl ?_)
    refine RX.nil (XX.againP ([.row (some ⟨g7, 0, none⟩) 1 73 2 (List.map edC ([(Sm.acc x0, Sm.dev x0)]))]) (i + 1, (A2, c2), Y ++ [(Sm.acc x0, Sm.dev x0)]) (by dsimp only; omega) ⟨by dsimp only; omega, by dsimp only; rw [hY, edgesOf, edgesOf, take_map_succ hx0]⟩ ⟨rfl, rfl, rfl, trivial⟩ ((perm_pick 1 rfl).trans (List.Perm.cons _ (List.Perm.refl _))))
  · rw [List.take_of_length_le (by omega)] at hY
    refine CX.exit ?_
    refine XX.then_exit ?_
    refine XX.then_exit ?_
    refine XX.block_exit ?_
    refine XX.next (V' := [(3, _)]) ⟨rfl, trivial⟩ ?_
    refine CX.seq ?_
    refine CX.region ?_
    refine RX.cons rfl rfl (op_w (yw_move rfl rfl) rfl rfl ?_)
    refine RX.cons rfl rfl (op_w (yw_assign rfl rfl) rfl rfl ?_)
    refine RX.nil (XX.next (V' := [(2, .slice A1 (List.length (Y : List (Int × Int))) c1)]) ⟨rfl, trivial⟩ ?_)
    refine CX.ret ?_
    exact ret_tmp rfl rfl fun w1 hw => ⟨(A1, c1), trivial, by rw [hY], by rw [← hY]; exact hw.pick ((perm_pick 0 rfl).trans (List.Perm.cons _ (List.Perm.refl _)))⟩

end Go.Proofs.Ytpcfgoadkfajfaa
namespace Go.Proofs.Ytpcfgoadkfajfaa
set_option linter.all false
open Go Go.RowKit
set_option maxRecDepth 100000
theorem fld_44_0 : Fld Try.prog 44 0 0 := ⟨_, _, (Try.prog.info? 3).get!, Try.underlying44, rfl, rfl, by kernel_rfl, by decide +kernel⟩
theorem fld_44_1 : Fld Try.prog 44 1 1 := ⟨_, _, (Try.prog.info? 3).get!, Try.underlying44, rfl, rfl, by kernel_rfl, by decide +kernel⟩
theorem fld_44_2 : Fld Try.prog 44 2 2 := ⟨_, _, (Try.prog.info? 3).get!, Try.underlying44, rfl, rfl, by kernel_rfl, by decide +kernel⟩
theorem fld_44_3 : Fld Try.prog 44 3 3 := ⟨_, _, (Try.prog.info? 3).get!, Try.underlying44, rfl, rfl, by kernel_rfl, by decide +kernel⟩
/-- A rule, and whether it is valid. -/
structure Ru where
  act : Int
  sub : Int
  mea : Int
  n : Int
abbrev ruC (r : Ru) : Array Value := #[.int .i64 r.act, .int .i64 r.sub, .int .i64 r.mea, .int .i64 r.n]
def okR (r : Ru) : Bool := decide ((r.act = 3 ∧ r.sub = 1 ∧ r.mea = 0 ∧ 1 ≤ r.n ∧ r.n ≤ 1000000) ∨ ((r.act = 1 ∨ r.act = 2) ∧ 1 ≤ r.sub ∧ r.sub ≤ 3 ∧ 1 ≤ r.mea ∧ r.mea ≤ 4 ∧ 0 ≤ r.n ∧ r.n ≤ 1000000))
set_option maxRecDepth 100000 in
theorem w_valid09 {w : World} (r : Ru) :
    Calls Try.prog 55 #[.agg (ruC r)] w (fun e w' => e = .returned (.bool (okR r)) ∧ SL w [] w' []) := by
  refine calls_of_CX (O := []) (L := []) (args := [.agg (ruC r)]) Try.func55 rfl (by simp [Try.ntmps55]) (SL.refl w) ?_
  refine CX.sub (V' := [(0, .agg (ruC r))]) ⟨rfl, trivial⟩ ?_
  refine CX.seq ?_
  refine CX.region ?_
  refine RX.cons rfl rfl (op_box rfl rfl rfl rfl fun gr => ?_)
  refine RX.cons rfl rfl (op_w (yw_assign rfl rfl) rfl rfl ?_)
  refine RX.nil (XX.next (V' := [(1, _)]) ⟨rfl, trivial⟩ ?_)
  refine CX.seq ?_
  refine CX.seq ?_
  refine CX.region ?_
  refine RX.cons rfl rfl (op_w (yw_field0 rfl fld_44_0 rfl) rfl rfl ?_)
  refine RX.cons rfl rfl (op_yld (y_load (i := 0) rfl rfl one_3 rfl rfl) rfl rfl ?_)
  refine RX.cons rfl rfl (op_w (yw_eql rfl rfl rfl) rfl rfl ?_)
  refine RX.nil (XX.next (V' := [(1, _), (7, _)]) ⟨rfl, rfl, trivial⟩ ?_)
  refine CX.condD (p := Ru.act r = 3) rfl (fun c7 => ?_) (fun c7 => ?_)
  · refine CX.seq ?_
    refine CX.region ?_
    refine RX.cons rfl rfl (op_w (yw_fieldAddr rfl fld_44_1 rfl) rfl rfl ?_)
    refine RX.cons rfl rfl (op_yld (y_load (i := 0) rfl rfl one_3 rfl rfl) rfl rfl ?_)
    refine RX.cons rfl rfl (op_w (yw_eql rfl rfl rfl) rfl rfl ?_)
    refine RX.cons rfl rfl (op_w (yw_move rfl rfl) rfl rfl ?_)
    refine RX.splitD (t := 11) (p := Ru.sub r = 1) rfl (fun d11 => ?_) (fun d11 => ?_)
    · refine RX.consG rfl rfl rfl rfl rfl (op_w (yw_fieldAddr rfl fld_44_2 rfl) rfl rfl ?_)
      refine RX.consG rfl rfl rfl rfl rfl (op_yld (y_load (i := 0) rfl rfl one_3 rfl rfl) rfl rfl ?_)
      refine RX.consG rfl rfl rfl rfl rfl (op_w (yw_eql rfl rfl rfl) rfl rfl ?_)
      refine RX.cons rfl rfl (op_w (yw_pickT rfl rfl rfl) rfl rfl ?_)
      refine RX.cons rfl rfl (op_w (yw_move rfl rfl) rfl rfl ?_)
      refine RX.splitD (t := 16) (p := Ru.mea r = 0) rfl (fun d16 => ?_) (fun d16 => ?_)
      · refine RX.consG rfl rfl rfl rfl rfl (op_w (yw_fieldAddr rfl fld_44_3 rfl) rfl rfl ?_)
        refine RX.consG rfl rfl rfl rfl rfl (op_yld (y_load (i := 0) rfl rfl one_3 rfl rfl) rfl rfl ?_)
        refine RX.consG rfl rfl rfl rfl rfl (op_w (yw_geq rfl rfl rfl) rfl rfl ?_)
        refine RX.cons rfl rfl (op_w (yw_pickT rfl rfl rfl) rfl rfl ?_)
        refine RX.cons rfl rfl (op_w (yw_move rfl rfl) rfl rfl ?_)
        refine RX.splitD (t := 21) (p := 1 ≤ Ru.n r) rfl (fun d21 => ?_) (fun d21 => ?_)
        · refine RX.consG rfl rfl rfl rfl rfl (op_w (yw_fieldAddr rfl fld_44_3 rfl) rfl rfl ?_)
          refine RX.consG rfl rfl rfl rfl rfl (op_yld (y_load (i := 0) rfl rfl one_3 rfl rfl) rfl rfl ?_)
          refine RX.consG rfl rfl rfl rfl rfl (op_w (yw_leq rfl rfl rfl) rfl rfl ?_)
          refine RX.cons rfl rfl (op_w (yw_pickT rfl rfl rfl) rfl rfl ?_)
          refine RX.cons rfl rfl (op_w (yw_assign rfl rfl) rfl rfl ?_)
          refine RX.nil (XX.next (V' := [(2, .bool (decide (Ru.n r ≤ 1000000)))]) ⟨rfl, trivial⟩ ?_)
          refine CX.ret ?_
          refine XX.then_ret ?_
          exact ret_tmp rfl rfl fun w1 hw => ⟨congrArg (fun b => Ending.returned (Value.bool b)) (by unfold okR; first | exact (decide_eq_false (by omega)).symm | exact decide_eq_decide.2 (by omega) | exact (decide_eq_true (by omega)).symm), hw.sub (List.nil_sublist _)⟩
        · refine RX.skip rfl rfl rfl rfl rfl rfl rfl ?_
          refine RX.skip rfl rfl rfl rfl rfl rfl rfl ?_
          refine RX.skip rfl rfl rfl rfl rfl rfl rfl ?_
          refine RX.cons rfl rfl (op_w (yw_pickF rfl rfl rfl) rfl rfl ?_)
          refine RX.cons rfl rfl (op_w (yw_assign rfl rfl) rfl rfl ?_)
          refine RX.nil (XX.next (V' := [(2, .bool false)]) ⟨rfl, trivial⟩ ?_)
          refine CX.ret ?_
          refine XX.then_ret ?_
          exact ret_tmp rfl rfl fun w1 hw => ⟨congrArg (fun b => Ending.returned (Value.bool b)) (by unfold okR; first | exact (decide_eq_false (by omega)).symm | exact decide_eq_decide.2 (by omega) | exact (decide_eq_true (by omega)).symm), hw.sub (List.nil_sublist _)⟩
      · refine RX.skip rfl rfl rfl rfl rfl rfl rfl ?_
        refine RX.skip rfl rfl rfl rfl rfl rfl rfl ?_
        refine RX.skip rfl rfl rfl rfl rfl rfl rfl ?_
        refine RX.cons rfl rfl (op_w (yw_pickF rfl rfl rfl) rfl rfl ?_)
        refine RX.cons rfl rfl (op_w (yw_move rfl rfl) rfl rfl ?_)
        refine RX.skip rfl rfl rfl rfl rfl rfl rfl ?_
        refine RX.skip rfl rfl rfl rfl rfl rfl rfl ?_
        refine RX.skip rfl rfl rfl rfl rfl rfl rfl ?_
        refine RX.cons rfl rfl (op_w (yw_pickF rfl rfl rfl) rfl rfl ?_)
        refine RX.cons rfl rfl (op_w (yw_assign rfl rfl) rfl rfl ?_)
        refine RX.nil (XX.next (V' := [(2, .bool false)]) ⟨rfl, trivial⟩ ?_)
        refine CX.ret ?_
        refine XX.then_ret ?_
        exact ret_tmp rfl rfl fun w1 hw => ⟨congrArg (fun b => Ending.returned (Value.bool b)) (by unfold okR; first | exact (decide_eq_false (by omega)).symm | exact decide_eq_decide.2 (by omega) | exact (decide_eq_true (by omega)).symm), hw.sub (List.nil_sublist _)⟩
    · refine RX.skip rfl rfl rfl rfl rfl rfl rfl ?_
      refine RX.skip rfl rfl rfl rfl rfl rfl rfl ?_
      refine RX.skip rfl rfl rfl rfl rfl rfl rfl ?_
      refine RX.cons rfl rfl (op_w (yw_pickF rfl rfl rfl) rfl rfl ?_)
      refine RX.cons rfl rfl (op_w (yw_move rfl rfl) rfl rfl ?_)
      refine RX.skip rfl rfl rfl rfl rfl rfl rfl ?_
      refine RX.skip rfl rfl rfl rfl rfl rfl rfl ?_
      refine RX.skip rfl rfl rfl rfl rfl rfl rfl ?_
      refine RX.cons rfl rfl (op_w (yw_pickF rfl rfl rfl) rfl rfl ?_)
      refine RX.cons rfl rfl (op_w (yw_move rfl rfl) rfl rfl ?_)
      refine RX.skip rfl rfl rfl rfl rfl rfl rfl ?_
      refine RX.skip rfl rfl rfl rfl rfl rfl rfl ?_
      refine RX.skip rfl rfl rfl rfl rfl rfl rfl ?_
      refine RX.cons rfl rfl (op_w (yw_pickF rfl rfl rfl) rfl rfl ?_)
      refine RX.cons rfl rfl (op_w (yw_assign rfl rfl) rfl rfl ?_)
      refine RX.nil (XX.next (V' := [(2, .bool false)]) ⟨rfl, trivial⟩ ?_)
      refine CX.ret ?_
      refine XX.then_ret ?_
      exact ret_tmp rfl rfl fun w1 hw => ⟨congrArg (fun b => Ending.returned (Value.bool b)) (by unfold okR; first | exact (decide_eq_false (by omega)).symm | exact decide_eq_decide.2 (by omega) | exact (decide_eq_true (by omega)).symm), hw.sub (List.nil_sublist _)⟩
  · refine CX.skip (XX.next (V' := [(1, _)]) ⟨rfl, trivial⟩ ?_)
    refine CX.seq ?_
    refine CX.region ?_
    refine RX.cons rfl rfl (op_w (yw_fieldAddr rfl fld_44_1 rfl) rfl rfl ?_)
    refine RX.cons rfl rfl (op_yld (y_load (i := 0) rfl rfl one_3 rfl rfl) rfl rfl ?_)
    refine RX.cons rfl rfl (op_w (yw_eql rfl rfl rfl) rfl rfl ?_)
    refine RX.cons rfl rfl (op_w (yw_move rfl rfl) rfl rfl ?_)
    refine RX.splitD (t := 29) (p := Ru.sub r = 1) rfl (fun d29 => ?_) (fun d29 => ?_)
    · refine RX.skip rfl rfl rfl rfl rfl rfl rfl ?_
      refine RX.skip rfl rfl rfl rfl rfl rfl rfl ?_
      refine RX.skip rfl rfl rfl rfl rfl rfl rfl ?_
      refine RX.cons rfl rfl (op_w (yw_pickT rfl rfl rfl) rfl rfl ?_)
      refine RX.cons rfl rfl (op_w (yw_move rfl rfl) rfl rfl ?_)
      refine RX.skip rfl rfl rfl rfl rfl rfl rfl ?_
      refine RX.skip rfl rfl rfl rfl rfl rfl rfl ?_
      refine RX.skip rfl rfl rfl rfl rfl rfl rfl ?_
      refine RX.cons rfl rfl (op_w (yw_pickT rfl rfl rfl) rfl rfl ?_)
      refine RX.cons rfl rfl (op_w (yw_assign rfl rfl) rfl rfl ?_)
      refine RX.nil (XX.next (V' := [(1, _), (3, _)]) ⟨rfl, rfl, trivial⟩ ?_)
      refine CX.seq ?_
      refine CX.region ?_
      refine RX.cons rfl rfl (op_w (yw_fieldAddr rfl fld_44_2 rfl) rfl rfl ?_)
      refine RX.cons rfl rfl (op_yld (y_load (i := 0) rfl rfl one_3 rfl rfl) rfl rfl ?_)
      refine RX.cons rfl rfl (op_w (yw_geq rfl rfl rfl) rfl rfl ?_)
      refine RX.cons rfl rfl (op_w (yw_move rfl rfl) rfl rfl ?_)
      refine RX.splitD (t := 42) (p := 1 ≤ Ru.mea r) rfl (fun d42 => ?_) (fun d42 => ?_)
      · refine RX.consG rfl rfl rfl rfl rfl (op_w (yw_fieldAddr rfl fld_44_2 rfl) rfl rfl ?_)
        refine RX.consG rfl rfl rfl rfl rfl (op_yld (y_load (i := 0) rfl rfl one_3 rfl rfl) rfl rfl ?_)
        refine RX.consG rfl rfl rfl rfl rfl (op_w (yw_leq rfl rfl rfl) rfl rfl ?_)
        refine RX.cons rfl rfl (op_w (yw_pickT rfl rfl rfl) rfl rfl ?_)
        refine RX.cons rfl rfl (op_w (yw_assign rfl rfl) rfl rfl ?_)
        refine RX.nil (XX.next (V' := [(1, _), (3, _), (4, _)]) ⟨rfl, rfl, rfl, trivial⟩ ?_)
        refine CX.seq ?_
        refine CX.region ?_
        refine RX.cons rfl rfl (op_w (yw_field0 rfl fld_44_0 rfl) rfl rfl ?_)
        refine RX.cons rfl rfl (op_yld (y_load (i := 0) rfl rfl one_3 rfl rfl) rfl rfl ?_)
        refine RX.cons rfl rfl (op_w (yw_eql rfl rfl rfl) rfl rfl ?_)
        refine RX.cons rfl rfl (op_w (yw_move rfl rfl) rfl rfl ?_)
        refine RX.splitD (t := 50) (p := Ru.act r = 1) rfl (fun d50 => ?_) (fun d50 => ?_)
        · refine RX.skip rfl rfl rfl rfl rfl rfl rfl ?_
          refine RX.skip rfl rfl rfl rfl rfl rfl rfl ?_
          refine RX.skip rfl rfl rfl rfl rfl rfl rfl ?_
          refine RX.cons rfl rfl (op_w (yw_pickT rfl rfl rfl) rfl rfl ?_)
          refine RX.cons rfl rfl (op_w (yw_move rfl rfl) rfl rfl ?_)
          refine RX.consG rfl rfl rfl rfl rfl (op_w (yw_move rfl rfl) rfl rfl ?_)
          refine RX.cons rfl rfl (op_w (yw_pickT rfl rfl rfl) rfl rfl ?_)
          refine RX.cons rfl rfl (op_w (yw_move rfl rfl) rfl rfl ?_)
          refine RX.consG rfl rfl rfl rfl rfl (op_w (yw_move rfl rfl) rfl rfl ?_)
          refine RX.cons rfl rfl (op_w (yw_pickT rfl rfl rfl) rfl rfl ?_)
          refine RX.cons rfl rfl (op_w (yw_move rfl rfl) rfl rfl ?_)
          refine RX.splitD (t := 61) (p := Ru.mea r ≤ 4) rfl (fun d61 => ?_) (fun d61 => ?_)
          · refine RX.consG rfl rfl rfl rfl rfl (op_w (yw_fieldAddr rfl fld_44_3 rfl) rfl rfl ?_)
            refine RX.consG rfl rfl rfl rfl rfl (op_yld (y_load (i := 0) rfl rfl one_3 rfl rfl) rfl rfl ?_)
            refine RX.consG rfl rfl rfl rfl rfl (op_w (yw_geq rfl rfl rfl) rfl rfl ?_)
            refine RX.cons rfl rfl (op_w (yw_pickT rfl rfl rfl) rfl rfl ?_)
            refine RX.cons rfl rfl (op_w (yw_move rfl rfl) rfl rfl ?_)
            refine RX.splitD (t := 66) (p := 0 ≤ Ru.n r) rfl (fun d66 => ?_) (fun d66 => ?_)
            · refine RX.consG rfl rfl rfl rfl rfl (op_w (yw_fieldAddr rfl fld_44_3 rfl) rfl rfl ?_)
              refine RX.consG rfl rfl rfl rfl rfl (op_yld (y_load (i := 0) rfl rfl one_3 rfl rfl) rfl rfl ?_)
              refine RX.consG rfl rfl rfl rfl rfl (op_w (yw_leq rfl rfl rfl) rfl rfl ?_)
              refine RX.cons rfl rfl (op_w (yw_pickT rfl rfl rfl) rfl rfl ?_)
              refine RX.cons rfl rfl (op_w (yw_assign rfl rfl) rfl rfl ?_)
              refine RX.nil (XX.next (V' := [(2, .bool (decide (Ru.n r ≤ 1000000)))]) ⟨rfl, trivial⟩ ?_)
              refine CX.ret ?_
              exact ret_tmp rfl rfl fun w1 hw => ⟨congrArg (fun b => Ending.returned (Value.bool b)) (by unfold okR; first | exact (decide_eq_false (by omega)).symm | exact decide_eq_decide.2 (by omega) | exact (decide_eq_true (by omega)).symm), hw.sub (List.nil_sublist _)⟩
            · refine RX.skip rfl rfl rfl rfl rfl rfl rfl ?_
              refine RX.skip rfl rfl rfl rfl rfl rfl rfl ?_
              refine RX.skip rfl rfl rfl rfl rfl rfl rfl ?_
              refine RX.cons rfl rfl (op_w (yw_pickF rfl rfl rfl) rfl rfl ?_)
              refine RX.cons rfl rfl (op_w (yw_assign rfl rfl) rfl rfl ?_)
              refine RX.nil (XX.next (V' := [(2, .bool false)]) ⟨rfl, trivial⟩ ?_)
              refine CX.ret ?_
              exact ret_tmp rfl rfl fun w1 hw => ⟨congrArg (fun b => Ending.returned (Value.bool b)) (by unfold okR; first | exact (decide_eq_false (by omega)).symm | exact decide_eq_decide.2 (by omega) | exact (decide_eq_true (by omega)).symm), hw.sub (List.nil_sublist _)⟩
          · refine RX.skip rfl rfl rfl rfl rfl rfl rfl ?_
            refine RX.skip rfl rfl rfl rfl rfl rfl rfl ?_
            refine RX.skip rfl rfl rfl rfl rfl rfl rfl ?_
            refine RX.cons rfl rfl (op_w (yw_pickF rfl rfl rfl) rfl rfl ?_)
            refine RX.cons rfl rfl (op_w (yw_move rfl rfl) rfl rfl ?_)
            refine RX.skip rfl rfl rfl rfl rfl rfl rfl ?_
            refine RX.skip rfl rfl rfl rfl rfl rfl rfl ?_
            refine RX.skip rfl rfl rfl rfl rfl rfl rfl ?_
            refine RX.cons rfl rfl (op_w (yw_pickF rfl rfl rfl) rfl rfl ?_)
            refine RX.cons rfl rfl (op_w (yw_assign rfl rfl) rfl rfl ?_)
            refine RX.nil (XX.next (V' := [(2, .bool false)]) ⟨rfl, trivial⟩ ?_)
            refine CX.ret ?_
            exact ret_tmp rfl rfl fun w1 hw => ⟨congrArg (fun b => Ending.returned (Value.bool b)) (by unfold okR; first | exact (decide_eq_false (by omega)).symm | exact decide_eq_decide.2 (by omega) | exact (decide_eq_true (by omega)).symm), hw.sub (List.nil_sublist _)⟩
        · refine RX.consG rfl rfl rfl rfl rfl (op_w (yw_field0 rfl fld_44_0 rfl) rfl rfl ?_)
          refine RX.consG rfl rfl rfl rfl rfl (op_yld (y_load (i := 0) rfl rfl one_3 rfl rfl) rfl rfl ?_)
          refine RX.consG rfl rfl rfl rfl rfl (op_w (yw_eql rfl rfl rfl) rfl rfl ?_)
          refine RX.cons rfl rfl (op_w (yw_pickF rfl rfl rfl) rfl rfl ?_)
          refine RX.cons rfl rfl (op_w (yw_move rfl rfl) rfl rfl ?_)
          refine RX.splitD (t := 55) (p := Ru.act r = 2) rfl (fun d55 => ?_) (fun d55 => ?_)
          · refine RX.consG rfl rfl rfl rfl rfl (op_w (yw_move rfl rfl) rfl rfl ?_)
            refine RX.cons rfl rfl (op_w (yw_pickT rfl rfl rfl) rfl rfl ?_)
            refine RX.cons rfl rfl (op_w (yw_move rfl rfl) rfl rfl ?_)
            refine RX.consG rfl rfl rfl rfl rfl (op_w (yw_move rfl rfl) rfl rfl ?_)
            refine RX.cons rfl rfl (op_w (yw_pickT rfl rfl rfl) rfl rfl ?_)
            refine RX.cons rfl rfl (op_w (yw_move rfl rfl) rfl rfl ?_)
            refine RX.splitD (t := 61) (p := Ru.mea r ≤ 4) rfl (fun d61 => ?_) (fun d61 => ?_)
            · refine RX.consG rfl rfl rfl rfl rfl (op_w (yw_fieldAddr rfl fld_44_3 rfl) rfl rfl ?_)
              refine RX.consG rfl rfl rfl rfl rfl (op_yld (y_load (i := 0) rfl rfl one_3 rfl rfl) rfl rfl ?_)
              refine RX.consG rfl rfl rfl rfl rfl (op_w (yw_geq rfl rfl rfl) rfl rfl ?_)
              refine RX.cons rfl rfl (op_w (yw_pickT rfl rfl rfl) rfl rfl ?_)
              refine RX.cons rfl rfl (op_w (yw_move rfl rfl) rfl rfl ?_)
              refine RX.splitD (t := 66) (p := 0 ≤ Ru.n r) rfl (fun d66 => ?_) (fun d66 => ?_)
              · refine RX.consG rfl rfl rfl rfl rfl (op_w (yw_fieldAddr rfl fld_44_3 rfl) rfl rfl ?_)
                refine RX.consG rfl rfl rfl rfl rfl (op_yld (y_load (i := 0) rfl rfl one_3 rfl rfl) rfl rfl ?_)
                refine RX.consG rfl rfl rfl rfl rfl (op_w (yw_leq rfl rfl rfl) rfl rfl ?_)
                refine RX.cons rfl rfl (op_w (yw_pickT rfl rfl rfl) rfl rfl ?_)
                refine RX.cons rfl rfl (op_w (yw_assign rfl rfl) rfl rfl ?_)
                refine RX.nil (XX.next (V' := [(2, .bool (decide (Ru.n r ≤ 1000000)))]) ⟨rfl, trivial⟩ ?_)
                refine CX.ret ?_
                exact ret_tmp rfl rfl fun w1 hw => ⟨congrArg (fun b => Ending.returned (Value.bool b)) (by unfold okR; first | exact (decide_eq_false (by omega)).symm | exact decide_eq_decide.2 (by omega) | exact (decide_eq_true (by omega)).symm), hw.sub (List.nil_sublist _)⟩
              · refine RX.skip rfl rfl rfl rfl rfl rfl rfl ?_
                refine RX.skip rfl rfl rfl rfl rfl rfl rfl ?_
                refine RX.skip rfl rfl rfl rfl rfl rfl rfl ?_
                refine RX.cons rfl rfl (op_w (yw_pickF rfl rfl rfl) rfl rfl ?_)
                refine RX.cons rfl rfl (op_w (yw_assign rfl rfl) rfl rfl ?_)
                refine RX.nil (XX.next (V' := [(2, .bool false)]) ⟨rfl, trivial⟩ ?_)
                refine CX.ret ?_
                exact ret_tmp rfl rfl fun w1 hw => ⟨congrArg (fun b => Ending.returned (Value.bool b)) (by unfold okR; first | exact (decide_eq_false (by omega)).symm | exact decide_eq_decide.2 (by omega) | exact (decide_eq_true (by omega)).symm), hw.sub (List.nil_sublist _)⟩
            · refine RX.skip rfl rfl rfl rfl rfl rfl rfl ?_
              refine RX.skip rfl rfl rfl rfl rfl rfl rfl ?_
              refine RX.skip rfl rfl rfl rfl rfl rfl rfl ?_
              refine RX.cons rfl rfl (op_w (yw_pickF rfl rfl rfl) rfl rfl ?_)
              refine RX.cons rfl rfl (op_w (yw_move rfl rfl) rfl rfl ?_)
              refine RX.skip rfl rfl rfl rfl rfl rfl rfl ?_
              refine RX.skip rfl rfl rfl rfl rfl rfl rfl ?_
              refine RX.skip rfl rfl rfl rfl rfl rfl rfl ?_
              refine RX.cons rfl rfl (op_w (yw_pickF rfl rfl rfl) rfl rfl ?_)
              refine RX.cons rfl rfl (op_w (yw_assign rfl rfl) rfl rfl ?_)
              refine RX.nil (XX.next (V' := [(2, .bool false)]) ⟨rfl, trivial⟩ ?_)
              refine CX.ret ?_
              exact ret_tmp rfl rfl fun w1 hw => ⟨congrArg (fun b => Ending.returned (Value.bool b)) (by unfold okR; first | exact (decide_eq_false (by omega)).symm | exact decide_eq_decide.2 (by omega) | exact (decide_eq_true (by omega)).symm), hw.sub (List.nil_sublist _)⟩
          · refine RX.skip rfl rfl rfl rfl rfl rfl rfl ?_
            refine RX.cons rfl rfl (op_w (yw_pickF rfl rfl rfl) rfl rfl ?_)
            refine RX.cons rfl rfl (op_w (yw_move rfl rfl) rfl rfl ?_)
            refine RX.skip rfl rfl rfl rfl rfl rfl rfl ?_
            refine RX.cons rfl rfl (op_w (yw_pickF rfl rfl rfl) rfl rfl ?_)
            refine RX.cons rfl rfl (op_w (yw_move rfl rfl) rfl rfl ?_)
            refine RX.skip rfl rfl rfl rfl rfl rfl rfl ?_
            refine RX.skip rfl rfl rfl rfl rfl rfl rfl ?_
            refine RX.skip rfl rfl rfl rfl rfl rfl rfl ?_
            refine RX.cons rfl rfl (op_w (yw_pickF rfl rfl rfl) rfl rfl ?_)
            refine RX.cons rfl rfl (op_w (yw_move rfl rfl) rfl rfl ?_)
            refine RX.skip rfl rfl rfl rfl rfl rfl rfl ?_
            refine RX.skip rfl rfl rfl rfl rfl rfl rfl ?_
            refine RX.skip rfl rfl rfl rfl rfl rfl rfl ?_
            refine RX.cons rfl rfl (op_w (yw_pickF rfl rfl rfl) rfl rfl ?_)
            refine RX.cons rfl rfl (op_w (yw_assign rfl rfl) rfl rfl ?_)
            refine RX.nil (XX.next (V' := [(2, .bool false)]) ⟨rfl, trivial⟩ ?_)
            refine CX.ret ?_
            exact ret_tmp rfl rfl fun w1 hw => ⟨congrArg (fun b => Ending.returned (Value.bool b)) (by unfold okR; first | exact (decide_eq_false (by omega)).symm | exact decide_eq_decide.2 (by omega) | exact (decide_eq_true (by omega)).symm), hw.sub (List.nil_sublist _)⟩
      · refine RX.skip rfl rfl rfl rfl rfl rfl rfl ?_
        refine RX.skip rfl rfl rfl rfl rfl rfl rfl ?_
        refine RX.skip rfl rfl rfl rfl rfl rfl rfl ?_
        refine RX.cons rfl rfl (op_w (yw_pickF rfl rfl rfl) rfl rfl ?_)
        refine RX.cons rfl rfl (op_w (yw_assign rfl rfl) rfl rfl ?_)
        refine RX.nil (XX.next (V' := [(1, _), (3, _), (4, _)]) ⟨rfl, rfl, rfl, trivial⟩ ?_)
        refine CX.seq ?_
        refine CX.region ?_
        refine RX.cons rfl rfl (op_w (yw_field0 rfl fld_44_0 rfl) rfl rfl ?_)
        refine RX.cons rfl rfl (op_yld (y_load (i := 0) rfl rfl one_3 rfl rfl) rfl rfl ?_)
        refine RX.cons rfl rfl (op_w (yw_eql rfl rfl rfl) rfl rfl ?_)
        refine RX.cons rfl rfl (op_w (yw_move rfl rfl) rfl rfl ?_)
        refine RX.splitD (t := 50) (p := Ru.act r = 1) rfl (fun d50 => ?_) (fun d50 => ?_)
        · refine RX.skip rfl rfl rfl rfl rfl rfl rfl ?_
          refine RX.skip rfl rfl rfl rfl rfl rfl rfl ?_
          refine RX.skip rfl rfl rfl rfl rfl rfl rfl ?_
          refine RX.cons rfl rfl (op_w (yw_pickT rfl rfl rfl) rfl rfl ?_)
          refine RX.cons rfl rfl (op_w (yw_move rfl rfl) rfl rfl ?_)
          refine RX.consG rfl rfl rfl rfl rfl (op_w (yw_move rfl rfl) rfl rfl ?_)
          refine RX.cons rfl rfl (op_w (yw_pickT rfl rfl rfl) rfl rfl ?_)
          refine RX.cons rfl rfl (op_w (yw_move rfl rfl) rfl rfl ?_)
          refine RX.consG rfl rfl rfl rfl rfl (op_w (yw_move rfl rfl) rfl rfl ?_)
          refine RX.cons rfl rfl (op_w (yw_pickT rfl rfl rfl) rfl rfl ?_)
          refine RX.cons rfl rfl (op_w (yw_move rfl rfl) rfl rfl ?_)
          refine RX.skip rfl rfl rfl rfl rfl rfl rfl ?_
          refine RX.skip rfl rfl rfl rfl rfl rfl rfl ?_
          refine RX.skip rfl rfl rfl rfl rfl rfl rfl ?_
          refine RX.cons rfl rfl (op_w (yw_pickF rfl rfl rfl) rfl rfl ?_)
          refine RX.cons rfl rfl (op_w (yw_move rfl rfl) rfl rfl ?_)
          refine RX.skip rfl rfl rfl rfl rfl rfl rfl ?_
          refine RX.skip rfl rfl rfl rfl rfl rfl rfl ?_
          refine RX.skip rfl rfl rfl rfl rfl rfl rfl ?_
          refine RX.cons rfl rfl (op_w (yw_pickF rfl rfl rfl) rfl rfl ?_)
          refine RX.cons rfl rfl (op_w (yw_assign rfl rfl) rfl rfl ?_)
          refine RX.nil (XX.next (V' := [(2, .bool false)]) ⟨rfl, trivial⟩ ?_)
          refine CX.ret ?_
          exact ret_tmp rfl rfl fun w1 hw => ⟨congrArg (fun b => Ending.returned (Value.bool b)) (by unfold okR; first | exact (decide_eq_false (by omega)).symm | exact decide_eq_decide.2 (by omega) | exact (decide_eq_true (by omega)).symm), hw.sub (List.nil_sublist _)⟩
        · refine RX.consG rfl rfl rfl rfl rfl (op_w (yw_field0 rfl fld_44_0 rfl) rfl rfl ?_)
          refine RX.consG rfl rfl rfl rfl rfl (op_yld (y_load (i := 0) rfl rfl one_3 rfl rfl) rfl rfl ?_)
          refine RX.consG rfl rfl rfl rfl rfl (op_w (yw_eql rfl rfl rfl) rfl rfl ?_)
          refine RX.cons rfl rfl (op_w (yw_pickF rfl rfl rfl) rfl rfl ?_)
          refine RX.cons rfl rfl (op_w (yw_move rfl rfl) rfl rfl ?_)
          refine RX.splitD (t := 55) (p := Ru.act r = 2) rfl (fun d55 => ?_) (fun d55 => ?_)
          · refine RX.consG rfl rfl rfl rfl rfl (op_w (yw_move rfl rfl) rfl rfl ?_)
            refine RX.cons rfl rfl (op_w (yw_pickT rfl rfl rfl) rfl rfl ?_)
            refine RX.cons rfl rfl (op_w (yw_move rfl rfl) rfl rfl ?_)
            refine RX.consG rfl rfl rfl rfl rfl (op_w (yw_move rfl rfl) rfl rfl ?_)
            refine RX.cons rfl rfl (op_w (yw_pickT rfl rfl rfl) rfl rfl ?_)
            refine RX.cons rfl rfl (op_w (yw_move rfl rfl) rfl rfl ?_)
            refine RX.skip rfl rfl rfl rfl rfl rfl rfl ?_
            refine RX.skip rfl rfl rfl rfl rfl rfl rfl ?_
            refine RX.skip rfl rfl rfl rfl rfl rfl rfl ?_
            refine RX.cons rfl rfl (op_w (yw_pickF rfl rfl rfl) rfl rfl ?_)
            refine RX.cons rfl rfl (op_w (yw_move rfl rfl) rfl rfl ?_)
            refine RX.skip rfl rfl rfl rfl rfl rfl rfl ?_
            refine RX.skip rfl rfl rfl rfl rfl rfl rfl ?_
            refine RX.skip rfl rfl rfl rfl rfl rfl rfl ?_
            refine RX.cons rfl rfl (op_w (yw_pickF rfl rfl rfl) rfl rfl ?_)
            refine RX.cons rfl rfl (op_w (yw_assign rfl rfl) rfl rfl ?_)
            refine RX.nil (XX.next (V' := [(2, .bool false)]) ⟨rfl, trivial⟩ ?_)
            refine CX.ret ?_
            exact ret_tmp rfl rfl fun w1 hw => ⟨congrArg (fun b => Ending.returned (Value.bool b)) (by unfold okR; first | exact (decide_eq_false (by omega)).symm | exact decide_eq_decide.2 (by omega) | exact (decide_eq_true (by omega)).symm), hw.sub (List.nil_sublist _)⟩
          · refine RX.skip rfl rfl rfl rfl rfl rfl rfl ?_
            refine RX.cons rfl rfl (op_w (yw_pickF rfl rfl rfl) rfl rfl ?_)
            refine RX.cons rfl rfl (op_w (yw_move rfl rfl) rfl rfl ?_)
            refine RX.skip rfl rfl rfl rfl rfl rfl rfl ?_
            refine RX.cons rfl rfl (op_w (yw_pickF rfl rfl rfl) rfl rfl ?_)
            refine RX.cons rfl rfl (op_w (yw_move rfl rfl) rfl rfl ?_)
            refine RX.skip rfl rfl rfl rfl rfl rfl rfl ?_
            refine RX.skip rfl rfl rfl rfl rfl rfl rfl ?_
            refine RX.skip rfl rfl rfl rfl rfl rfl rfl ?_
            refine RX.cons rfl rfl (op_w (yw_pickF rfl rfl rfl) rfl rfl ?_)
            refine RX.cons rfl rfl (op_w (yw_move rfl rfl) rfl rfl ?_)
            refine RX.skip rfl rfl rfl rfl rfl rfl rfl ?_
            refine RX.skip rfl rfl rfl rfl rfl rfl rfl ?_
            refine RX.skip rfl rfl rfl rfl rfl rfl rfl ?_
            refine RX.cons rfl rfl (op_w (yw_pickF rfl rfl rfl) rfl rfl ?_)
            refine RX.cons rfl rfl (op_w (yw_assign rfl rfl) rfl rfl ?_)
            refine RX.nil (XX.next (V' := [(2, .bool false)]) ⟨rfl, trivial⟩ ?_)
            refine CX.ret ?_
            exact ret_tmp rfl rfl fun w1 hw => ⟨congrArg (fun b => Ending.returned (Value.bool b)) (by unfold okR; first | exact (decide_eq_false (by omega)).symm | exact decide_eq_decide.2 (by omega) | exact (decide_eq_true (by omega)).symm), hw.sub (List.nil_sublist _)⟩
    · refine RX.consG rfl rfl rfl rfl rfl (op_w (yw_fieldAddr rfl fld_44_1 rfl) rfl rfl ?_)
      refine RX.consG rfl rfl rfl rfl rfl (op_yld (y_load (i := 0) rfl rfl one_3 rfl rfl) rfl rfl ?_)
      refine RX.consG rfl rfl rfl rfl rfl (op_w (yw_eql rfl rfl rfl) rfl rfl ?_)
      refine RX.cons rfl rfl (op_w (yw_pickF rfl rfl rfl) rfl rfl ?_)
      refine RX.cons rfl rfl (op_w (yw_move rfl rfl) rfl rfl ?_)
      refine RX.splitD (t := 34) (p := Ru.sub r = 2) rfl (fun d34 => ?_) (fun d34 => ?_)
      · refine RX.skip rfl rfl rfl rfl rfl rfl rfl ?_
        refine RX.skip rfl rfl rfl rfl rfl rfl rfl ?_
        refine RX.skip rfl rfl rfl rfl rfl rfl rfl ?_
        refine RX.cons rfl rfl (op_w (yw_pickT rfl rfl rfl) rfl rfl ?_)
        refine RX.cons rfl rfl (op_w (yw_assign rfl rfl) rfl rfl ?_)
        refine RX.nil (XX.next (V' := [(1, _), (3, _)]) ⟨rfl, rfl, trivial⟩ ?_)
        refine CX.seq ?_
        refine CX.region ?_
        refine RX.cons rfl rfl (op_w (yw_fieldAddr rfl fld_44_2 rfl) rfl rfl ?_)
        refine RX.cons rfl rfl (op_yld (y_load (i := 0) rfl rfl one_3 rfl rfl) rfl rfl ?_)
        refine RX.cons rfl rfl (op_w (yw_geq rfl rfl rfl) rfl rfl ?_)
        refine RX.cons rfl rfl (op_w (yw_move rfl rfl) rfl rfl ?_)
        refine RX.splitD (t := 42) (p := 1 ≤ Ru.mea r) rfl (fun d42 => ?_) (fun d42 => ?_)
        · refine RX.consG rfl rfl rfl rfl rfl (op_w (yw_fieldAddr rfl fld_44_2 rfl) rfl rfl ?_)
          refine RX.consG rfl rfl rfl rfl rfl (op_yld (y_load (i := 0) rfl rfl one_3 rfl rfl) rfl rfl ?_)
          refine RX.consG rfl rfl rfl rfl rfl (op_w (yw_leq rfl rfl rfl) rfl rfl ?_)
          refine RX.cons rfl rfl (op_w (yw_pickT rfl rfl rfl) rfl rfl ?_)
          refine RX.cons rfl rfl (op_w (yw_assign rfl rfl) rfl rfl ?_)
          refine RX.nil (XX.next (V' := [(1, _), (3, _), (4, _)]) ⟨rfl, rfl, rfl, trivial⟩ ?_)
          refine CX.seq ?_
          refine CX.region ?_
          refine RX.cons rfl rfl (op_w (yw_field0 rfl fld_44_0 rfl) rfl rfl ?_)
          refine RX.cons rfl rfl (op_yld (y_load (i := 0) rfl rfl one_3 rfl rfl) rfl rfl ?_)
          refine RX.cons rfl rfl (op_w (yw_eql rfl rfl rfl) rfl rfl ?_)
          refine RX.cons rfl rfl (op_w (yw_move rfl rfl) rfl rfl ?_)
          refine RX.splitD (t := 50) (p := Ru.act r = 1) rfl (fun d50 => ?_) (fun d50 => ?_)
          · refine RX.skip rfl rfl rfl rfl rfl rfl rfl ?_
            refine RX.skip rfl rfl rfl rfl rfl rfl rfl ?_
            refine RX.skip rfl rfl rfl rfl rfl rfl rfl ?_
            refine RX.cons rfl rfl (op_w (yw_pickT rfl rfl rfl) rfl rfl ?_)
            refine RX.cons rfl rfl (op_w (yw_move rfl rfl) rfl rfl ?_)
            refine RX.consG rfl rfl rfl rfl rfl (op_w (yw_move rfl rfl) rfl rfl ?_)
            refine RX.cons rfl rfl (op_w (yw_pickT rfl rfl rfl) rfl rfl ?_)
            refine RX.cons rfl rfl (op_w (yw_move rfl rfl) rfl rfl ?_)
            refine RX.consG rfl rfl rfl rfl rfl (op_w (yw_move rfl rfl) rfl rfl ?_)
            refine RX.cons rfl rfl (op_w (yw_pickT rfl rfl rfl) rfl rfl ?_)
            refine RX.cons rfl rfl (op_w (yw_move rfl rfl) rfl rfl ?_)
            refine RX.splitD (t := 61) (p := Ru.mea r ≤ 4) rfl (fun d61 => ?_) (fun d61 => ?_)
            · refine RX.consG rfl rfl rfl rfl rfl (op_w (yw_fieldAddr rfl fld_44_3 rfl) rfl rfl ?_)
              refine RX.consG rfl rfl rfl rfl rfl (op_yld (y_load (i := 0) rfl rfl one_3 rfl rfl) rfl rfl ?_)
              refine RX.consG rfl rfl rfl rfl rfl (op_w (yw_geq rfl rfl rfl) rfl rfl ?_)
              refine RX.cons rfl rfl (op_w (yw_pickT rfl rfl rfl) rfl rfl ?_)
              refine RX.cons rfl rfl (op_w (yw_move rfl rfl) rfl rfl ?_)
              refine RX.splitD (t := 66) (p := 0 ≤ Ru.n r) rfl (fun d66 => ?_) (fun d66 => ?_)
              · refine RX.consG rfl rfl rfl rfl rfl (op_w (yw_fieldAddr rfl fld_44_3 rfl) rfl rfl ?_)
                refine RX.consG rfl rfl rfl rfl rfl (op_yld (y_load (i := 0) rfl rfl one_3 rfl rfl) rfl rfl ?_)
                refine RX.consG rfl rfl rfl rfl rfl (op_w (yw_leq rfl rfl rfl) rfl rfl ?_)
                refine RX.cons rfl rfl (op_w (yw_pickT rfl rfl rfl) rfl rfl ?_)
                refine RX.cons rfl rfl (op_w (yw_assign rfl rfl) rfl rfl ?_)
                refine RX.nil (XX.next (V' := [(2, .bool (decide (Ru.n r ≤ 1000000)))]) ⟨rfl, trivial⟩ ?_)
                refine CX.ret ?_
                exact ret_tmp rfl rfl fun w1 hw => ⟨congrArg (fun b => Ending.returned (Value.bool b)) (by unfold okR; first | exact (decide_eq_false (by omega)).symm | exact decide_eq_decide.2 (by omega) | exact (decide_eq_true (by omega)).symm), hw.sub (List.nil_sublist _)⟩
              · refine RX.skip rfl rfl rfl rfl rfl rfl rfl ?_
                refine RX.skip rfl rfl rfl rfl rfl rfl rfl ?_
                refine RX.skip rfl rfl rfl rfl rfl rfl rfl ?_
                refine RX.cons rfl rfl (op_w (yw_pickF rfl rfl rfl) rfl rfl ?_)
                refine RX.cons rfl rfl (op_w (yw_assign rfl rfl) rfl rfl ?_)
                refine RX.nil (XX.next (V' := [(2, .bool false)]) ⟨rfl, trivial⟩ ?_)
                refine CX.ret ?_
                exact ret_tmp rfl rfl fun w1 hw => ⟨congrArg (fun b => Ending.returned (Value.bool b)) (by unfold okR; first | exact (decide_eq_false (by omega)).symm | exact decide_eq_decide.2 (by omega) | exact (decide_eq_true (by omega)).symm), hw.sub (List.nil_sublist _)⟩
            · refine RX.skip rfl rfl rfl rfl rfl rfl rfl ?_
              refine RX.skip rfl rfl rfl rfl rfl rfl rfl ?_
              refine RX.skip rfl rfl rfl rfl rfl rfl rfl ?_
              refine RX.cons rfl rfl (op_w (yw_pickF rfl rfl rfl) rfl rfl ?_)
              refine RX.cons rfl rfl (op_w (yw_move rfl rfl) rfl rfl ?_)
              refine RX.skip rfl rfl rfl rfl rfl rfl rfl ?_
              refine RX.skip rfl rfl rfl rfl rfl rfl rfl ?_
              refine RX.skip rfl rfl rfl rfl rfl rfl rfl ?_
              refine RX.cons rfl rfl (op_w (yw_pickF rfl rfl rfl) rfl rfl ?_)
              refine RX.cons rfl rfl (op_w (yw_assign rfl rfl) rfl rfl ?_)
              refine RX.nil (XX.next (V' := [(2, .bool false)]) ⟨rfl, trivial⟩ ?_)
              refine CX.ret ?_
              exact ret_tmp rfl rfl fun w1 hw => ⟨congrArg (fun b => Ending.returned (Value.bool b)) (by unfold okR; first | exact (decide_eq_false (by omega)).symm | exact decide_eq_decide.2 (by omega) | exact (decide_eq_true (by omega)).symm), hw.sub (List.nil_sublist _)⟩
          · refine RX.consG rfl rfl rfl rfl rfl (op_w (yw_field0 rfl fld_44_0 rfl) rfl rfl ?_)
            refine RX.consG rfl rfl rfl rfl rfl (op_yld (y_load (i := 0) rfl rfl one_3 rfl rfl) rfl rfl ?_)
            refine RX.consG rfl rfl rfl rfl rfl (op_w (yw_eql rfl rfl rfl) rfl rfl ?_)
            refine RX.cons rfl rfl (op_w (yw_pickF rfl rfl rfl) rfl rfl ?_)
            refine RX.cons rfl rfl (op_w (yw_move rfl rfl) rfl rfl ?_)
            refine RX.splitD (t := 55) (p := Ru.act r = 2) rfl (fun d55 => ?_) (fun d55 => ?_)
            · refine RX.consG rfl rfl rfl rfl rfl (op_w (yw_move rfl rfl) rfl rfl ?_)
              refine RX.cons rfl rfl (op_w (yw_pickT rfl rfl rfl) rfl rfl ?_)
              refine RX.cons rfl rfl (op_w (yw_move rfl rfl) rfl rfl ?_)
              refine RX.consG rfl rfl rfl rfl rfl (op_w (yw_move rfl rfl) rfl rfl ?_)
              refine RX.cons rfl rfl (op_w (yw_pickT rfl rfl rfl) rfl rfl ?_)
              refine RX.cons rfl rfl (op_w (yw_move rfl rfl) rfl rfl ?_)
              refine RX.splitD (t := 61) (p := Ru.mea r ≤ 4) rfl (fun d61 => ?_) (fun d61 => ?_)
              · refine RX.consG rfl rfl rfl rfl rfl (op_w (yw_fieldAddr rfl fld_44_3 rfl) rfl rfl ?_)
                refine RX.consG rfl rfl rfl rfl rfl (op_yld (y_load (i := 0) rfl rfl one_3 rfl rfl) rfl rfl ?_)
                refine RX.consG rfl rfl rfl rfl rfl (op_w (yw_geq rfl rfl rfl) rfl rfl ?_)
                refine RX.cons rfl rfl (op_w (yw_pickT rfl rfl rfl) rfl rfl ?_)
                refine RX.cons rfl rfl (op_w (yw_move rfl rfl) rfl rfl ?_)
                refine RX.splitD (t := 66) (p := 0 ≤ Ru.n r) rfl (fun d66 => ?_) (fun d66 => ?_)
                · refine RX.consG rfl rfl rfl rfl rfl (op_w (yw_fieldAddr rfl fld_44_3 rfl) rfl rfl ?_)
                  refine RX.consG rfl rfl rfl rfl rfl (op_yld (y_load (i := 0) rfl rfl one_3 rfl rfl) rfl rfl ?_)
                  refine RX.consG rfl rfl rfl rfl rfl (op_w (yw_leq rfl rfl rfl) rfl rfl ?_)
                  refine RX.cons rfl rfl (op_w (yw_pickT rfl rfl rfl) rfl rfl ?_)
                  refine RX.cons rfl rfl (op_w (yw_assign rfl rfl) rfl rfl ?_)
                  refine RX.nil (XX.next (V' := [(2, .bool (decide (Ru.n r ≤ 1000000)))]) ⟨rfl, trivial⟩ ?_)
                  refine CX.ret ?_
                  exact ret_tmp rfl rfl fun w1 hw => ⟨congrArg (fun b => Ending.returned (Value.bool b)) (by unfold okR; first | exact (decide_eq_false (by omega)).symm | exact decide_eq_decide.2 (by omega) | exact (decide_eq_true (by omega)).symm), hw.sub (List.nil_sublist _)⟩
                · refine RX.skip rfl rfl rfl rfl rfl rfl rfl ?_
                  refine RX.skip rfl rfl rfl rfl rfl rfl rfl ?_
                  refine RX.skip rfl rfl rfl rfl rfl rfl rfl ?_
                  refine RX.cons rfl rfl (op_w (yw_pickF rfl rfl rfl) rfl rfl ?_)
                  refine RX.cons rfl rfl (op_w (yw_assign rfl rfl) rfl rfl ?_)
                  refine RX.nil (XX.next (V' := [(2, .bool false)]) ⟨rfl, trivial⟩ ?_)
                  refine CX.ret ?_
                  exact ret_tmp rfl rfl fun w1 hw => ⟨congrArg (fun b => Ending.returned (Value.bool b)) (by unfold okR; first | exact (decide_eq_false (by omega)).symm | exact decide_eq_decide.2 (by omega) | exact (decide_eq_true (by omega)).symm), hw.sub (List.nil_sublist _)⟩
              · refine RX.skip rfl rfl rfl rfl rfl rfl rfl ?_
                refine RX.skip rfl rfl rfl rfl rfl rfl rfl ?_
                refine RX.skip rfl rfl rfl rfl rfl rfl rfl ?_
                refine RX.cons rfl rfl (op_w (yw_pickF rfl rfl rfl) rfl rfl ?_)
                refine RX.cons rfl rfl (op_w (yw_move rfl rfl) rfl rfl ?_)
                refine RX.skip rfl rfl rfl rfl rfl rfl rfl ?_
                refine RX.skip rfl rfl rfl rfl rfl rfl rfl ?_
                refine RX.skip rfl rfl rfl rfl rfl rfl rfl ?_
                refine RX.cons rfl rfl (op_w (yw_pickF rfl rfl rfl) rfl rfl ?_)
                refine RX.cons rfl rfl (op_w (yw_assign rfl rfl) rfl rfl ?_)
                refine RX.nil (XX.next (V' := [(2, .bool false)]) ⟨rfl, trivial⟩ ?_)
                refine CX.ret ?_
                exact ret_tmp rfl rfl fun w1 hw => ⟨congrArg (fun b => Ending.returned (Value.bool b)) (by unfold okR; first | exact (decide_eq_false (by omega)).symm | exact decide_eq_decide.2 (by omega) | exact (decide_eq_true (by omega)).symm), hw.sub (List.nil_sublist _)⟩
            · refine RX.skip rfl rfl rfl rfl rfl rfl rfl ?_
              refine RX.cons rfl rfl (op_w (yw_pickF rfl rfl rfl) rfl rfl ?_)
              refine RX.cons rfl rfl (op_w (yw_move rfl rfl) rfl rfl ?_)
              refine RX.skip rfl rfl rfl rfl rfl rfl rfl ?_
              refine RX.cons rfl rfl (op_w (yw_pickF rfl rfl rfl) rfl rfl ?_)
              refine RX.cons rfl rfl (op_w (yw_move rfl rfl) rfl rfl ?_)
              refine RX.skip rfl rfl rfl rfl rfl rfl rfl ?_
              refine RX.skip rfl rfl rfl rfl rfl rfl rfl ?_
              refine RX.skip rfl rfl rfl rfl rfl rfl rfl ?_
              refine RX.cons rfl rfl (op_w (yw_pickF rfl rfl rfl) rfl rfl ?_)
              refine RX.cons rfl rfl (op_w (yw_move rfl rfl) rfl rfl ?_)
              refine RX.skip rfl rfl rfl rfl rfl rfl rfl ?_
              refine RX.skip rfl rfl rfl rfl rfl rfl rfl ?_
              refine RX.skip rfl rfl rfl rfl rfl rfl rfl ?_
              refine RX.cons rfl rfl (op_w (yw_pickF rfl rfl rfl) rfl rfl ?_)
              refine RX.cons rfl rfl (op_w (yw_assign rfl rfl) rfl rfl ?_)
              refine RX.nil (XX.next (V' := [(2, .bool false)]) ⟨rfl, trivial⟩ ?_)
              refine CX.ret ?_
              exact ret_tmp rfl rfl fun w1 hw => ⟨congrArg (fun b => Ending.returned (Value.bool b)) (by unfold okR; first | exact (decide_eq_false (by omega)).symm | exact decide_eq_decide.2 (by omega) | exact (decide_eq_true (by omega)).symm), hw.sub (List.nil_sublist _)⟩
        · refine RX.skip rfl rfl rfl rfl rfl rfl rfl ?_
          refine RX.skip rfl rfl rfl rfl rfl rfl rfl ?_
          refine RX.skip rfl rfl rfl rfl rfl rfl rfl ?_
          refine RX.cons rfl rfl (op_w (yw_pickF rfl rfl rfl) rfl rfl ?_)
          refine RX.cons rfl rfl (op_w (yw_assign rfl rfl) rfl rfl ?_)
          refine RX.nil (XX.next (V' := [(1, _), (3, _), (4, _)]) ⟨rfl, rfl, rfl, trivial⟩ ?_)
          refine CX.seq ?_
          refine CX.region ?_
          refine RX.cons rfl rfl (op_w (yw_field0 rfl fld_44_0 rfl) rfl rfl ?_)
          refine RX.cons rfl rfl (op_yld (y_load (i := 0) rfl rfl one_3 rfl rfl) rfl rfl ?_)
          refine RX.cons rfl rfl (op_w (yw_eql rfl rfl rfl) rfl rfl ?_)
          refine RX.cons rfl rfl (op_w (yw_move rfl rfl) rfl rfl ?_)
          refine RX.splitD (t := 50) (p := Ru.act r = 1) rfl (fun d50 => ?_) (fun d50 => ?_)
          · refine RX.skip rfl rfl rfl rfl rfl rfl rfl ?_
            refine RX.skip rfl rfl rfl rfl rfl rfl rfl ?_
            refine RX.skip rfl rfl rfl rfl rfl rfl rfl ?_
            refine RX.cons rfl rfl (op_w (yw_pickT rfl rfl rfl) rfl rfl ?_)
            refine RX.cons rfl rfl (op_w (yw_move rfl rfl) rfl rfl ?_)
            refine RX.consG rfl rfl rfl rfl rfl (op_w (yw_move rfl rfl) rfl rfl ?_)
            refine RX.cons rfl rfl (op_w (yw_pickT rfl rfl rfl) rfl rfl ?_)
            refine RX.cons rfl rfl (op_w (yw_move rfl rfl) rfl rfl ?_)
            refine RX.consG rfl rfl rfl rfl rfl (op_w (yw_move rfl rfl) rfl rfl ?_)
            refine RX.cons rfl rfl (op_w (yw_pickT rfl rfl rfl) rfl rfl ?_)
            refine RX.cons rfl rfl (op_w (yw_move rfl rfl) rfl rfl ?_)
            refine RX.skip rfl rfl rfl rfl rfl rfl rfl ?_
            refine RX.skip rfl rfl rfl rfl rfl rfl rfl ?_
            refine RX.skip rfl rfl rfl rfl rfl rfl rfl ?_
            refine RX.cons rfl rfl (op_w (yw_pickF rfl rfl rfl) rfl rfl ?_)
            refine RX.cons rfl rfl (op_w (yw_move rfl rfl) rfl rfl ?_)
            refine RX.skip rfl rfl rfl rfl rfl rfl rfl ?_
            refine RX.skip rfl rfl rfl rfl rfl rfl rfl ?_
            refine RX.skip rfl rfl rfl rfl rfl rfl rfl ?_
            refine RX.cons rfl rfl (op_w (yw_pickF rfl rfl rfl) rfl rfl ?_)
            refine RX.cons rfl rfl (op_w (yw_assign rfl rfl) rfl rfl ?_)
            refine RX.nil (XX.next (V' := [(2, .bool false)]) ⟨rfl, trivial⟩ ?_)
            refine CX.ret ?_
            exact ret_tmp rfl rfl fun w1 hw => ⟨congrArg (fun b => Ending.returned (Value.bool b)) (by unfold okR; first | exact (decide_eq_false (by omega)).symm | exact decide_eq_decide.2 (by omega) | exact (decide_eq_true (by omega)).symm), hw.sub (List.nil_sublist _)⟩
          · refine RX.consG rfl rfl rfl rfl rfl (op_w (yw_field0 rfl fld_44_0 rfl) rfl rfl ?_)
            refine RX.consG rfl rfl rfl rfl rfl (op_yld (y_load (i := 0) rfl rfl one_3 rfl rfl) rfl rfl ?_)
            refine RX.consG rfl rfl rfl rfl rfl (op_w (yw_eql rfl rfl rfl) rfl rfl ?_)
            refine RX.cons rfl rfl (op_w (yw_pickF rfl rfl rfl) rfl rfl ?_)
            refine RX.cons rfl rfl (op_w (yw_move rfl rfl) rfl rfl ?_)
            refine RX.splitD (t := 55) (p := Ru.act r = 2) rfl (fun d55 => ?_) (fun d55 => ?_)
            · refine RX.consG rfl rfl rfl rfl rfl (op_w (yw_move rfl rfl) rfl rfl ?_)
              refine RX.cons rfl rfl (op_w (yw_pickT rfl rfl rfl) rfl rfl ?_)
              refine RX.cons rfl rfl (op_w (yw_move rfl rfl) rfl rfl ?_)
              refine RX.consG rfl rfl rfl rfl rfl (op_w (yw_move rfl rfl) rfl rfl ?_)
              refine RX.cons rfl rfl (op_w (yw_pickT rfl rfl rfl) rfl rfl ?_)
              refine RX.cons rfl rfl (op_w (yw_move rfl rfl) rfl rfl ?_)
              refine RX.skip rfl rfl rfl rfl rfl rfl rfl ?_
              refine RX.skip rfl rfl rfl rfl rfl rfl rfl ?_
              refine RX.skip rfl rfl rfl rfl rfl rfl rfl ?_
              refine RX.cons rfl rfl (op_w (yw_pickF rfl rfl rfl) rfl rfl ?_)
              refine RX.cons rfl rfl (op_w (yw_move rfl rfl) rfl rfl ?_)
              refine RX.skip rfl rfl rfl rfl rfl rfl rfl ?_
              refine RX.skip rfl rfl rfl rfl rfl rfl rfl ?_
              refine RX.skip rfl rfl rfl rfl rfl rfl rfl ?_
              refine RX.cons rfl rfl (op_w (yw_pickF rfl rfl rfl) rfl rfl ?_)
              refine RX.cons rfl rfl (op_w (yw_assign rfl rfl) rfl rfl ?_)
              refine RX.nil (XX.next (V' := [(2, .bool false)]) ⟨rfl, trivial⟩ ?_)
              refine CX.ret ?_
              exact ret_tmp rfl rfl fun w1 hw => ⟨congrArg (fun b => Ending.returned (Value.bool b)) (by unfold okR; first | exact (decide_eq_false (by omega)).symm | exact decide_eq_decide.2 (by omega) | exact (decide_eq_true (by omega)).symm), hw.sub (List.nil_sublist _)⟩
            · refine RX.skip rfl rfl rfl rfl rfl rfl rfl ?_
              refine RX.cons rfl rfl (op_w (yw_pickF rfl rfl rfl) rfl rfl ?_)
              refine RX.cons rfl rfl (op_w (yw_move rfl rfl) rfl rfl ?_)
              refine RX.skip rfl rfl rfl rfl rfl rfl rfl ?_
              refine RX.cons rfl rfl (op_w (yw_pickF rfl rfl rfl) rfl rfl ?_)
              refine RX.cons rfl rfl (op_w (yw_move rfl rfl) rfl rfl ?_)
              refine RX.skip rfl rfl rfl rfl rfl rfl rfl ?_
              refine RX.skip rfl rfl rfl rfl rfl rfl rfl ?_
              refine RX.skip rfl rfl rfl rfl rfl rfl rfl ?_
              refine RX.cons rfl rfl (op_w (yw_pickF rfl rfl rfl) rfl rfl ?_)
              refine RX.cons rfl rfl (op_w (yw_move rfl rfl) rfl rfl ?_)
              refine RX.skip rfl rfl rfl rfl rfl rfl rfl ?_
              refine RX.skip rfl rfl rfl rfl rfl rfl rfl ?_
              refine RX.skip rfl rfl rfl rfl rfl rfl rfl ?_
              refine RX.cons rfl rfl (op_w (yw_pickF rfl rfl rfl) rfl rfl ?_)
              refine RX.cons rfl rfl (op_w (yw_assign rfl rfl) rfl rfl ?_)
              refine RX.nil (XX.next (V' := [(2, .bool false)]) ⟨rfl, trivial⟩ ?_)
              refine CX.ret ?_
              exact ret_tmp rfl rfl fun w1 hw => ⟨congrArg (fun b => Ending.returned (Value.bool b)) (by unfold okR; first | exact (decide_eq_false (by omega)).symm | exact decide_eq_decide.2 (by omega) | exact (decide_eq_true (by omega)).symm), hw.sub (List.nil_sublist _)⟩
      · refine RX.consG rfl rfl rfl rfl rfl (op_w (yw_fieldAddr rfl fld_44_1 rfl) rfl rfl ?_)
        refine RX.consG rfl rfl rfl rfl rfl (op_yld (y_load (i := 0) rfl rfl one_3 rfl rfl) rfl rfl ?_)
        refine RX.consG rfl rfl rfl rfl rfl (op_w (yw_eql rfl rfl rfl) rfl rfl ?_)
        refine RX.cons rfl rfl (op_w (yw_pickF rfl rfl rfl) rfl rfl ?_)
        refine RX.cons rfl rfl (op_w (yw_assign rfl rfl) rfl rfl ?_)
        refine RX.nil (XX.next (V' := [(1, _), (3, _)]) ⟨rfl, rfl, trivial⟩ ?_)
        refine CX.seq ?_
        refine CX.region ?_
        refine RX.cons rfl rfl (op_w (yw_fieldAddr rfl fld_44_2 rfl) rfl rfl ?_)
        refine RX.cons rfl rfl (op_yld (y_load (i := 0) rfl rfl one_3 rfl rfl) rfl rfl ?_)
        refine RX.cons rfl rfl (op_w (yw_geq rfl rfl rfl) rfl rfl ?_)
        refine RX.cons rfl rfl (op_w (yw_move rfl rfl) rfl rfl ?_)
        refine RX.splitD (t := 42) (p := 1 ≤ Ru.mea r) rfl (fun d42 => ?_) (fun d42 => ?_)
        · refine RX.consG rfl rfl rfl rfl rfl (op_w (yw_fieldAddr rfl fld_44_2 rfl) rfl rfl ?_)
          refine RX.consG rfl rfl rfl rfl rfl (op_yld (y_load (i := 0) rfl rfl one_3 rfl rfl) rfl rfl ?_)
          refine RX.consG rfl rfl rfl rfl rfl (op_w (yw_leq rfl rfl rfl) rfl rfl ?_)
          refine RX.cons rfl rfl (op_w (yw_pickT rfl rfl rfl) rfl rfl ?_)
          refine RX.cons rfl rfl (op_w (yw_assign rfl rfl) rfl rfl ?_)
          refine RX.nil (XX.next (V' := [(1, _), (3, _), (4, _)]) ⟨rfl, rfl, rfl, trivial⟩ ?_)
          refine CX.seq ?_
          refine CX.region ?_
          refine RX.cons rfl rfl (op_w (yw_field0 rfl fld_44_0 rfl) rfl rfl ?_)
          refine RX.cons rfl rfl (op_yld (y_load (i := 0) rfl rfl one_3 rfl rfl) rfl rfl ?_)
          refine RX.cons rfl rfl (op_w (yw_eql rfl rfl rfl) rfl rfl ?_)
          refine RX.cons rfl rfl (op_w (yw_move rfl rfl) rfl rfl ?_)
          refine RX.splitD (t := 50) (p := Ru.act r = 1) rfl (fun d50 => ?_) (fun d50 => ?_)
          · refine RX.skip rfl rfl rfl rfl rfl rfl rfl ?_
            refine RX.skip rfl rfl rfl rfl rfl rfl rfl ?_
            refine RX.skip rfl rfl rfl rfl rfl rfl rfl ?_
            refine RX.cons rfl rfl (op_w (yw_pickT rfl rfl rfl) rfl rfl ?_)
            refine RX.cons rfl rfl (op_w (yw_move rfl rfl) rfl rfl ?_)
            refine RX.consG rfl rfl rfl rfl rfl (op_w (yw_move rfl rfl) rfl rfl ?_)
            refine RX.cons rfl rfl (op_w (yw_pickT rfl rfl rfl) rfl rfl ?_)
            refine RX.cons rfl rfl (op_w (yw_move rfl rfl) rfl rfl ?_)
            refine RX.splitD (t := 58) (p := Ru.sub r = 3) rfl (fun d58 => ?_) (fun d58 => ?_)
            · refine RX.consG rfl rfl rfl rfl rfl (op_w (yw_move rfl rfl) rfl rfl ?_)
              refine RX.cons rfl rfl (op_w (yw_pickT rfl rfl rfl) rfl rfl ?_)
              refine RX.cons rfl rfl (op_w (yw_move rfl rfl) rfl rfl ?_)
              refine RX.splitD (t := 61) (p := Ru.mea r ≤ 4) rfl (fun d61 => ?_) (fun d61 => ?_)
              · refine RX.consG rfl rfl rfl rfl rfl (op_w (yw_fieldAddr rfl fld_44_3 rfl) rfl rfl ?_)
                refine RX.consG rfl rfl rfl rfl rfl (op_yld (y_load (i := 0) rfl rfl one_3 rfl rfl) rfl rfl ?_)
                refine RX.consG rfl rfl rfl rfl rfl (op_w (yw_geq rfl rfl rfl) rfl rfl ?_)
                refine RX.cons rfl rfl (op_w (yw_pickT rfl rfl rfl) rfl rfl ?_)
                refine RX.cons rfl rfl (op_w (yw_move rfl rfl) rfl rfl ?_)
                refine RX.splitD (t := 66) (p := 0 ≤ Ru.n r) rfl (fun d66 => ?_) (fun d66 => ?_)
                · refine RX.consG rfl rfl rfl rfl rfl (op_w (yw_fieldAddr rfl fld_44_3 rfl) rfl rfl ?_)
                  refine RX.consG rfl rfl rfl rfl rfl (op_yld (y_load (i := 0) rfl rfl one_3 rfl rfl) rfl rfl ?_)
                  refine RX.consG rfl rfl rfl rfl rfl (op_w (yw_leq rfl rfl rfl) rfl rfl ?_)
                  refine RX.cons rfl rfl (op_w (yw_pickT rfl rfl rfl) rfl rfl ?_)
                  refine RX.cons rfl rfl (op_w (yw_assign rfl rfl) rfl rfl ?_)
                  refine RX.nil (XX.next (V' := [(2, .bool (decide (Ru.n r ≤ 1000000)))]) ⟨rfl, trivial⟩ ?_)
                  refine CX.ret ?_
                  exact ret_tmp rfl rfl fun w1 hw => ⟨congrArg (fun b => Ending.returned (Value.bool b)) (by unfold okR; first | exact (decide_eq_false (by omega)).symm | exact decide_eq_decide.2 (by omega) | exact (decide_eq_true (by omega)).symm), hw.sub (List.nil_sublist _)⟩
                · refine RX.skip rfl rfl rfl rfl rfl rfl rfl ?_
                  refine RX.skip rfl rfl rfl rfl rfl rfl rfl ?_
                  refine RX.skip rfl rfl rfl rfl rfl rfl rfl ?_
                  refine RX.cons rfl rfl (op_w (yw_pickF rfl rfl rfl) rfl rfl ?_)
                  refine RX.cons rfl rfl (op_w (yw_assign rfl rfl) rfl rfl ?_)
                  refine RX.nil (XX.next (V' := [(2, .bool false)]) ⟨rfl, trivial⟩ ?_)
                  refine CX.ret ?_
                  exact ret_tmp rfl rfl fun w1 hw => ⟨congrArg (fun b => Ending.returned (Value.bool b)) (by unfold okR; first | exact (decide_eq_false (by omega)).symm | exact decide_eq_decide.2 (by omega) | exact (decide_eq_true (by omega)).symm), hw.sub (List.nil_sublist _)⟩
              · refine RX.skip rfl rfl rfl rfl rfl rfl rfl ?_
                refine RX.skip rfl rfl rfl rfl rfl rfl rfl ?_
                refine RX.skip rfl rfl rfl rfl rfl rfl rfl ?_
                refine RX.cons rfl rfl (op_w (yw_pickF rfl rfl rfl) rfl rfl ?_)
                refine RX.cons rfl rfl (op_w (yw_move rfl rfl) rfl rfl ?_)
                refine RX.skip rfl rfl rfl rfl rfl rfl rfl ?_
                refine RX.skip rfl rfl rfl rfl rfl rfl rfl ?_
                refine RX.skip rfl rfl rfl rfl rfl rfl rfl ?_
                refine RX.cons rfl rfl (op_w (yw_pickF rfl rfl rfl) rfl rfl ?_)
                refine RX.cons rfl rfl (op_w (yw_assign rfl rfl) rfl rfl ?_)
                refine RX.nil (XX.next (V' := [(2, .bool false)]) ⟨rfl, trivial⟩ ?_)
                refine CX.ret ?_
                exact ret_tmp rfl rfl fun w1 hw => ⟨congrArg (fun b => Ending.returned (Value.bool b)) (by unfold okR; first | exact (decide_eq_false (by omega)).symm | exact decide_eq_decide.2 (by omega) | exact (decide_eq_true (by omega)).symm), hw.sub (List.nil_sublist _)⟩
            · refine RX.skip rfl rfl rfl rfl rfl rfl rfl ?_
              refine RX.cons rfl rfl (op_w (yw_pickF rfl rfl rfl) rfl rfl ?_)
              refine RX.cons rfl rfl (op_w (yw_move rfl rfl) rfl rfl ?_)
              refine RX.skip rfl rfl rfl rfl rfl rfl rfl ?_
              refine RX.skip rfl rfl rfl rfl rfl rfl rfl ?_
              refine RX.skip rfl rfl rfl rfl rfl rfl rfl ?_
              refine RX.cons rfl rfl (op_w (yw_pickF rfl rfl rfl) rfl rfl ?_)
              refine RX.cons rfl rfl (op_w (yw_move rfl rfl) rfl rfl ?_)
              refine RX.skip rfl rfl rfl rfl rfl rfl rfl ?_
              refine RX.skip rfl rfl rfl rfl rfl rfl rfl ?_
              refine RX.skip rfl rfl rfl rfl rfl rfl rfl ?_
              refine RX.cons rfl rfl (op_w (yw_pickF rfl rfl rfl) rfl rfl ?_)
              refine RX.cons rfl rfl (op_w (yw_assign rfl rfl) rfl rfl ?_)
              refine RX.nil (XX.next (V' := [(2, .bool false)]) ⟨rfl, trivial⟩ ?_)
              refine CX.ret ?_
              exact ret_tmp rfl rfl fun w1 hw => ⟨congrArg (fun b => Ending.returned (Value.bool b)) (by unfold okR; first | exact (decide_eq_false (by omega)).symm | exact decide_eq_decide.2 (by omega) | exact (decide_eq_true (by omega)).symm), hw.sub (List.nil_sublist _)⟩
          · refine RX.consG rfl rfl rfl rfl rfl (op_w (yw_field0 rfl fld_44_0 rfl) rfl rfl ?_)
            refine RX.consG rfl rfl rfl rfl rfl (op_yld (y_load (i := 0) rfl rfl one_3 rfl rfl) rfl rfl ?_)
            refine RX.consG rfl rfl rfl rfl rfl (op_w (yw_eql rfl rfl rfl) rfl rfl ?_)
            refine RX.cons rfl rfl (op_w (yw_pickF rfl rfl rfl) rfl rfl ?_)
            refine RX.cons rfl rfl (op_w (yw_move rfl rfl) rfl rfl ?_)
            refine RX.splitD (t := 55) (p := Ru.act r = 2) rfl (fun d55 => ?_) (fun d55 => ?_)
            · refine RX.consG rfl rfl rfl rfl rfl (op_w (yw_move rfl rfl) rfl rfl ?_)
              refine RX.cons rfl rfl (op_w (yw_pickT rfl rfl rfl) rfl rfl ?_)
              refine RX.cons rfl rfl (op_w (yw_move rfl rfl) rfl rfl ?_)
              refine RX.splitD (t := 58) (p := Ru.sub r = 3) rfl (fun d58 => ?_) (fun d58 => ?_)
              · refine RX.consG rfl rfl rfl rfl rfl (op_w (yw_move rfl rfl) rfl rfl ?_)
                refine RX.cons rfl rfl (op_w (yw_pickT rfl rfl rfl) rfl rfl ?_)
                refine RX.cons rfl rfl (op_w (yw_move rfl rfl) rfl rfl ?_)
                refine RX.splitD (t := 61) (p := Ru.mea r ≤ 4) rfl (fun d61 => ?_) (fun d61 => ?_)
                · refine RX.consG rfl rfl rfl rfl rfl (op_w (yw_fieldAddr rfl fld_44_3 rfl) rfl rfl ?_)
                  refine RX.consG rfl rfl rfl rfl rfl (op_yld (y_load (i := 0) rfl rfl one_3 rfl rfl) rfl rfl ?_)
                  refine RX.consG rfl rfl rfl rfl rfl (op_w (yw_geq rfl rfl rfl) rfl rfl ?_)
                  refine RX.cons rfl rfl (op_w (yw_pickT rfl rfl rfl) rfl rfl ?_)
                  refine RX.cons rfl rfl (op_w (yw_move rfl rfl) rfl rfl ?_)
                  refine RX.splitD (t := 66) (p := 0 ≤ Ru.n r) rfl (fun d66 => ?_) (fun d66 => ?_)
                  · refine RX.consG rfl rfl rfl rfl rfl (op_w (yw_fieldAddr rfl fld_44_3 rfl) rfl rfl ?_)
                    refine RX.consG rfl rfl rfl rfl rfl (op_yld (y_load (i := 0) rfl rfl one_3 rfl rfl) rfl rfl ?_)
                    refine RX.consG rfl rfl rfl rfl rfl (op_w (yw_leq rfl rfl rfl) rfl rfl ?_)
                    refine RX.cons rfl rfl (op_w (yw_pickT rfl rfl rfl) rfl rfl ?_)
                    refine RX.cons rfl rfl (op_w (yw_assign rfl rfl) rfl rfl ?_)
                    refine RX.nil (XX.next (V' := [(2, .bool (decide (Ru.n r ≤ 1000000)))]) ⟨rfl, trivial⟩ ?_)
                    refine CX.ret ?_
                    exact ret_tmp rfl rfl fun w1 hw => ⟨congrArg (fun b => Ending.returned (Value.bool b)) (by unfold okR; first | exact (decide_eq_false (by omega)).symm | exact decide_eq_decide.2 (by omega) | exact (decide_eq_true (by omega)).symm), hw.sub (List.nil_sublist _)⟩
                  · refine RX.skip rfl rfl rfl rfl rfl rfl rfl ?_
                    refine RX.skip rfl rfl rfl rfl rfl rfl rfl ?_
                    refine RX.skip rfl rfl rfl rfl rfl rfl rfl ?_
                    refine RX.cons rfl rfl (op_w (yw_pickF rfl rfl rfl) rfl rfl ?_)
                    refine RX.cons rfl rfl (op_w (yw_assign rfl rfl) rfl rfl ?_)
                    refine RX.nil (XX.next (V' := [(2, .bool false)]) ⟨rfl, trivial⟩ ?_)
                    refine CX.ret ?_
                    exact ret_tmp rfl rfl fun w1 hw => ⟨congrArg (fun b => Ending.returned (Value.bool b)) (by unfold okR; first | exact (decide_eq_false (by omega)).symm | exact decide_eq_decide.2 (by omega) | exact (decide_eq_true (by omega)).symm), hw.sub (List.nil_sublist _)⟩
                · refine RX.skip rfl rfl rfl rfl rfl rfl rfl ?_
                  refine RX.skip rfl rfl rfl rfl rfl rfl rfl ?_
                  refine RX.skip rfl rfl rfl rfl rfl rfl rfl ?_
                  refine RX.cons rfl rfl (op_w (yw_pickF rfl rfl rfl) rfl rfl ?_)
                  refine RX.cons rfl rfl (op_w (yw_move rfl rfl) rfl rfl ?_)
                  refine RX.skip rfl rfl rfl rfl rfl rfl rfl ?_
                  refine RX.skip rfl rfl rfl rfl rfl rfl rfl ?_
                  refine RX.skip rfl rfl rfl rfl rfl rfl rfl ?_
                  refine RX.cons rfl rfl (op_w (yw_pickF rfl rfl rfl) rfl rfl ?_)
                  refine RX.cons rfl rfl (op_w (yw_assign rfl rfl) rfl rfl ?_)
                  refine RX.nil (XX.next (V' := [(2, .bool false)]) ⟨rfl, trivial⟩ ?_)
                  refine CX.ret ?_
                  exact ret_tmp rfl rfl fun w1 hw => ⟨congrArg (fun b => Ending.returned (Value.bool b)) (by unfold okR; first | exact (decide_eq_false (by omega)).symm | exact decide_eq_decide.2 (by omega) | exact (decide_eq_true (by omega)).symm), hw.sub (List.nil_sublist _)⟩
              · refine RX.skip rfl rfl rfl rfl rfl rfl rfl ?_
                refine RX.cons rfl rfl (op_w (yw_pickF rfl rfl rfl) rfl rfl ?_)
                refine RX.cons rfl rfl (op_w (yw_move rfl rfl) rfl rfl ?_)
                refine RX.skip rfl rfl rfl rfl rfl rfl rfl ?_
                refine RX.skip rfl rfl rfl rfl rfl rfl rfl ?_
                refine RX.skip rfl rfl rfl rfl rfl rfl rfl ?_
                refine RX.cons rfl rfl (op_w (yw_pickF rfl rfl rfl) rfl rfl ?_)
                refine RX.cons rfl rfl (op_w (yw_move rfl rfl) rfl rfl ?_)
                refine RX.skip rfl rfl rfl rfl rfl rfl rfl ?_
                refine RX.skip rfl rfl rfl rfl rfl rfl rfl ?_
                refine RX.skip rfl rfl rfl rfl rfl rfl rfl ?_
                refine RX.cons rfl rfl (op_w (yw_pickF rfl rfl rfl) rfl rfl ?_)
                refine RX.cons rfl rfl (op_w (yw_assign rfl rfl) rfl rfl ?_)
                refine RX.nil (XX.next (V' := [(2, .bool false)]) ⟨rfl, trivial⟩ ?_)
                refine CX.ret ?_
                exact ret_tmp rfl rfl fun w1 hw => ⟨congrArg (fun b => Ending.returned (Value.bool b)) (by unfold okR; first | exact (decide_eq_false (by omega)).symm | exact decide_eq_decide.2 (by omega) | exact (decide_eq_true (by omega)).symm), hw.sub (List.nil_sublist _)⟩
            · refine RX.skip rfl rfl rfl rfl rfl rfl rfl ?_
              refine RX.cons rfl rfl (op_w (yw_pickF rfl rfl rfl) rfl rfl ?_)
              refine RX.cons rfl rfl (op_w (yw_move rfl rfl) rfl rfl ?_)
              refine RX.skip rfl rfl rfl rfl rfl rfl rfl ?_
              refine RX.cons rfl rfl (op_w (yw_pickF rfl rfl rfl) rfl rfl ?_)
              refine RX.cons rfl rfl (op_w (yw_move rfl rfl) rfl rfl ?_)
              refine RX.skip rfl rfl rfl rfl rfl rfl rfl ?_
              refine RX.skip rfl rfl rfl rfl rfl rfl rfl ?_
              refine RX.skip rfl rfl rfl rfl rfl rfl rfl ?_
              refine RX.cons rfl rfl (op_w (yw_pickF rfl rfl rfl) rfl rfl ?_)
              refine RX.cons rfl rfl (op_w (yw_move rfl rfl) rfl rfl ?_)
              refine RX.skip rfl rfl rfl rfl rfl rfl rfl ?_
              refine RX.skip rfl rfl rfl rfl rfl rfl rfl ?_
              refine RX.skip rfl rfl rfl rfl rfl rfl rfl ?_
              refine RX.cons rfl rfl (op_w (yw_pickF rfl rfl rfl) rfl rfl ?_)
              refine RX.cons rfl rfl (op_w (yw_assign rfl rfl) rfl rfl ?_)
              refine RX.nil (XX.next (V' := [(2, .bool false)]) ⟨rfl, trivial⟩ ?_)
              refine CX.ret ?_
              exact ret_tmp rfl rfl fun w1 hw => ⟨congrArg (fun b => Ending.returned (Value.bool b)) (by unfold okR; first | exact (decide_eq_false (by omega)).symm | exact decide_eq_decide.2 (by omega) | exact (decide_eq_true (by omega)).symm), hw.sub (List.nil_sublist _)⟩
        · refine RX.skip rfl rfl rfl rfl rfl rfl rfl ?_
          refine RX.skip rfl rfl rfl rfl rfl rfl rfl ?_
          refine RX.skip rfl rfl rfl rfl rfl rfl rfl ?_
          refine RX.cons rfl rfl (op_w (yw_pickF rfl rfl rfl) rfl rfl ?_)
          refine RX.cons rfl rfl (op_w (yw_assign rfl rfl) rfl rfl ?_)
          refine RX.nil (XX.next (V' := [(1, _), (3, _), (4, _)]) ⟨rfl, rfl, rfl, trivial⟩ ?_)
          refine CX.seq ?_
          refine CX.region ?_
          refine RX.cons rfl rfl (op_w (yw_field0 rfl fld_44_0 rfl) rfl rfl ?_)
          refine RX.cons rfl rfl (op_yld (y_load (i := 0) rfl rfl one_3 rfl rfl) rfl rfl ?_)
          refine RX.cons rfl rfl (op_w (yw_eql rfl rfl rfl) rfl rfl ?_)
          refine RX.cons rfl rfl (op_w (yw_move rfl rfl) rfl rfl ?_)
          refine RX.splitD (t := 50) (p := Ru.act r = 1) rfl (fun d50 => ?_) (fun d50 => ?_)
          · refine RX.skip rfl rfl rfl rfl rfl rfl rfl ?_
            refine RX.skip rfl rfl rfl rfl rfl rfl rfl ?_
            refine RX.skip rfl rfl rfl rfl rfl rfl rfl ?_
            refine RX.cons rfl rfl (op_w (yw_pickT rfl rfl rfl) rfl rfl ?_)
            refine RX.cons rfl rfl (op_w (yw_move rfl rfl) rfl rfl ?_)
            refine RX.consG rfl rfl rfl rfl rfl (op_w (yw_move rfl rfl) rfl rfl ?_)
            refine RX.cons rfl rfl (op_w (yw_pickT rfl rfl rfl) rfl rfl ?_)
            refine RX.cons rfl rfl (op_w (yw_move rfl rfl) rfl rfl ?_)
            refine RX.splitD (t := 58) (p := Ru.sub r = 3) rfl (fun d58 => ?_) (fun d58 => ?_)
            · refine RX.consG rfl rfl rfl rfl rfl (op_w (yw_move rfl rfl) rfl rfl ?_)
              refine RX.cons rfl rfl (op_w (yw_pickT rfl rfl rfl) rfl rfl ?_)
              refine RX.cons rfl rfl (op_w (yw_move rfl rfl) rfl rfl ?_)
              refine RX.skip rfl rfl rfl rfl rfl rfl rfl ?_
              refine RX.skip rfl rfl rfl rfl rfl rfl rfl ?_
              refine RX.skip rfl rfl rfl rfl rfl rfl rfl ?_
              refine RX.cons rfl rfl (op_w (yw_pickF rfl rfl rfl) rfl rfl ?_)
              refine RX.cons rfl rfl (op_w (yw_move rfl rfl) rfl rfl ?_)
              refine RX.skip rfl rfl rfl rfl rfl rfl rfl ?_
              refine RX.skip rfl rfl rfl rfl rfl rfl rfl ?_
              refine RX.skip rfl rfl rfl rfl rfl rfl rfl ?_
              refine RX.cons rfl rfl (op_w (yw_pickF rfl rfl rfl) rfl rfl ?_)
              refine RX.cons rfl rfl (op_w (yw_assign rfl rfl) rfl rfl ?_)
              refine RX.nil (XX.next (V' := [(2, .bool false)]) ⟨rfl, trivial⟩ ?_)
              refine CX.ret ?_
              exact ret_tmp rfl rfl fun w1 hw => ⟨congrArg (fun b => Ending.returned (Value.bool b)) (by unfold okR; first | exact (decide_eq_false (by omega)).symm | exact decide_eq_decide.2 (by omega) | exact (decide_eq_true (by omega)).symm), hw.sub (List.nil_sublist _)⟩
            · refine RX.skip rfl rfl rfl rfl rfl rfl rfl ?_
              refine RX.cons rfl rfl (op_w (yw_pickF rfl rfl rfl) rfl rfl ?_)
              refine RX.cons rfl rfl (op_w (yw_move rfl rfl) rfl rfl ?_)
              refine RX.skip rfl rfl rfl rfl rfl rfl rfl ?_
              refine RX.skip rfl rfl rfl rfl rfl rfl rfl ?_
              refine RX.skip rfl rfl rfl rfl rfl rfl rfl ?_
              refine RX.cons rfl rfl (op_w (yw_pickF rfl rfl rfl) rfl rfl ?_)
              refine RX.cons rfl rfl (op_w (yw_move rfl rfl) rfl rfl ?_)
              refine RX.skip rfl rfl rfl rfl rfl rfl rfl ?_
              refine RX.skip rfl rfl rfl rfl rfl rfl rfl ?_
              refine RX.skip rfl rfl rfl rfl rfl rfl rfl ?_
              refine RX.cons rfl rfl (op_w (yw_pickF rfl rfl rfl) rfl rfl ?_)
              refine RX.cons rfl rfl (op_w (yw_assign rfl rfl) rfl rfl ?_)
              refine RX.nil (XX.next (V' := [(2, .bool false)]) ⟨rfl, trivial⟩ ?_)
              refine CX.ret ?_
              exact ret_tmp rfl rfl fun w1 hw => ⟨congrArg (fun b => Ending.returned (Value.bool b)) (by unfold okR; first | exact (decide_eq_false (by omega)).symm | exact decide_eq_decide.2 (by omega) | exact (decide_eq_true (by omega)).symm), hw.sub (List.nil_sublist _)⟩
          · refine RX.consG rfl rfl rfl rfl rfl (op_w (yw_field0 rfl fld_44_0 rfl) rfl rfl ?_)
            refine RX.consG rfl rfl rfl rfl rfl (op_yld (y_load (i := 0) rfl rfl one_3 rfl rfl) rfl rfl ?_)
            refine RX.consG rfl rfl rfl rfl rfl (op_w (yw_eql rfl rfl rfl) rfl rfl ?_)
            refine RX.cons rfl rfl (op_w (yw_pickF rfl rfl rfl) rfl rfl ?_)
            refine RX.cons rfl rfl (op_w (yw_move rfl rfl) rfl rfl ?_)
            refine RX.splitD (t := 55) (p := Ru.act r = 2) rfl (fun d55 => ?_) (fun d55 => ?_)
            · refine RX.consG rfl rfl rfl rfl rfl (op_w (yw_move rfl rfl) rfl rfl ?_)
              refine RX.cons rfl rfl (op_w (yw_pickT rfl rfl rfl) rfl rfl ?_)
              refine RX.cons rfl rfl (op_w (yw_move rfl rfl) rfl rfl ?_)
              refine RX.splitD (t := 58) (p := Ru.sub r = 3) rfl (fun d58 => ?_) (fun d58 => ?_)
              · refine RX.consG rfl rfl rfl rfl rfl (op_w (yw_move rfl rfl) rfl rfl ?_)
                refine RX.cons rfl rfl (op_w (yw_pickT rfl rfl rfl) rfl rfl ?_)
                refine RX.cons rfl rfl (op_w (yw_move rfl rfl) rfl rfl ?_)
                refine RX.skip rfl rfl rfl rfl rfl rfl rfl ?_
                refine RX.skip rfl rfl rfl rfl rfl rfl rfl ?_
                refine RX.skip rfl rfl rfl rfl rfl rfl rfl ?_
                refine RX.cons rfl rfl (op_w (yw_pickF rfl rfl rfl) rfl rfl ?_)
                refine RX.cons rfl rfl (op_w (yw_move rfl rfl) rfl rfl ?_)
                refine RX.skip rfl rfl rfl rfl rfl rfl rfl ?_
                refine RX.skip rfl rfl rfl rfl rfl rfl rfl ?_
                refine RX.skip rfl rfl rfl rfl rfl rfl rfl ?_
                refine RX.cons rfl rfl (op_w (yw_pickF rfl rfl rfl) rfl rfl ?_)
                refine RX.cons rfl rfl (op_w (yw_assign rfl rfl) rfl rfl ?_)
                refine RX.nil (XX.next (V' := [(2, .bool false)]) ⟨rfl, trivial⟩ ?_)
                refine CX.ret ?_
                exact ret_tmp rfl rfl fun w1 hw => ⟨congrArg (fun b => Ending.returned (Value.bool b)) (by unfold okR; first | exact (decide_eq_false (by omega)).symm | exact decide_eq_decide.2 (by omega) | exact (decide_eq_true (by omega)).symm), hw.sub (List.nil_sublist _)⟩
              · refine RX.skip rfl rfl rfl rfl rfl rfl rfl ?_
                refine RX.cons rfl rfl (op_w (yw_pickF rfl rfl rfl) rfl rfl ?_)
                refine RX.cons rfl rfl (op_w (yw_move rfl rfl) rfl rfl ?_)
                refine RX.skip rfl rfl rfl rfl rfl rfl rfl ?_
                refine RX.skip rfl rfl rfl rfl rfl rfl rfl ?_
                refine RX.skip rfl rfl rfl rfl rfl rfl rfl ?_
                refine RX.cons rfl rfl (op_w (yw_pickF rfl rfl rfl) rfl rfl ?_)
                refine RX.cons rfl rfl (op_w (yw_move rfl rfl) rfl rfl ?_)
                refine RX.skip rfl rfl rfl rfl rfl rfl rfl ?_
                refine RX.skip rfl rfl rfl rfl rfl rfl rfl ?_
                refine RX.skip rfl rfl rfl rfl rfl rfl rfl ?_
                refine RX.cons rfl rfl (op_w (yw_pickF rfl rfl rfl) rfl rfl ?_)
                refine RX.cons rfl rfl (op_w (yw_assign rfl rfl) rfl rfl ?_)
                refine RX.nil (XX.next (V' := [(2, .bool false)]) ⟨rfl, trivial⟩ ?_)
                refine CX.ret ?_
                exact ret_tmp rfl rfl fun w1 hw => ⟨congrArg (fun b => Ending.returned (Value.bool b)) (by unfold okR; first | exact (decide_eq_false (by omega)).symm | exact decide_eq_decide.2 (by omega) | exact (decide_eq_true (by omega)).symm), hw.sub (List.nil_sublist _)⟩
            · refine RX.skip rfl rfl rfl rfl rfl rfl rfl ?_
              refine RX.cons rfl rfl (op_w (yw_pickF rfl rfl rfl) rfl rfl ?_)
              refine RX.cons rfl rfl (op_w (yw_move rfl rfl) rfl rfl ?_)
              refine RX.skip rfl rfl rfl rfl rfl rfl rfl ?_
              refine RX.cons rfl rfl (op_w (yw_pickF rfl rfl rfl) rfl rfl ?_)
              refine RX.cons rfl rfl (op_w (yw_move rfl rfl) rfl rfl ?_)
              refine RX.skip rfl rfl rfl rfl rfl rfl rfl ?_
              refine RX.skip rfl rfl rfl rfl rfl rfl rfl ?_
              refine RX.skip rfl rfl rfl rfl rfl rfl rfl ?_
              refine RX.cons rfl rfl (op_w (yw_pickF rfl rfl rfl) rfl rfl ?_)
              refine RX.cons rfl rfl (op_w (yw_move rfl rfl) rfl rfl ?_)
              refine RX.skip rfl rfl rfl rfl rfl rfl rfl ?_
              refine RX.skip rfl rfl rfl rfl rfl rfl rfl ?_
              refine RX.skip rfl rfl rfl rfl rfl rfl rfl ?_
              refine RX.cons rfl rfl (op_w (yw_pickF rfl rfl rfl) rfl rfl ?_)
              refine RX.cons rfl rfl (op_w (yw_assign rfl rfl) rfl rfl ?_)
              refine RX.nil (XX.next (V' := [(2, .bool false)]) ⟨rfl, trivial⟩ ?_)
              refine CX.ret ?_
              exact ret_tmp rfl rfl fun w1 hw => ⟨congrArg (fun b => Ending.returned (Value.bool b)) (by unfold okR; first | exact (decide_eq_false (by omega)).symm | exact decide_eq_decide.2 (by omega) | exact (decide_eq_true (by omega)).symm), hw.sub (List.nil_sublist _)⟩

end Go.Proofs.Ytpcfgoadkfajfaa
namespace Go.Proofs.Ytpcfgoadkfajfaa
set_option linter.all false
open Go Go.RowKit
set_option maxRecDepth 100000
theorem slt_30 : SlT Try.prog 30 44 4 := ⟨(Try.prog.info? 44).get!, Try.underlying30, by kernel_rfl, by kernel_rfl⟩
theorem agg_44 : AggT Try.prog 44 4 := ⟨_, _, Try.underlying44, rfl, (by kernel_rfl : Try.prog.info? 44 = some (Try.prog.info? 44).get!), by kernel_rfl⟩
theorem ent_55 : ∀ args w, (callFunc 55 args).run Try.prog w = .ok (.enter 55 args) w := enters_of Try.func55 (by kernel_rfl) rfl
set_option maxRecDepth 100000 in
theorem w_exempt {w : World} {A : Option Addr} {cap : Nat} (rs : List Ru) (hr : Rd w A 4 (rs.map ruC)) (hl : rs.length ≤ 1000000) (a : Int) :
    Calls Try.prog 54 #[.slice A rs.length cap, .int .i64 a] w (fun e w' => e = .returned (.bool (decide (∃ x ∈ rs, okR x = true ∧ Ru.act x = 3 ∧ Ru.n x = a))) ∧ SL w [] w' []) := by
  refine calls_of_CX (O := []) (L := []) (args := [.slice A rs.length cap, .int .i64 a]) Try.func54 rfl (by simp [Try.ntmps54]) (SL.refl w) ?_
  refine CX.sub (V' := [(0, .slice A rs.length cap), (1, .int .i64 a)]) ⟨rfl, rfl, trivial⟩ ?_
  refine CX.seq ?_
  refine CX.region ?_
  refine RX.cons rfl rfl (op_w (yw_assign rfl rfl) rfl rfl ?_)
  refine RX.nil (XX.next (V' := [(0, _), (1, _)]) ⟨rfl, rfl, trivial⟩ ?_)
  refine CX.seq ?_
  refine CX.seq ?_
  refine CX.region ?_
  refine RX.cons rfl rfl (op_w (yw_assign rfl rfl) rfl rfl ?_)
  refine RX.nil (XX.next (V' := [(0, _), (1, _), (5, _)]) ⟨rfl, rfl, rfl, trivial⟩ ?_)
  refine CX.block ?_
  refine CX.loop (σ := Nat) (fun i => [(0, .slice A rs.length cap), (1, .int .i64 a), (5, .int .i64 ((i : Nat) : Int))]) (fun i => []) (fun i => i ≤ rs.length ∧ ∀ x ∈ rs.take i, ¬ (okR x = true ∧ Ru.act x = 3 ∧ Ru.n x = a)) (fun i => rs.length - i) 0 ⟨Nat.zero_le _, by simp⟩ ⟨rfl, rfl, rfl, trivial⟩ rfl (fun i hI => ?_)
  obtain ⟨hi, hall⟩ := hI
  refine CX.seq ?_
  refine CX.seq ?_
  refine CX.region ?_
  refine RX.cons rfl rfl (op_w (yw_move rfl rfl) rfl rfl ?_)
  refine RX.cons rfl rfl (op_w (yw_move rfl rfl) rfl rfl ?_)
  refine RX.cons rfl rfl (op_w (yw_lenS rfl Try.underlying30 rfl) rfl rfl ?_)
  refine RX.cons rfl rfl (op_w (yw_lss rfl rfl rfl) rfl rfl ?_)
  refine RX.nil (XX.next (V' := [(0, _), (1, _), (5, _), (10, _)]) ⟨rfl, rfl, rfl, rfl, trivial⟩ ?_)
  refine CX.condD (p := ((i : Nat) : Int) < ((rs.length : Nat) : Int)) rfl (fun c10 => ?_) (fun c10 => ?_)
  · obtain ⟨x0, hx0⟩ := get_some (l := rs) (k := i) (by omega)
    have hx0m := List.mem_of_getElem? hx0
    have hA : ∃ b j, A = some ⟨b, j, none⟩ := hr.some (k := 0) (by simp; omega)
    refine CX.skip (XX.next (V' := [(0, _), (1, _), (5, _)]) ⟨rfl, rfl, rfl, trivial⟩ ?_)
    refine CX.seq ?_
    refine CX.block ?_
    refine CX.seq ?_
    refine CX.region ?_
    refine RX.cons rfl rfl (op_w (yw_move rfl rfl) rfl rfl ?_)
    refine RX.cons rfl rfl (op_w (yw_move rfl rfl) rfl rfl ?_)
    refine RX.cons rfl rfl (op_w (yw_index (k := i) rfl slt_30 rfl rfl (by omega) (by omega) hA) rfl rfl ?_)
    refine RX.cons rfl rfl (op_yld (y_elem rfl rfl agg_44 hr (by simp) (map_get hx0)) rfl rfl ?_)
    refine RX.cons rfl rfl (op_callV (v := .bool (okR x0)) rfl rfl rfl rfl rfl ent_55 (fun w hw => w_valid09 x0) ?_)
    refine RX.cons rfl rfl (op_w (yw_assign rfl rfl) rfl rfl ?_)
    refine RX.nil (XX.next (V' := [(0, _), (1, _), (5, _), (6, _)]) ⟨rfl, rfl, rfl, rfl, trivial⟩ ?_)
    refine CX.seq ?_
    refine CX.region ?_
    refine RX.cons rfl rfl (op_w (yw_move rfl rfl) rfl rfl ?_)
    refine RX.cons rfl rfl (op_w (yw_move rfl rfl) rfl rfl ?_)
    refine RX.split (t := 19) (b := okR x0) rfl (fun d19 => ?_) (fun d19 => ?_)
    · refine RX.consG rfl rfl rfl rfl rfl (op_w (yw_move rfl rfl) rfl rfl ?_)
      refine RX.consG rfl rfl rfl rfl rfl (op_w (yw_move rfl rfl) rfl rfl ?_)
      refine RX.consG rfl rfl rfl rfl rfl (op_w (yw_index (k := i) rfl slt_30 rfl rfl (by omega) (by omega) hA) rfl rfl ?_)
      refine RX.consG rfl rfl rfl rfl rfl (op_w (yw_field0 rfl fld_44_0 rfl) rfl rfl ?_)
      refine RX.consG rfl rfl rfl rfl rfl (op_yld (y_elemF (j := 0) rfl rfl one_3 hr (by simp) (map_get hx0) rfl) rfl rfl ?_)
      refine RX.consG rfl rfl rfl rfl rfl (op_w (yw_eql rfl rfl rfl) rfl rfl ?_)
      refine RX.cons rfl rfl (op_w (yw_pickT rfl rfl rfl) rfl rfl ?_)
      refine RX.cons rfl rfl (op_w (yw_move rfl rfl) rfl rfl ?_)
      refine RX.splitD (t := 27) (p := Ru.act x0 = 3) rfl (fun d27 => ?_) (fun d27 => ?_)
      · refine RX.consG rfl rfl rfl rfl rfl (op_w (yw_move rfl rfl) rfl rfl ?_)
        refine RX.consG rfl rfl rfl rfl rfl (op_w (yw_move rfl rfl) rfl rfl ?_)
        refine RX.consG rfl rfl rfl rfl rfl (op_w (yw_index (k := i) rfl slt_30 rfl rfl (by omega) (by omega) hA) rfl rfl ?_)
        refine RX.consG rfl rfl rfl rfl rfl (op_w (yw_fieldAddr rfl fld_44_3 rfl) rfl rfl ?_)
        refine RX.consG rfl rfl rfl rfl rfl (op_yld (y_elemF rfl rfl one_3 hr (by simp) (map_get hx0) rfl) rfl rfl ?_)
        refine RX.consG rfl rfl rfl rfl rfl (op_w (yw_move rfl rfl) rfl rfl ?_)
        refine RX.consG rfl rfl rfl rfl rfl (op_w (yw_eql rfl rfl rfl) rfl rfl ?_)
        refine RX.cons rfl rfl (op_w (yw_pickT rfl rfl rfl) rfl rfl ?_)
        refine RX.nil (XX.next (V' := [(0, _), (1, _), (5, _), (35, _)]) ⟨rfl, rfl, rfl, rfl, trivial⟩ ?_)
        refine CX.condD (p := Ru.n x0 = a) rfl (fun c35 => ?_) (fun c35 => ?_)
        · refine CX.seq ?_
          refine CX.region ?_
          refine RX.cons rfl rfl (op_w (yw_assign rfl rfl) rfl rfl ?_)
          refine RX.nil (XX.next (V' := [(4, .bool true)]) ⟨rfl, trivial⟩ ?_)
          refine CX.ret ?_
          refine XX.block_ret ?_
          refine XX.then_ret ?_
          refine XX.then_ret ?_
          refine XX.block_ret ?_
          refine XX.then_ret ?_
          exact ret_tmp rfl rfl fun w1 hw => ⟨by rw [decide_eq_true (show ∃ x ∈ rs, okR x = true ∧ Ru.act x = 3 ∧ Ru.n x = a from ⟨x0, hx0m, by simp_all⟩)], hw.sub (List.nil_sublist _)⟩
        · refine CX.skip (XX.inBlock (V' := [(0, _), (1, _), (5, _)]) ⟨rfl, rfl, rfl, trivial⟩ ?_)
          refine XX.next (V' := [(0, _), (1, _), (5, _)]) ⟨rfl, rfl, rfl, trivial⟩ ?_
          refine CX.region ?_
          refine RX.cons rfl rfl (op_w (yw_move rfl rfl) rfl rfl ?_)
          refine RX.cons rfl rfl (op_w (yw_add rfl rfl rfl (by omega) (by omega)) rfl rfl ?_)
          refine RX.cons rfl rfl (op_w (yw_assign rfl rfl) rfl rfl ?_)
          refine RX.nil (XX.againP ([]) (i + 1) (by omega) ⟨by omega, all_snocP (p := fun x : Ru => ¬ (okR x = true ∧ Ru.act x = 3 ∧ Ru.n x = a)) hx0 (by simp_all) hall⟩ ⟨rfl, rfl, rfl, trivial⟩ (List.Perm.refl _))
      · refine RX.skip rfl rfl rfl rfl rfl rfl rfl ?_
        refine RX.skip rfl rfl rfl rfl rfl rfl rfl ?_
        refine RX.skip rfl rfl rfl rfl rfl rfl rfl ?_
        refine RX.skip rfl rfl rfl rfl rfl rfl rfl ?_
        refine RX.skip rfl rfl rfl rfl rfl rfl rfl ?_
        refine RX.skip rfl rfl rfl rfl rfl rfl rfl ?_
        refine RX.skip rfl rfl rfl rfl rfl rfl rfl ?_
        refine RX.cons rfl rfl (op_w (yw_pickF rfl rfl rfl) rfl rfl ?_)
        refine RX.nil (XX.next (V' := [(0, _), (1, _), (5, _), (35, _)]) ⟨rfl, rfl, rfl, rfl, trivial⟩ ?_)
        refine CX.condF rfl ?_
        refine CX.skip (XX.inBlock (V' := [(0, _), (1, _), (5, _)]) ⟨rfl, rfl, rfl, trivial⟩ ?_)
        refine XX.next (V' := [(0, _), (1, _), (5, _)]) ⟨rfl, rfl, rfl, trivial⟩ ?_
        refine CX.region ?_
        refine RX.cons rfl rfl (op_w (yw_move rfl rfl) rfl rfl ?_)
        refine RX.cons rfl rfl (op_w (yw_add rfl rfl rfl (by omega) (by omega)) rfl rfl ?_)
        refine RX.cons rfl rfl (op_w (yw_assign rfl rfl) rfl rfl ?_)
        refine RX.nil (XX.againP ([]) (i + 1) (by omega) ⟨by omega, all_snocP (p := fun x : Ru => ¬ (okR x = true ∧ Ru.act x = 3 ∧ Ru.n x = a)) hx0 (by simp_all) hall⟩ ⟨rfl, rfl, rfl, trivial⟩ (List.Perm.refl _))
    · refine RX.skip rfl rfl rfl rfl rfl rfl rfl ?_
      refine RX.skip rfl rfl rfl rfl rfl rfl rfl ?_
      refine RX.skip rfl rfl rfl rfl rfl rfl rfl ?_
      refine RX.skip rfl rfl rfl rfl rfl rfl rfl ?_
      refine RX.skip rfl rfl rfl rfl rfl rfl rfl ?_
      refine RX.skip rfl rfl rfl rfl rfl rfl rfl ?_
      refine RX.cons rfl rfl (op_w (yw_pickF rfl rfl rfl) rfl rfl ?_)
      refine RX.cons rfl rfl (op_w (yw_move rfl rfl) rfl rfl ?_)
      refine RX.skip rfl rfl rfl rfl rfl rfl rfl ?_
      refine RX.skip rfl rfl rfl rfl rfl rfl rfl ?_
      refine RX.skip rfl rfl rfl rfl rfl rfl rfl ?_
      refine RX.skip rfl rfl rfl rfl rfl rfl rfl ?_
      refine RX.skip rfl rfl rfl rfl rfl rfl rfl ?_
      refine RX.skip rfl rfl rfl rfl rfl rfl rfl ?_
      refine RX.skip rfl rfl rfl rfl rfl rfl rfl ?_
      refine RX.cons rfl rfl (op_w (yw_pickF rfl rfl rfl) rfl rfl ?_)
      refine RX.nil (XX.next (V' := [(0, _), (1, _), (5, _), (35, _)]) ⟨rfl, rfl, rfl, rfl, trivial⟩ ?_)
      refine CX.condF rfl ?_
      refine CX.skip (XX.inBlock (V' := [(0, _), (1, _), (5, _)]) ⟨rfl, rfl, rfl, trivial⟩ ?_)
      refine XX.next (V' := [(0, _), (1, _), (5, _)]) ⟨rfl, rfl, rfl, trivial⟩ ?_
      refine CX.region ?_
      refine RX.cons rfl rfl (op_w (yw_move rfl rfl) rfl rfl ?_)
      refine RX.cons rfl rfl (op_w (yw_add rfl rfl rfl (by omega) (by omega)) rfl rfl ?_)
      refine RX.cons rfl rfl (op_w (yw_assign rfl rfl) rfl rfl ?_)
      refine RX.nil (XX.againP ([]) (i + 1) (by omega) ⟨by omega, all_snocP (p := fun x : Ru => ¬ (okR x = true ∧ Ru.act x = 3 ∧ Ru.n x = a)) hx0 (by simp_all) hall⟩ ⟨rfl, rfl, rfl, trivial⟩ (List.Perm.refl _))
  · refine CX.exit ?_
    refine XX.then_exit ?_
    refine XX.then_exit ?_
    refine XX.block_exit ?_
    refine XX.next (V' := []) trivial ?_
    refine CX.seq ?_
    refine CX.region ?_
    refine RX.cons rfl rfl (op_w (yw_assign rfl rfl) rfl rfl ?_)
    refine RX.nil (XX.next (V' := [(4, .bool false)]) ⟨rfl, trivial⟩ ?_)
    refine CX.ret ?_
    exact ret_tmp rfl rfl fun w1 hw => ⟨by rw [decide_eq_false (fun ⟨x, hx, h⟩ => hall x (by rw [List.take_of_length_le (by omega)]; exact hx) h)], hw.sub (List.nil_sublist _)⟩

end Go.Proofs.Ytpcfgoadkfajfaa
namespace Go.Proofs.Ytpcfgoadkfajfaa
set_option linter.all false
open Go Go.RowKit
set_option maxRecDepth 100000
theorem zero_24 : Zero Try.prog 24 (.agg (#[.int .i64 0, .int .i64 0, .int .i64 0, .int .i64 0, .int .i64 0, .int .i64 0, .int .i64 0, .int .i64 0, .int .i64 0])) := ⟨(Try.prog.info? 24).get!, by kernel_rfl, by kernel_rfl⟩
theorem szt_24 : SzT Try.prog 24 9 := ⟨(Try.prog.info? 24).get!, by kernel_rfl, by kernel_rfl⟩
theorem agg_24 : AggT Try.prog 24 9 := ⟨_, _, Try.underlying24, rfl, (by kernel_rfl : Try.prog.info? 24 = some (Try.prog.info? 24).get!), by kernel_rfl⟩
theorem fld_24_3 : Fld Try.prog 24 3 3 := ⟨_, _, (Try.prog.info? 3).get!, Try.underlying24, rfl, rfl, by kernel_rfl, by decide +kernel⟩
set_option maxRecDepth 100000 in
theorem w_few {w : World} {A : Option Addr} {cap : Nat} (n : Nat) (hc : n ≤ cap) (h8 : n ≤ 9223372036854775807) :
    Calls Try.prog 13 #[.slice A n cap] w (fun e w' => e = .returned (.slice A (min n 40) cap) ∧ SL w [] w' []) := by
  refine calls_of_CX (O := []) (L := []) (args := [.slice A n cap]) Try.func13 rfl (by simp [Try.ntmps13]) (SL.refl w) ?_
  refine CX.sub (V' := [(0, .slice A n cap)]) ⟨rfl, trivial⟩ ?_
  refine CX.seq ?_
  refine CX.region ?_
  refine RX.cons rfl rfl (op_w (yw_assign rfl rfl) rfl rfl ?_)
  refine RX.nil (XX.next (V' := [(0, _)]) ⟨rfl, trivial⟩ ?_)
  refine CX.seq ?_
  refine CX.region ?_
  refine RX.cons rfl rfl (op_w (yw_move rfl rfl) rfl rfl ?_)
  refine RX.cons rfl rfl (op_w (yw_move rfl rfl) rfl rfl ?_)
  refine RX.cons rfl rfl (op_w (yw_lenS rfl Try.underlying22 rfl) rfl rfl ?_)
  refine RX.cons rfl rfl (op_w (yw_min rfl rfl rfl) rfl rfl ?_)
  refine RX.know (t := 6) (u := .int .i64 ((min n 40 : Nat) : Int)) rfl (congrArg (Value.int .i64) (by omega)) ?_
  refine RX.cons rfl rfl (op_w (yw_sliceTo (k := (min n 40)) rfl slt_22 rfl rfl (by omega) (by omega)) rfl rfl ?_)
  refine RX.cons rfl rfl (op_w (yw_assign rfl rfl) rfl rfl ?_)
  refine RX.nil (XX.next (V' := [(2, .slice A (min n 40) cap)]) ⟨rfl, trivial⟩ ?_)
  refine CX.ret ?_
  exact ret_tmp rfl rfl fun w1 hw => ⟨rfl, hw.sub (List.nil_sublist _)⟩

set_option maxRecDepth 100000 in
theorem w_short {w : World} {A : Option Addr} {cap : Nat} (n : Nat) (hc : n ≤ cap) (h8 : n ≤ 9223372036854775807) :
    Calls Try.prog 17 #[.slice A n cap] w (fun e w' => e = .returned (.slice A (min n 12) cap) ∧ SL w [] w' []) := by
  refine calls_of_CX (O := []) (L := []) (args := [.slice A n cap]) Try.func17 rfl (by simp [Try.ntmps17]) (SL.refl w) ?_
  refine CX.sub (V' := [(0, .slice A n cap)]) ⟨rfl, trivial⟩ ?_
  refine CX.seq ?_
  refine CX.region ?_
  refine RX.cons rfl rfl (op_w (yw_assign rfl rfl) rfl rfl ?_)
  refine RX.nil (XX.next (V' := [(0, _)]) ⟨rfl, trivial⟩ ?_)
  refine CX.seq ?_
  refine CX.region ?_
  refine RX.cons rfl rfl (op_w (yw_move rfl rfl) rfl rfl ?_)
  refine RX.cons rfl rfl (op_w (yw_move rfl rfl) rfl rfl ?_)
  refine RX.cons rfl rfl (op_w (yw_lenS rfl Try.underlying30 rfl) rfl rfl ?_)
  refine RX.cons rfl rfl (op_w (yw_min rfl rfl rfl) rfl rfl ?_)
  refine RX.know (t := 6) (u := .int .i64 ((min n 12 : Nat) : Int)) rfl (congrArg (Value.int .i64) (by omega)) ?_
  refine RX.cons rfl rfl (op_w (yw_sliceTo (k := (min n 12)) rfl slt_30 rfl rfl (by omega) (by omega)) rfl rfl ?_)
  refine RX.cons rfl rfl (op_w (yw_assign rfl rfl) rfl rfl ?_)
  refine RX.nil (XX.next (V' := [(2, .slice A (min n 12) cap)]) ⟨rfl, trivial⟩ ?_)
  refine CX.ret ?_
  exact ret_tmp rfl rfl fun w1 hw => ⟨rfl, hw.sub (List.nil_sublist _)⟩

set_option maxRecDepth 100000 in
theorem w_stream {w : World} (a d r : Int) :
    Calls Try.prog 27 #[.int .i64 a, .int .i64 d, .int .i64 r] w (fun e w' => e = .returned (.agg (smC ⟨d, 1, a, r, 0, 0, 0, 0, 0⟩)) ∧ SL w [] w' []) := by
  refine calls_of_CX (O := []) (L := []) (args := [.int .i64 a, .int .i64 d, .int .i64 r]) Try.func27 rfl (by simp [Try.ntmps27]) (SL.refl w) ?_
  refine CX.sub (V' := [(0, .int .i64 a), (1, .int .i64 d), (2, .int .i64 r)]) ⟨rfl, rfl, rfl, trivial⟩ ?_
  refine CX.seq ?_
  refine CX.region ?_
  refine RX.cons rfl rfl (op_alloc rfl rfl rfl zero_24 fun gr => ?_)
  refine RX.nil (XX.next (V' := [(0, _), (1, _), (2, _), (6, .pointer (some ⟨gr, 0, none⟩))]) ⟨rfl, rfl, rfl, rfl, trivial⟩ ?_)
  refine CX.seq ?_
  refine CX.region ?_
  refine RX.cons rfl rfl (op_w (yw_move rfl rfl) rfl rfl ?_)
  refine RX.cons rfl rfl (op_w (yw_move rfl rfl) rfl rfl ?_)
  refine RX.cons rfl rfl (op_w (yw_move rfl rfl) rfl rfl ?_)
  refine RX.cons rfl rfl (op_w (yw_build (v := .agg (#[.int .i64 d, .int .i64 1, .int .i64 a, .int .i64 r, .int .i64 0, .int .i64 0, .int .i64 0, .int .i64 0, .int .i64 0])) rfl rfl (fun _ => by kernel_rfl)) rfl rfl ?_)
  refine RX.cons rfl rfl (op_storeAll (i := 0) rfl rfl rfl rfl szt_24 rfl (plain_of rfl) rfl rfl ?_)
  refine RX.nil (XX.next (V' := [(6, .pointer (some ⟨gr, 0, none⟩))]) ⟨rfl, trivial⟩ ?_)
  refine CX.ret ?_
  exact ret_cell (i := 0) rfl rfl agg_24 rfl rfl fun w1 hw => ⟨rfl, hw.sub (List.nil_sublist _)⟩

set_option maxRecDepth 100000 in
theorem w_account {w : World} (s : Sm) :
    Calls Try.prog 64 #[.agg (smC s)] w (fun e w' => e = .returned (.int .i64 (Sm.acc s)) ∧ SL w [] w' []) := by
  refine calls_of_CX (O := []) (L := []) (args := [.agg (smC s)]) Try.func64 rfl (by simp [Try.ntmps64]) (SL.refl w) ?_
  refine CX.sub (V' := [(0, .agg (smC s))]) ⟨rfl, trivial⟩ ?_
  refine CX.seq ?_
  refine CX.region ?_
  refine RX.cons rfl rfl (op_box rfl rfl rfl rfl fun gs => ?_)
  refine RX.cons rfl rfl (op_w (yw_assign rfl rfl) rfl rfl ?_)
  refine RX.nil (XX.next (V' := [(1, _)]) ⟨rfl, trivial⟩ ?_)
  refine CX.seq ?_
  refine CX.region ?_
  refine RX.cons rfl rfl (op_w (yw_fieldAddr rfl fld_24_2 rfl) rfl rfl ?_)
  refine RX.cons rfl rfl (op_yld (y_load (i := 0) rfl rfl one_3 rfl rfl) rfl rfl ?_)
  refine RX.cons rfl rfl (op_w (yw_assign rfl rfl) rfl rfl ?_)
  refine RX.nil (XX.next (V' := [(2, .int .i64 (Sm.acc s))]) ⟨rfl, trivial⟩ ?_)
  refine CX.ret ?_
  exact ret_tmp rfl rfl fun w1 hw => ⟨rfl, hw.sub (List.nil_sublist _)⟩

set_option maxRecDepth 100000 in
theorem w_device {w : World} (s : Sm) :
    Calls Try.prog 65 #[.agg (smC s)] w (fun e w' => e = .returned (.int .i64 (Sm.dev s)) ∧ SL w [] w' []) := by
  refine calls_of_CX (O := []) (L := []) (args := [.agg (smC s)]) Try.func65 rfl (by simp [Try.ntmps65]) (SL.refl w) ?_
  refine CX.sub (V' := [(0, .agg (smC s))]) ⟨rfl, trivial⟩ ?_
  refine CX.seq ?_
  refine CX.region ?_
  refine RX.cons rfl rfl (op_box rfl rfl rfl rfl fun gs => ?_)
  refine RX.cons rfl rfl (op_w (yw_assign rfl rfl) rfl rfl ?_)
  refine RX.nil (XX.next (V' := [(1, _)]) ⟨rfl, trivial⟩ ?_)
  refine CX.seq ?_
  refine CX.region ?_
  refine RX.cons rfl rfl (op_w (yw_field0 rfl fld_24_0 rfl) rfl rfl ?_)
  refine RX.cons rfl rfl (op_yld (y_load (i := 0) rfl rfl one_3 rfl rfl) rfl rfl ?_)
  refine RX.cons rfl rfl (op_w (yw_assign rfl rfl) rfl rfl ?_)
  refine RX.nil (XX.next (V' := [(2, .int .i64 (Sm.dev s))]) ⟨rfl, trivial⟩ ?_)
  refine CX.ret ?_
  exact ret_tmp rfl rfl fun w1 hw => ⟨rfl, hw.sub (List.nil_sublist _)⟩

set_option maxRecDepth 100000 in
theorem w_recording {w : World} (s : Sm) :
    Calls Try.prog 66 #[.agg (smC s)] w (fun e w' => e = .returned (.int .i64 (Sm.song s)) ∧ SL w [] w' []) := by
  refine calls_of_CX (O := []) (L := []) (args := [.agg (smC s)]) Try.func66 rfl (by simp [Try.ntmps66]) (SL.refl w) ?_
  refine CX.sub (V' := [(0, .agg (smC s))]) ⟨rfl, trivial⟩ ?_
  refine CX.seq ?_
  refine CX.region ?_
  refine RX.cons rfl rfl (op_box rfl rfl rfl rfl fun gs => ?_)
  refine RX.cons rfl rfl (op_w (yw_assign rfl rfl) rfl rfl ?_)
  refine RX.nil (XX.next (V' := [(1, _)]) ⟨rfl, trivial⟩ ?_)
  refine CX.seq ?_
  refine CX.region ?_
  refine RX.cons rfl rfl (op_w (yw_fieldAddr rfl fld_24_3 rfl) rfl rfl ?_)
  refine RX.cons rfl rfl (op_yld (y_load (i := 0) rfl rfl one_3 rfl rfl) rfl rfl ?_)
  refine RX.cons rfl rfl (op_w (yw_assign rfl rfl) rfl rfl ?_)
  refine RX.nil (XX.next (V' := [(2, .int .i64 (Sm.song s))]) ⟨rfl, trivial⟩ ?_)
  refine CX.ret ?_
  exact ret_tmp rfl rfl fun w1 hw => ⟨rfl, hw.sub (List.nil_sublist _)⟩

end Go.Proofs.Ytpcfgoadkfajfaa
