/- Walks, printed by a program. -/
import Derived.Test.YtmndhiaaolfepaaDoorWalkH
namespace Go.Proofs.YtmndhiaaolfepaaDoor
set_option linter.all false
open Go Go.RowKit
set_option maxRecDepth 100000
theorem ent_70 : ∀ args w, (callFunc 70 args).run Tryd.prog w = .ok (.enter 70 args) w := enters_of Tryd.func70 (by kernel_rfl) rfl
theorem ent_51 : ∀ args w, (callFunc 51 args).run Tryd.prog w = .ok (.enter 51 args) w := enters_of Tryd.func51 (by kernel_rfl) rfl
/-- A merge of fewer than N elements. -/
def SymOk (N : Nat) : Prop := ∀ {w : World} {A : Option Addr} {cap len : Nat} (p U V r : List Fct) (a m b : Nat), U.length + V.length < N → (p ++ U ++ V ++ r).length = len → p.length = a → p.length + U.length = m → p.length + U.length + V.length = b →
    Srt.Sorted before U → Srt.Sorted before V → 0 < U.length → 0 < V.length → (0 < len → ∃ b j, A = some ⟨b, j, none⟩) → len ≤ 1000000 → SL w (rowO A) w [PRow A cap (p ++ U ++ V ++ r)] →
    Calls Tryd.prog 51 #[.slice A len cap, .int .i64 ((a : Nat) : Int), .int .i64 ((m : Nat) : Int), .int .i64 ((b : Nat) : Int), .func (.func 35) #[] #[]] w (fun e w' => e = .returned (.tuple #[]) ∧ SL w (rowO A) w' [PRow A cap (p ++ Srt.isort before (U ++ V) ++ r)])

set_option maxRecDepth 100000 in
theorem w_symStep {N : Nat} (ih : SymOk N) {w : World} {A : Option Addr} {cap len : Nat} (p U V r : List Fct) (a m b : Nat) (hN : U.length + V.length < N + 1) (hlen : (p ++ U ++ V ++ r).length = len) (ha : p.length = a) (hm : p.length + U.length = m) (hb : p.length + U.length + V.length = b) (hU : Srt.Sorted before U) (hV : Srt.Sorted before V) (hU0 : 0 < U.length) (hV0 : 0 < V.length) (hA : 0 < len → ∃ b j, A = some ⟨b, j, none⟩) (hn : len ≤ 1000000)(hs : SL w (rowO A) w [PRow A cap (p ++ U ++ V ++ r)]) :
    Calls Tryd.prog 51 #[.slice A len cap, .int .i64 ((a : Nat) : Int), .int .i64 ((m : Nat) : Int), .int .i64 ((b : Nat) : Int), .func (.func 35) #[] #[]] w (fun e w' => e = .returned (.tuple #[]) ∧ SL w (rowO A) w' [PRow A cap (p ++ Srt.isort before (U ++ V) ++ r)]) := by
  simp only [List.length_append] at hlen
  refine calls_of_CX (O := (rowO A)) (L := [PRow A cap (p ++ U ++ V ++ r)]) (args := [.slice A len cap, .int .i64 ((a : Nat) : Int), .int .i64 ((m : Nat) : Int), .int .i64 ((b : Nat) : Int), .func (.func 35) #[] #[]]) Tryd.func51 rfl (by simp [Tryd.ntmps51]) hs ?_
  refine CX.sub (V' := [(0, .slice A len cap), (1, .int .i64 ((a : Nat) : Int)), (2, .int .i64 ((m : Nat) : Int)), (3, .int .i64 ((b : Nat) : Int)), (4, .func (.func 35) #[] #[])]) ⟨rfl, rfl, rfl, rfl, rfl, trivial⟩ ?_
  refine CX.seq ?_
  refine CX.seq ?_
  refine CX.region ?_
  refine RX.cons rfl rfl (op_w (yw_move rfl rfl) rfl rfl ?_)
  refine RX.cons rfl rfl (op_w (yw_move rfl rfl) rfl rfl ?_)
  refine RX.cons rfl rfl (op_w (yw_sub rfl rfl rfl (by omega) (by omega)) rfl rfl ?_)
  refine RX.cons rfl rfl (op_w (yw_eql rfl rfl rfl) rfl rfl ?_)
  refine RX.nil (XX.next (V' := [(0, .slice A len cap), (1, .int .i64 ((a : Nat) : Int)), (2, .int .i64 ((m : Nat) : Int)), (3, .int .i64 ((b : Nat) : Int)), (4, .func (.func 35) #[] #[]), (28, .bool (decide (((m : Nat) : Int) - ((a : Nat) : Int) = 1)))]) ⟨rfl, rfl, rfl, rfl, rfl, rfl, trivial⟩ ?_)
  refine CX.condD (p := ((m : Nat) : Int) - ((a : Nat) : Int) = 1) rfl (fun c28 => ?_) (fun c28 => ?_)
  · obtain ⟨x, rfl⟩ := one_of (l := U) (by omega)
    simp only [List.length_cons, List.length_nil, Nat.zero_add] at hm hb hlen hN
    refine CX.seq ?_
    refine CX.region ?_
    refine RX.cons rfl rfl (op_w (yw_move rfl rfl) rfl rfl ?_)
    refine RX.cons rfl rfl (op_w (yw_assign rfl rfl) rfl rfl ?_)
    refine RX.nil (XX.next (V' := [(0, .slice A len cap), (1, .int .i64 ((a : Nat) : Int)), (3, .int .i64 ((b : Nat) : Int)), (4, .func (.func 35) #[] #[]), (10, .int .i64 ((m : Nat) : Int))]) ⟨rfl, rfl, rfl, rfl, rfl, trivial⟩ ?_)
    refine CX.seq ?_
    refine CX.region ?_
    refine RX.cons rfl rfl (op_w (yw_move rfl rfl) rfl rfl ?_)
    refine RX.cons rfl rfl (op_w (yw_assign rfl rfl) rfl rfl ?_)
    refine RX.nil (XX.next (V' := [(0, .slice A len cap), (1, .int .i64 ((a : Nat) : Int)), (4, .func (.func 35) #[] #[]), (10, .int .i64 ((m : Nat) : Int)), (11, .int .i64 ((b : Nat) : Int))]) ⟨rfl, rfl, rfl, rfl, rfl, trivial⟩ ?_)
    refine CX.seq ?_
    refine CX.block ?_
    refine CX.loop (σ := Nat × Nat) (fun z => [(0, .slice A len cap), (1, .int .i64 ((a : Nat) : Int)), (4, .func (.func 35) #[] #[]), (10, .int .i64 ((z.1 : Nat) : Int)), (11, .int .i64 ((z.2 : Nat) : Int))]) (fun z => [PRow A cap (p ++ [x] ++ V ++ r)]) (fun z => m ≤ z.1 ∧ z.1 ≤ z.2 ∧ z.2 ≤ b ∧ (z.1 = m ∨ ∃ c, (p ++ [x] ++ V ++ r)[z.1 - 1]? = some c ∧ before c x = true) ∧ (z.2 = b ∨ ∃ c, (p ++ [x] ++ V ++ r)[z.2]? = some c ∧ before c x = false)) (fun z => z.2 - z.1) (m, b) ⟨Nat.le_refl _, by dsimp only; omega, Nat.le_refl _, .inl rfl, .inl rfl⟩ ⟨rfl, rfl, rfl, rfl, rfl, trivial⟩ rfl (fun z hI => ?_)
    obtain ⟨i, j⟩ := z
    dsimp only at hI ⊢
    obtain ⟨hi1, hij, hj1, hi, hj⟩ := hI
    refine CX.seq ?_
    refine CX.seq ?_
    refine CX.region ?_
    refine RX.cons rfl rfl (op_w (yw_move rfl rfl) rfl rfl ?_)
    refine RX.cons rfl rfl (op_w (yw_move rfl rfl) rfl rfl ?_)
    refine RX.cons rfl rfl (op_w (yw_lss rfl rfl rfl) rfl rfl ?_)
    refine RX.nil (XX.next (V' := [(0, .slice A len cap), (1, .int .i64 ((a : Nat) : Int)), (4, .func (.func 35) #[] #[]), (10, .int .i64 ((i : Nat) : Int)), (11, .int .i64 ((j : Nat) : Int)), (33, .bool (decide (((i : Nat) : Int) < ((j : Nat) : Int))))]) ⟨rfl, rfl, rfl, rfl, rfl, rfl, trivial⟩ ?_)
    refine CX.condD (p := ((i : Nat) : Int) < ((j : Nat) : Int)) rfl (fun c33 => ?_) (fun c33 => ?_)
    · obtain ⟨y, hy⟩ := get_some (l := p ++ [x] ++ V ++ r) (k := (i + j) / 2) (by simp; omega)
      refine CX.skip (XX.next (V' := [(0, .slice A len cap), (1, .int .i64 ((a : Nat) : Int)), (4, .func (.func 35) #[] #[]), (10, .int .i64 ((i : Nat) : Int)), (11, .int .i64 ((j : Nat) : Int))]) ⟨rfl, rfl, rfl, rfl, rfl, trivial⟩ ?_)
      refine CX.block ?_
      refine CX.seq ?_
      refine CX.region ?_
      refine RX.cons rfl rfl (op_w (yw_move rfl rfl) rfl rfl ?_)
      refine RX.cons rfl rfl (op_w (yw_move rfl rfl) rfl rfl ?_)
      refine RX.cons rfl rfl (op_w (yw_add rfl rfl rfl (by omega) (by omega)) rfl rfl ?_)
      refine RX.cons rfl rfl (op_w (yw_conv rfl rfl Tryd.underlying3 Tryd.underlying91) rfl rfl ?_)
      refine RX.know (t := 37) (u := .int .u64 ((i + j : Nat) : Int)) rfl (congrArg (Value.int .u64) (wrap_u64 (by omega) (by omega) (by omega))) ?_
      refine RX.cons rfl rfl (op_w (yw_shr1 rfl rfl rfl) rfl rfl ?_)
      refine RX.know (t := 38) (u := .int .u64 (((i + j) / 2 : Nat) : Int)) rfl (congrArg (Value.int .u64) (by omega)) ?_
      refine RX.cons rfl rfl (op_w (yw_conv rfl rfl Tryd.underlying91 Tryd.underlying3) rfl rfl ?_)
      refine RX.know (t := 39) (u := .int .i64 (((i + j) / 2 : Nat) : Int)) rfl (congrArg (Value.int .i64) (wrap_i64 (by omega) (by omega) (by omega))) ?_
      refine RX.cons rfl rfl (op_w (yw_assign rfl rfl) rfl rfl ?_)
      refine RX.nil (XX.next (V' := [(0, .slice A len cap), (1, .int .i64 ((a : Nat) : Int)), (4, .func (.func 35) #[] #[]), (10, .int .i64 ((i : Nat) : Int)), (11, .int .i64 ((j : Nat) : Int)), (12, .int .i64 (((i + j) / 2 : Nat) : Int))]) ⟨rfl, rfl, rfl, rfl, rfl, rfl, trivial⟩ ?_)
      refine CX.seq ?_
      refine CX.draw 11 (by kernel_rfl) ?_
      refine DX.takeW 0 1 (by kernel_rfl) rfl rfl rfl rfl rfl (yw_move rfl rfl) ?_
      refine DX.takeW 1 3 (by kernel_rfl) rfl rfl rfl rfl rfl (yw_move rfl rfl) ?_
      refine DX.takeW 2 7 (by kernel_rfl) rfl rfl rfl rfl rfl (yw_move rfl rfl) ?_
      refine DX.takeW 3 15 (by kernel_rfl) rfl rfl rfl rfl rfl (yw_index (k := ((i + j) / 2)) rfl slt_49 rfl rfl (by omega) (by omega) (hA (by omega))) ?_
      refine DX.take 4 31 (by kernel_rfl) rfl rfl rfl rfl rfl (List.Sublist.refl _) (y_rowElem (i := 0) rfl rfl agg_54 rfl (map_get hy)) ?_
      refine DX.takeW 5 63 (by kernel_rfl) rfl rfl rfl rfl rfl (yw_move rfl rfl) ?_
      refine DX.takeW 6 127 (by kernel_rfl) rfl rfl rfl rfl rfl (yw_move rfl rfl) ?_
      refine DX.takeW 7 255 (by kernel_rfl) rfl rfl rfl rfl rfl (yw_index (k := a) rfl slt_49 rfl rfl (by omega) (by omega) (hA (by omega))) ?_
      refine DX.take 8 511 (by kernel_rfl) rfl rfl rfl rfl rfl (List.Sublist.refl _) (y_rowElem (i := 0) rfl rfl agg_54 rfl (get_at (x := x) p (V ++ r) (by simp) (by first | omega | (simp; omega)))) ?_
      refine DX.step 9 1023 (by kernel_rfl) rfl rfl rfl (op_callV (v := .int .i64 (cmpF y x)) rfl rfl rfl rfl rfl ent_35 (fun w _ => w_cmp y x) (DXs.mk (List.Sublist.refl _) ?_))
      refine DX.takeW 10 2047 (by kernel_rfl) rfl rfl rfl rfl rfl (yw_lss rfl rfl rfl) ?_
      refine DX.done (by kernel_rfl) (XX.next (V' := [(0, .slice A len cap), (1, .int .i64 ((a : Nat) : Int)), (4, .func (.func 35) #[] #[]), (10, .int .i64 ((i : Nat) : Int)), (11, .int .i64 ((j : Nat) : Int)), (12, .int .i64 (((i + j) / 2 : Nat) : Int)), (50, .bool (decide (cmpF y x < 0)))]) ⟨rfl, rfl, rfl, rfl, rfl, rfl, rfl, trivial⟩ ?_)
      refine CX.condD (p := cmpF y x < 0) rfl (fun c50 => ?_) (fun c50 => ?_)
      · refine CX.region ?_
        refine RX.cons rfl rfl (op_w (yw_move rfl rfl) rfl rfl ?_)
        refine RX.cons rfl rfl (op_w (yw_add rfl rfl rfl (by omega) (by omega)) rfl rfl ?_)
        refine RX.know (t := 52) (u := .int .i64 (((i + j) / 2 + 1 : Nat) : Int)) rfl (congrArg (Value.int .i64) (by omega)) ?_
        refine RX.cons rfl rfl (op_w (yw_assign rfl rfl) rfl rfl ?_)
        refine RX.nil (XX.inBlock (V' := [(0, .slice A len cap), (1, .int .i64 ((a : Nat) : Int)), (4, .func (.func 35) #[] #[]), (10, .int .i64 (((i + j) / 2 + 1 : Nat) : Int)), (11, .int .i64 ((j : Nat) : Int))]) ⟨rfl, rfl, rfl, rfl, rfl, trivial⟩ ?_)
        refine XX.againP ([]) ((i + j) / 2 + 1, j) (by dsimp only; omega) ⟨by dsimp only; omega, by dsimp only; omega, hj1, .inr ⟨y, hy, (cmpF_neg y x).1 c50⟩, hj⟩ ⟨rfl, rfl, rfl, rfl, rfl, trivial⟩ ((perm_pick 0 rfl).trans (List.Perm.cons _ (List.Perm.refl _)))
      · refine CX.region ?_
        refine RX.cons rfl rfl (op_w (yw_move rfl rfl) rfl rfl ?_)
        refine RX.cons rfl rfl (op_w (yw_assign rfl rfl) rfl rfl ?_)
        refine RX.nil (XX.inBlock (V' := [(0, .slice A len cap), (1, .int .i64 ((a : Nat) : Int)), (4, .func (.func 35) #[] #[]), (10, .int .i64 ((i : Nat) : Int)), (11, .int .i64 (((i + j) / 2 : Nat) : Int))]) ⟨rfl, rfl, rfl, rfl, rfl, trivial⟩ ?_)
        refine XX.againP ([]) (i, (i + j) / 2) (by dsimp only; omega) ⟨hi1, by dsimp only; omega, by dsimp only; omega, hi, .inr ⟨y, hy, cmpF_nneg c50⟩⟩ ⟨rfl, rfl, rfl, rfl, rfl, trivial⟩ ((perm_pick 0 rfl).trans (List.Perm.cons _ (List.Perm.refl _)))
    · obtain rfl : i = j := by omega
      obtain ⟨B1, B2, rfl, hB, hsort⟩ := Srt.search_first (p := p) (x := x) (i := i) (r := r) before_swo hV (by omega) (by omega) (by rw [hm]; exact hi) (by rw [hb]; exact hj)
      simp only [List.length_append] at hb hlen
      refine CX.exit ?_
      refine XX.then_exit ?_
      refine XX.then_exit ?_
      refine XX.block_exit ?_
      refine XX.next (V' := [(0, .slice A len cap), (1, .int .i64 ((a : Nat) : Int)), (10, .int .i64 ((i : Nat) : Int))]) ⟨rfl, rfl, rfl, trivial⟩ ?_
      refine CX.seq ?_
      refine CX.seq ?_
      refine CX.region ?_
      refine RX.cons rfl rfl (op_w (yw_move rfl rfl) rfl rfl ?_)
      refine RX.cons rfl rfl (op_w (yw_assign rfl rfl) rfl rfl ?_)
      refine RX.nil (XX.next (V' := [(0, .slice A len cap), (10, .int .i64 ((i : Nat) : Int)), (13, .int .i64 ((a : Nat) : Int))]) ⟨rfl, rfl, rfl, trivial⟩ ?_)
      refine CX.block ?_
      refine CX.loop (σ := Nat × List Fct × List Fct) (fun z => [(0, .slice A len cap), (10, .int .i64 ((i : Nat) : Int)), (13, .int .i64 ((z.1 : Nat) : Int))]) (fun z => [PRow A cap (p ++ z.2.1 ++ x :: z.2.2 ++ B2 ++ r)]) (fun z => p.length + z.2.1.length = z.1 ∧ z.2.1 ++ z.2.2 = B1) (fun z => z.2.2.length) (a, [], B1) ⟨ha, rfl⟩ ⟨rfl, rfl, rfl, trivial⟩ (by simp) (fun z hI => ?_)
      obtain ⟨k, D1, D2⟩ := z
      dsimp only at hI ⊢
      obtain ⟨hk, hD⟩ := hI
      subst hD
      simp only [List.length_append] at hB hb hlen
      refine CX.seq ?_
      refine CX.seq ?_
      refine CX.region ?_
      refine RX.cons rfl rfl (op_w (yw_move rfl rfl) rfl rfl ?_)
      refine RX.cons rfl rfl (op_w (yw_move rfl rfl) rfl rfl ?_)
      refine RX.cons rfl rfl (op_w (yw_sub rfl rfl rfl (by omega) (by omega)) rfl rfl ?_)
      refine RX.know (t := 57) (u := .int .i64 ((i - 1 : Nat) : Int)) rfl (congrArg (Value.int .i64) (by omega)) ?_
      refine RX.cons rfl rfl (op_w (yw_lss rfl rfl rfl) rfl rfl ?_)
      refine RX.nil (XX.next (V' := [(0, .slice A len cap), (10, .int .i64 ((i : Nat) : Int)), (13, .int .i64 ((k : Nat) : Int)), (58, .bool (decide (((k : Nat) : Int) < ((i - 1 : Nat) : Int))))]) ⟨rfl, rfl, rfl, rfl, trivial⟩ ?_)
      refine CX.condD (p := ((k : Nat) : Int) < ((i - 1 : Nat) : Int)) rfl (fun c58 => ?_) (fun c58 => ?_)
      · obtain ⟨y, D2, rfl⟩ := exists_cons (l := D2) (by omega)
        simp only [List.length_cons] at hB hb hlen
        refine CX.skip (XX.next (V' := [(0, .slice A len cap), (10, .int .i64 ((i : Nat) : Int)), (13, .int .i64 ((k : Nat) : Int))]) ⟨rfl, rfl, rfl, trivial⟩ ?_)
        refine CX.seq ?_
        refine CX.block ?_
        refine CX.draw 15 (by kernel_rfl) ?_
        refine DX.takeW 0 1 (by kernel_rfl) rfl rfl rfl rfl rfl (yw_move rfl rfl) ?_
        refine DX.takeW 1 3 (by kernel_rfl) rfl rfl rfl rfl rfl (yw_move rfl rfl) ?_
        refine DX.takeW 2 7 (by kernel_rfl) rfl rfl rfl rfl rfl (yw_move rfl rfl) ?_
        refine DX.takeW 3 15 (by kernel_rfl) rfl rfl rfl rfl rfl (yw_move rfl rfl) ?_
        refine DX.takeW 4 31 (by kernel_rfl) rfl rfl rfl rfl rfl (yw_add rfl rfl rfl (by omega) (by omega)) ?_
        refine DX.know (t := 65) (u := .int .i64 ((k + 1 : Nat) : Int)) rfl (congrArg (Value.int .i64) (by omega)) ?_
        refine DX.takeW 5 63 (by kernel_rfl) rfl rfl rfl rfl rfl (yw_move rfl rfl) ?_
        refine DX.takeW 6 127 (by kernel_rfl) rfl rfl rfl rfl rfl (yw_move rfl rfl) ?_
        refine DX.takeW 7 255 (by kernel_rfl) rfl rfl rfl rfl rfl (yw_add rfl rfl rfl (by omega) (by omega)) ?_
        refine DX.know (t := 68) (u := .int .i64 ((k + 1 : Nat) : Int)) rfl (congrArg (Value.int .i64) (by omega)) ?_
        refine DX.takeW 8 511 (by kernel_rfl) rfl rfl rfl rfl rfl (yw_index (k := (k + 1)) rfl slt_49 rfl rfl (by omega) (by omega) (hA (by omega))) ?_
        refine DX.take 9 1023 (by kernel_rfl) rfl rfl rfl rfl rfl (List.Sublist.refl _) (y_rowElem (i := 0) rfl rfl agg_54 rfl (get_at (x := y) (p ++ D1 ++ [x]) (D2 ++ B2 ++ r) (by simp) (by first | omega | (simp; omega)))) ?_
        refine DX.takeW 10 2047 (by kernel_rfl) rfl rfl rfl rfl rfl (yw_move rfl rfl) ?_
        refine DX.takeW 11 4095 (by kernel_rfl) rfl rfl rfl rfl rfl (yw_move rfl rfl) ?_
        refine DX.takeW 12 8191 (by kernel_rfl) rfl rfl rfl rfl rfl (yw_index (k := k) rfl slt_49 rfl rfl (by omega) (by omega) (hA (by omega))) ?_
        refine DX.take 13 16383 (by kernel_rfl) rfl rfl rfl rfl rfl (List.Sublist.refl _) (y_rowElem (i := 0) rfl rfl agg_54 rfl (get_at (x := x) (p ++ D1) (y :: D2 ++ B2 ++ r) (by simp) (by first | omega | (simp; omega)))) ?_
        refine DX.takeW 14 32767 (by kernel_rfl) rfl rfl rfl rfl rfl (yw_index (k := k) rfl slt_49 rfl rfl (by omega) (by omega) (hA (by omega))) ?_
        refine DX.stepT 15 65535 (by kernel_rfl) rfl rfl rfl rfl (op_storeElemE (i := 0) (k := k) (ys := List.map Fct.cells (p ++ D1 ++ y :: y :: D2 ++ B2 ++ r)) rfl rfl rfl rfl szt_54 rfl (plain_of rfl) rfl (by simp; omega) (set_at (x := x) (v := y) (p ++ D1) (y :: D2 ++ B2 ++ r) (by simp) (by first | omega | (simp; omega)) (by simp)) ?_)
        refine DX.takeW 16 131071 (by kernel_rfl) rfl rfl rfl rfl rfl (yw_index (k := (k + 1)) rfl slt_49 rfl rfl (by omega) (by omega) (hA (by omega))) ?_
        refine DX.stepT 17 262143 (by kernel_rfl) rfl rfl rfl rfl (op_storeElemE (i := 0) (k := (k + 1)) (ys := List.map Fct.cells (p ++ D1 ++ y :: x :: D2 ++ B2 ++ r)) rfl rfl rfl rfl szt_54 rfl (plain_of rfl) rfl (by simp; omega) (set_at (x := y) (v := x) (p ++ D1 ++ [y]) (D2 ++ B2 ++ r) (by simp) (by first | omega | (simp; omega)) (by simp)) ?_)
        refine DX.done (by kernel_rfl) (XX.inBlock (V' := [(0, .slice A len cap), (10, .int .i64 ((i : Nat) : Int)), (13, .int .i64 ((k : Nat) : Int))]) ⟨rfl, rfl, rfl, trivial⟩ ?_)
        refine XX.next (V' := [(0, .slice A len cap), (10, .int .i64 ((i : Nat) : Int)), (13, .int .i64 ((k : Nat) : Int))]) ⟨rfl, rfl, rfl, trivial⟩ ?_
        refine CX.region ?_
        refine RX.cons rfl rfl (op_w (yw_move rfl rfl) rfl rfl ?_)
        refine RX.cons rfl rfl (op_w (yw_add rfl rfl rfl (by omega) (by omega)) rfl rfl ?_)
        refine RX.know (t := 60) (u := .int .i64 ((k + 1 : Nat) : Int)) rfl (congrArg (Value.int .i64) (by omega)) ?_
        refine RX.cons rfl rfl (op_w (yw_assign rfl rfl) rfl rfl ?_)
        refine RX.nil (XX.againP ([]) (k + 1, D1 ++ [y], D2) (by simp) ⟨by simp; omega, by simp⟩ ⟨rfl, rfl, rfl, trivial⟩ (by simpa using List.Perm.refl _))
      · obtain rfl : D2 = [] := List.length_eq_zero_iff.1 (by omega)
        simp only [List.append_nil] at hsort
        refine CX.exit ?_
        refine XX.then_exit ?_
        refine XX.then_exit ?_
        refine XX.block_exit ?_
        refine XX.next (V' := []) trivial ?_
        refine CX.ret ?_
        refine XX.then_ret ?_
        exact ret_none rfl fun w1 hw => ⟨rfl, prow_eq (by simp only [List.append_nil, List.nil_append]; rw [hsort]; simp) hw⟩
  · refine CX.skip (XX.next (V' := [(0, .slice A len cap), (1, .int .i64 ((a : Nat) : Int)), (2, .int .i64 ((m : Nat) : Int)), (3, .int .i64 ((b : Nat) : Int)), (4, .func (.func 35) #[] #[])]) ⟨rfl, rfl, rfl, rfl, rfl, trivial⟩ ?_)
    refine CX.seq ?_
    refine CX.seq ?_
    refine CX.region ?_
    refine RX.cons rfl rfl (op_w (yw_move rfl rfl) rfl rfl ?_)
    refine RX.cons rfl rfl (op_w (yw_move rfl rfl) rfl rfl ?_)
    refine RX.cons rfl rfl (op_w (yw_sub rfl rfl rfl (by omega) (by omega)) rfl rfl ?_)
    refine RX.cons rfl rfl (op_w (yw_eql rfl rfl rfl) rfl rfl ?_)
    refine RX.nil (XX.next (V' := [(0, .slice A len cap), (1, .int .i64 ((a : Nat) : Int)), (2, .int .i64 ((m : Nat) : Int)), (3, .int .i64 ((b : Nat) : Int)), (4, .func (.func 35) #[] #[]), (80, .bool (decide (((b : Nat) : Int) - ((m : Nat) : Int) = 1)))]) ⟨rfl, rfl, rfl, rfl, rfl, rfl, trivial⟩ ?_)
    refine CX.condD (p := ((b : Nat) : Int) - ((m : Nat) : Int) = 1) rfl (fun c80 => ?_) (fun c80 => ?_)
    · obtain ⟨y, rfl⟩ := one_of (l := V) (by omega)
      simp only [List.length_cons, List.length_nil, Nat.zero_add] at hm hb hlen hN
      refine CX.seq ?_
      refine CX.region ?_
      refine RX.cons rfl rfl (op_w (yw_move rfl rfl) rfl rfl ?_)
      refine RX.cons rfl rfl (op_w (yw_assign rfl rfl) rfl rfl ?_)
      refine RX.nil (XX.next (V' := [(0, .slice A len cap), (2, .int .i64 ((m : Nat) : Int)), (4, .func (.func 35) #[] #[]), (14, .int .i64 ((a : Nat) : Int))]) ⟨rfl, rfl, rfl, rfl, trivial⟩ ?_)
      refine CX.seq ?_
      refine CX.region ?_
      refine RX.cons rfl rfl (op_w (yw_move rfl rfl) rfl rfl ?_)
      refine RX.cons rfl rfl (op_w (yw_assign rfl rfl) rfl rfl ?_)
      refine RX.nil (XX.next (V' := [(0, .slice A len cap), (2, .int .i64 ((m : Nat) : Int)), (4, .func (.func 35) #[] #[]), (14, .int .i64 ((a : Nat) : Int)), (15, .int .i64 ((m : Nat) : Int))]) ⟨rfl, rfl, rfl, rfl, rfl, trivial⟩ ?_)
      refine CX.seq ?_
      refine CX.block ?_
      refine CX.loop (σ := Nat × Nat) (fun z => [(0, .slice A len cap), (2, .int .i64 ((m : Nat) : Int)), (4, .func (.func 35) #[] #[]), (14, .int .i64 ((z.1 : Nat) : Int)), (15, .int .i64 ((z.2 : Nat) : Int))]) (fun z => [PRow A cap (p ++ U ++ [y] ++ r)]) (fun z => a ≤ z.1 ∧ z.1 ≤ z.2 ∧ z.2 ≤ m ∧ (z.1 = a ∨ ∃ c, (p ++ U ++ [y] ++ r)[z.1 - 1]? = some c ∧ before y c = false) ∧ (z.2 = m ∨ ∃ c, (p ++ U ++ [y] ++ r)[z.2]? = some c ∧ before y c = true)) (fun z => z.2 - z.1) (a, m) ⟨Nat.le_refl _, by dsimp only; omega, Nat.le_refl _, .inl rfl, .inl rfl⟩ ⟨rfl, rfl, rfl, rfl, rfl, trivial⟩ rfl (fun z hI => ?_)
      obtain ⟨i, j⟩ := z
      dsimp only at hI ⊢
      obtain ⟨hi1, hij, hj1, hi, hj⟩ := hI
      refine CX.seq ?_
      refine CX.seq ?_
      refine CX.region ?_
      refine RX.cons rfl rfl (op_w (yw_move rfl rfl) rfl rfl ?_)
      refine RX.cons rfl rfl (op_w (yw_move rfl rfl) rfl rfl ?_)
      refine RX.cons rfl rfl (op_w (yw_lss rfl rfl rfl) rfl rfl ?_)
      refine RX.nil (XX.next (V' := [(0, .slice A len cap), (2, .int .i64 ((m : Nat) : Int)), (4, .func (.func 35) #[] #[]), (14, .int .i64 ((i : Nat) : Int)), (15, .int .i64 ((j : Nat) : Int)), (85, .bool (decide (((i : Nat) : Int) < ((j : Nat) : Int))))]) ⟨rfl, rfl, rfl, rfl, rfl, rfl, trivial⟩ ?_)
      refine CX.condD (p := ((i : Nat) : Int) < ((j : Nat) : Int)) rfl (fun c85 => ?_) (fun c85 => ?_)
      · obtain ⟨x, hx⟩ := get_some (l := p ++ U ++ [y] ++ r) (k := (i + j) / 2) (by simp; omega)
        refine CX.skip (XX.next (V' := [(0, .slice A len cap), (2, .int .i64 ((m : Nat) : Int)), (4, .func (.func 35) #[] #[]), (14, .int .i64 ((i : Nat) : Int)), (15, .int .i64 ((j : Nat) : Int))]) ⟨rfl, rfl, rfl, rfl, rfl, trivial⟩ ?_)
        refine CX.block ?_
        refine CX.seq ?_
        refine CX.region ?_
        refine RX.cons rfl rfl (op_w (yw_move rfl rfl) rfl rfl ?_)
        refine RX.cons rfl rfl (op_w (yw_move rfl rfl) rfl rfl ?_)
        refine RX.cons rfl rfl (op_w (yw_add rfl rfl rfl (by omega) (by omega)) rfl rfl ?_)
        refine RX.cons rfl rfl (op_w (yw_conv rfl rfl Tryd.underlying3 Tryd.underlying91) rfl rfl ?_)
        refine RX.know (t := 89) (u := .int .u64 ((i + j : Nat) : Int)) rfl (congrArg (Value.int .u64) (wrap_u64 (by omega) (by omega) (by omega))) ?_
        refine RX.cons rfl rfl (op_w (yw_shr1 rfl rfl rfl) rfl rfl ?_)
        refine RX.know (t := 90) (u := .int .u64 (((i + j) / 2 : Nat) : Int)) rfl (congrArg (Value.int .u64) (by omega)) ?_
        refine RX.cons rfl rfl (op_w (yw_conv rfl rfl Tryd.underlying91 Tryd.underlying3) rfl rfl ?_)
        refine RX.know (t := 91) (u := .int .i64 (((i + j) / 2 : Nat) : Int)) rfl (congrArg (Value.int .i64) (wrap_i64 (by omega) (by omega) (by omega))) ?_
        refine RX.cons rfl rfl (op_w (yw_assign rfl rfl) rfl rfl ?_)
        refine RX.nil (XX.next (V' := [(0, .slice A len cap), (2, .int .i64 ((m : Nat) : Int)), (4, .func (.func 35) #[] #[]), (14, .int .i64 ((i : Nat) : Int)), (15, .int .i64 ((j : Nat) : Int)), (16, .int .i64 (((i + j) / 2 : Nat) : Int))]) ⟨rfl, rfl, rfl, rfl, rfl, rfl, trivial⟩ ?_)
        refine CX.seq ?_
        refine CX.draw 12 (by kernel_rfl) ?_
        refine DX.takeW 0 1 (by kernel_rfl) rfl rfl rfl rfl rfl (yw_move rfl rfl) ?_
        refine DX.takeW 1 3 (by kernel_rfl) rfl rfl rfl rfl rfl (yw_move rfl rfl) ?_
        refine DX.takeW 2 7 (by kernel_rfl) rfl rfl rfl rfl rfl (yw_move rfl rfl) ?_
        refine DX.takeW 3 15 (by kernel_rfl) rfl rfl rfl rfl rfl (yw_index (k := m) rfl slt_49 rfl rfl (by omega) (by omega) (hA (by omega))) ?_
        refine DX.take 4 31 (by kernel_rfl) rfl rfl rfl rfl rfl (List.Sublist.refl _) (y_rowElem (i := 0) rfl rfl agg_54 rfl (get_at (x := y) (p ++ U) r (by simp) (by first | omega | (simp; omega)))) ?_
        refine DX.takeW 5 63 (by kernel_rfl) rfl rfl rfl rfl rfl (yw_move rfl rfl) ?_
        refine DX.takeW 6 127 (by kernel_rfl) rfl rfl rfl rfl rfl (yw_move rfl rfl) ?_
        refine DX.takeW 7 255 (by kernel_rfl) rfl rfl rfl rfl rfl (yw_index (k := ((i + j) / 2)) rfl slt_49 rfl rfl (by omega) (by omega) (hA (by omega))) ?_
        refine DX.take 8 511 (by kernel_rfl) rfl rfl rfl rfl rfl (List.Sublist.refl _) (y_rowElem (i := 0) rfl rfl agg_54 rfl (map_get hx)) ?_
        refine DX.step 9 1023 (by kernel_rfl) rfl rfl rfl (op_callV (v := .int .i64 (cmpF y x)) rfl rfl rfl rfl rfl ent_35 (fun w _ => w_cmp y x) (DXs.mk (List.Sublist.refl _) ?_))
        refine DX.takeW 10 2047 (by kernel_rfl) rfl rfl rfl rfl rfl (yw_lss rfl rfl rfl) ?_
        refine DX.takeW 11 4095 (by kernel_rfl) rfl rfl rfl rfl rfl (yw_notD rfl rfl) ?_
        refine DX.done (by kernel_rfl) (XX.next (V' := [(0, .slice A len cap), (2, .int .i64 ((m : Nat) : Int)), (4, .func (.func 35) #[] #[]), (14, .int .i64 ((i : Nat) : Int)), (15, .int .i64 ((j : Nat) : Int)), (16, .int .i64 (((i + j) / 2 : Nat) : Int)), (103, .bool (decide (¬ (cmpF y x < 0))))]) ⟨rfl, rfl, rfl, rfl, rfl, rfl, rfl, trivial⟩ ?_)
        refine CX.condD (p := ¬ (cmpF y x < 0)) rfl (fun c103 => ?_) (fun c103 => ?_)
        · refine CX.region ?_
          refine RX.cons rfl rfl (op_w (yw_move rfl rfl) rfl rfl ?_)
          refine RX.cons rfl rfl (op_w (yw_add rfl rfl rfl (by omega) (by omega)) rfl rfl ?_)
          refine RX.know (t := 105) (u := .int .i64 (((i + j) / 2 + 1 : Nat) : Int)) rfl (congrArg (Value.int .i64) (by omega)) ?_
          refine RX.cons rfl rfl (op_w (yw_assign rfl rfl) rfl rfl ?_)
          refine RX.nil (XX.inBlock (V' := [(0, .slice A len cap), (2, .int .i64 ((m : Nat) : Int)), (4, .func (.func 35) #[] #[]), (14, .int .i64 (((i + j) / 2 + 1 : Nat) : Int)), (15, .int .i64 ((j : Nat) : Int))]) ⟨rfl, rfl, rfl, rfl, rfl, trivial⟩ ?_)
          refine XX.againP ([]) ((i + j) / 2 + 1, j) (by dsimp only; omega) ⟨by dsimp only; omega, by dsimp only; omega, hj1, .inr ⟨x, hx, cmpF_nneg c103⟩, hj⟩ ⟨rfl, rfl, rfl, rfl, rfl, trivial⟩ ((perm_pick 0 rfl).trans (List.Perm.cons _ (List.Perm.refl _)))
        · refine CX.region ?_
          refine RX.cons rfl rfl (op_w (yw_move rfl rfl) rfl rfl ?_)
          refine RX.cons rfl rfl (op_w (yw_assign rfl rfl) rfl rfl ?_)
          refine RX.nil (XX.inBlock (V' := [(0, .slice A len cap), (2, .int .i64 ((m : Nat) : Int)), (4, .func (.func 35) #[] #[]), (14, .int .i64 ((i : Nat) : Int)), (15, .int .i64 (((i + j) / 2 : Nat) : Int))]) ⟨rfl, rfl, rfl, rfl, rfl, trivial⟩ ?_)
          refine XX.againP ([]) (i, (i + j) / 2) (by dsimp only; omega) ⟨hi1, by dsimp only; omega, by dsimp only; omega, hi, .inr ⟨x, hx, (cmpF_neg y x).1 (by omega)⟩⟩ ⟨rfl, rfl, rfl, rfl, rfl, trivial⟩ ((perm_pick 0 rfl).trans (List.Perm.cons _ (List.Perm.refl _)))
      · obtain rfl : i = j := by omega
        obtain ⟨A1, A2, rfl, hA1, hsort⟩ := Srt.search_last (p := p) (y := y) (i := i) (r := r) before_swo hU (by omega) (by omega) (by rw [ha]; exact hi) (by rw [hm]; exact hj)
        simp only [List.length_append] at hm hb hlen
        refine CX.exit ?_
        refine XX.then_exit ?_
        refine XX.then_exit ?_
        refine XX.block_exit ?_
        refine XX.next (V' := [(0, .slice A len cap), (2, .int .i64 ((m : Nat) : Int)), (14, .int .i64 ((i : Nat) : Int))]) ⟨rfl, rfl, rfl, trivial⟩ ?_
        refine CX.seq ?_
        refine CX.seq ?_
        refine CX.region ?_
        refine RX.cons rfl rfl (op_w (yw_move rfl rfl) rfl rfl ?_)
        refine RX.cons rfl rfl (op_w (yw_assign rfl rfl) rfl rfl ?_)
        refine RX.nil (XX.next (V' := [(0, .slice A len cap), (14, .int .i64 ((i : Nat) : Int)), (17, .int .i64 ((m : Nat) : Int))]) ⟨rfl, rfl, rfl, trivial⟩ ?_)
        refine CX.block ?_
        refine CX.loop (σ := Nat × List Fct × List Fct) (fun z => [(0, .slice A len cap), (14, .int .i64 ((i : Nat) : Int)), (17, .int .i64 ((z.1 : Nat) : Int))]) (fun z => [PRow A cap (p ++ A1 ++ z.2.1 ++ y :: z.2.2 ++ r)]) (fun z => p.length + A1.length + z.2.1.length = z.1 ∧ z.2.1 ++ z.2.2 = A2) (fun z => z.2.1.length) (m, A2, []) ⟨by dsimp only; omega, by simp⟩ ⟨rfl, rfl, rfl, trivial⟩ (by simp) (fun z hI => ?_)
        obtain ⟨k, D1, D2⟩ := z
        dsimp only at hI ⊢
        obtain ⟨hk, hD⟩ := hI
        subst hD
        simp only [List.length_append] at hm hb hlen
        refine CX.seq ?_
        refine CX.seq ?_
        refine CX.region ?_
        refine RX.cons rfl rfl (op_w (yw_move rfl rfl) rfl rfl ?_)
        refine RX.cons rfl rfl (op_w (yw_move rfl rfl) rfl rfl ?_)
        refine RX.cons rfl rfl (op_w (yw_gtr rfl rfl rfl) rfl rfl ?_)
        refine RX.nil (XX.next (V' := [(0, .slice A len cap), (14, .int .i64 ((i : Nat) : Int)), (17, .int .i64 ((k : Nat) : Int)), (110, .bool (decide (((i : Nat) : Int) < ((k : Nat) : Int))))]) ⟨rfl, rfl, rfl, rfl, trivial⟩ ?_)
        refine CX.condD (p := ((i : Nat) : Int) < ((k : Nat) : Int)) rfl (fun c110 => ?_) (fun c110 => ?_)
        · obtain ⟨D1, x, rfl⟩ := exists_snoc (l := D1) (by omega)
          simp only [List.length_append, List.length_cons, List.length_nil] at hk hm hb hlen
          refine CX.skip (XX.next (V' := [(0, .slice A len cap), (14, .int .i64 ((i : Nat) : Int)), (17, .int .i64 ((k : Nat) : Int))]) ⟨rfl, rfl, rfl, trivial⟩ ?_)
          refine CX.seq ?_
          refine CX.block ?_
          refine CX.draw 15 (by kernel_rfl) ?_
          refine DX.takeW 0 1 (by kernel_rfl) rfl rfl rfl rfl rfl (yw_move rfl rfl) ?_
          refine DX.takeW 1 3 (by kernel_rfl) rfl rfl rfl rfl rfl (yw_move rfl rfl) ?_
          refine DX.takeW 2 7 (by kernel_rfl) rfl rfl rfl rfl rfl (yw_move rfl rfl) ?_
          refine DX.takeW 3 15 (by kernel_rfl) rfl rfl rfl rfl rfl (yw_move rfl rfl) ?_
          refine DX.takeW 4 31 (by kernel_rfl) rfl rfl rfl rfl rfl (yw_sub rfl rfl rfl (by omega) (by omega)) ?_
          refine DX.know (t := 117) (u := .int .i64 ((k - 1 : Nat) : Int)) rfl (congrArg (Value.int .i64) (by omega)) ?_
          refine DX.takeW 5 63 (by kernel_rfl) rfl rfl rfl rfl rfl (yw_move rfl rfl) ?_
          refine DX.takeW 6 127 (by kernel_rfl) rfl rfl rfl rfl rfl (yw_move rfl rfl) ?_
          refine DX.takeW 7 255 (by kernel_rfl) rfl rfl rfl rfl rfl (yw_sub rfl rfl rfl (by omega) (by omega)) ?_
          refine DX.know (t := 120) (u := .int .i64 ((k - 1 : Nat) : Int)) rfl (congrArg (Value.int .i64) (by omega)) ?_
          refine DX.takeW 8 511 (by kernel_rfl) rfl rfl rfl rfl rfl (yw_index (k := (k - 1)) rfl slt_49 rfl rfl (by omega) (by omega) (hA (by omega))) ?_
          refine DX.take 9 1023 (by kernel_rfl) rfl rfl rfl rfl rfl (List.Sublist.refl _) (y_rowElem (i := 0) rfl rfl agg_54 rfl (get_at (x := x) (p ++ A1 ++ D1) (y :: D2 ++ r) (by simp) (by first | omega | (simp; omega)))) ?_
          refine DX.takeW 10 2047 (by kernel_rfl) rfl rfl rfl rfl rfl (yw_move rfl rfl) ?_
          refine DX.takeW 11 4095 (by kernel_rfl) rfl rfl rfl rfl rfl (yw_move rfl rfl) ?_
          refine DX.takeW 12 8191 (by kernel_rfl) rfl rfl rfl rfl rfl (yw_index (k := k) rfl slt_49 rfl rfl (by omega) (by omega) (hA (by omega))) ?_
          refine DX.take 13 16383 (by kernel_rfl) rfl rfl rfl rfl rfl (List.Sublist.refl _) (y_rowElem (i := 0) rfl rfl agg_54 rfl (get_at (x := y) (p ++ A1 ++ (D1 ++ [x])) (D2 ++ r) (by simp) (by first | omega | (simp; omega)))) ?_
          refine DX.takeW 14 32767 (by kernel_rfl) rfl rfl rfl rfl rfl (yw_index (k := k) rfl slt_49 rfl rfl (by omega) (by omega) (hA (by omega))) ?_
          refine DX.stepT 15 65535 (by kernel_rfl) rfl rfl rfl rfl (op_storeElemE (i := 0) (k := k) (ys := List.map Fct.cells (p ++ A1 ++ (D1 ++ [x]) ++ x :: D2 ++ r)) rfl rfl rfl rfl szt_54 rfl (plain_of rfl) rfl (by simp; omega) (set_at (x := y) (v := x) (p ++ A1 ++ (D1 ++ [x])) (D2 ++ r) (by simp) (by first | omega | (simp; omega)) (by simp)) ?_)
          refine DX.takeW 16 131071 (by kernel_rfl) rfl rfl rfl rfl rfl (yw_index (k := (k - 1)) rfl slt_49 rfl rfl (by omega) (by omega) (hA (by omega))) ?_
          refine DX.stepT 17 262143 (by kernel_rfl) rfl rfl rfl rfl (op_storeElemE (i := 0) (k := (k - 1)) (ys := List.map Fct.cells (p ++ A1 ++ (D1 ++ [y]) ++ x :: D2 ++ r)) rfl rfl rfl rfl szt_54 rfl (plain_of rfl) rfl (by simp; omega) (set_at (x := x) (v := y) (p ++ A1 ++ D1) (x :: D2 ++ r) (by simp) (by first | omega | (simp; omega)) (by simp)) ?_)
          refine DX.done (by kernel_rfl) (XX.inBlock (V' := [(0, .slice A len cap), (14, .int .i64 ((i : Nat) : Int)), (17, .int .i64 ((k : Nat) : Int))]) ⟨rfl, rfl, rfl, trivial⟩ ?_)
          refine XX.next (V' := [(0, .slice A len cap), (14, .int .i64 ((i : Nat) : Int)), (17, .int .i64 ((k : Nat) : Int))]) ⟨rfl, rfl, rfl, trivial⟩ ?_
          refine CX.region ?_
          refine RX.cons rfl rfl (op_w (yw_move rfl rfl) rfl rfl ?_)
          refine RX.cons rfl rfl (op_w (yw_sub rfl rfl rfl (by omega) (by omega)) rfl rfl ?_)
          refine RX.know (t := 112) (u := .int .i64 ((k - 1 : Nat) : Int)) rfl (congrArg (Value.int .i64) (by omega)) ?_
          refine RX.cons rfl rfl (op_w (yw_assign rfl rfl) rfl rfl ?_)
          refine RX.nil (XX.againP ([]) (k - 1, D1, x :: D2) (by simp) ⟨by dsimp only; omega, by simp⟩ ⟨rfl, rfl, rfl, trivial⟩ (by simpa using List.Perm.refl _))
        · obtain rfl : D1 = [] := List.length_eq_zero_iff.1 (by omega)
          simp only [List.nil_append] at hsort
          refine CX.exit ?_
          refine XX.then_exit ?_
          refine XX.then_exit ?_
          refine XX.block_exit ?_
          refine XX.next (V' := []) trivial ?_
          refine CX.ret ?_
          refine XX.then_ret ?_
          exact ret_none rfl fun w1 hw => ⟨rfl, prow_eq (by simp only [List.append_nil, List.nil_append]; rw [hsort]; simp) hw⟩
    · refine CX.skip (XX.next (V' := [(0, .slice A len cap), (1, .int .i64 ((a : Nat) : Int)), (2, .int .i64 ((m : Nat) : Int)), (3, .int .i64 ((b : Nat) : Int)), (4, .func (.func 35) #[] #[])]) ⟨rfl, rfl, rfl, rfl, rfl, trivial⟩ ?_)
      refine CX.seq ?_
      obtain ⟨mid, hmid⟩ : ∃ mid, mid = (a + b) / 2 := ⟨_, rfl⟩
      refine CX.region ?_
      refine RX.cons rfl rfl (op_w (yw_move rfl rfl) rfl rfl ?_)
      refine RX.cons rfl rfl (op_w (yw_move rfl rfl) rfl rfl ?_)
      refine RX.cons rfl rfl (op_w (yw_add rfl rfl rfl (by omega) (by omega)) rfl rfl ?_)
      refine RX.cons rfl rfl (op_w (yw_conv rfl rfl Tryd.underlying3 Tryd.underlying91) rfl rfl ?_)
      refine RX.know (t := 132) (u := .int .u64 ((a + b : Nat) : Int)) rfl (congrArg (Value.int .u64) (wrap_u64 (by omega) (by omega) (by omega))) ?_
      refine RX.cons rfl rfl (op_w (yw_shr1 rfl rfl rfl) rfl rfl ?_)
      refine RX.know (t := 133) (u := .int .u64 ((mid : Nat) : Int)) rfl (congrArg (Value.int .u64) (by omega)) ?_
      refine RX.cons rfl rfl (op_w (yw_conv rfl rfl Tryd.underlying91 Tryd.underlying3) rfl rfl ?_)
      refine RX.know (t := 134) (u := .int .i64 ((mid : Nat) : Int)) rfl (congrArg (Value.int .i64) (wrap_i64 (by omega) (by omega) (by omega))) ?_
      refine RX.cons rfl rfl (op_w (yw_assign rfl rfl) rfl rfl ?_)
      refine RX.nil (XX.next (V' := [(0, .slice A len cap), (1, .int .i64 ((a : Nat) : Int)), (2, .int .i64 ((m : Nat) : Int)), (3, .int .i64 ((b : Nat) : Int)), (4, .func (.func 35) #[] #[]), (18, .int .i64 ((mid : Nat) : Int))]) ⟨rfl, rfl, rfl, rfl, rfl, rfl, trivial⟩ ?_)
      refine CX.seq ?_
      refine CX.region ?_
      refine RX.cons rfl rfl (op_w (yw_move rfl rfl) rfl rfl ?_)
      refine RX.cons rfl rfl (op_w (yw_move rfl rfl) rfl rfl ?_)
      refine RX.cons rfl rfl (op_w (yw_add rfl rfl rfl (by omega) (by omega)) rfl rfl ?_)
      refine RX.know (t := 137) (u := .int .i64 ((mid + m : Nat) : Int)) rfl (congrArg (Value.int .i64) (by omega)) ?_
      refine RX.cons rfl rfl (op_w (yw_assign rfl rfl) rfl rfl ?_)
      refine RX.nil (XX.next (V' := [(0, .slice A len cap), (1, .int .i64 ((a : Nat) : Int)), (2, .int .i64 ((m : Nat) : Int)), (3, .int .i64 ((b : Nat) : Int)), (4, .func (.func 35) #[] #[]), (18, .int .i64 ((mid : Nat) : Int)), (19, .int .i64 ((mid + m : Nat) : Int))]) ⟨rfl, rfl, rfl, rfl, rfl, rfl, rfl, trivial⟩ ?_)
      refine CX.seq ?_
      refine CX.region ?_
      refine RX.cons rfl rfl (op_w (yw_assign rfl rfl) rfl rfl ?_)
      refine RX.cons rfl rfl (op_w (yw_assign rfl rfl) rfl rfl ?_)
      refine RX.nil (XX.next (V' := [(0, .slice A len cap), (1, .int .i64 ((a : Nat) : Int)), (2, .int .i64 ((m : Nat) : Int)), (3, .int .i64 ((b : Nat) : Int)), (4, .func (.func 35) #[] #[]), (18, .int .i64 ((mid : Nat) : Int)), (19, .int .i64 ((mid + m : Nat) : Int))]) ⟨rfl, rfl, rfl, rfl, rfl, rfl, rfl, trivial⟩ ?_)
      refine CX.cut (σ := Nat × Nat) (fun z => [(0, .slice A len cap), (1, .int .i64 ((a : Nat) : Int)), (2, .int .i64 ((m : Nat) : Int)), (3, .int .i64 ((b : Nat) : Int)), (4, .func (.func 35) #[] #[]), (18, .int .i64 ((mid : Nat) : Int)), (19, .int .i64 ((mid + m : Nat) : Int)), (20, .int .i64 ((z.1 : Nat) : Int)), (21, .int .i64 ((z.2 : Nat) : Int))]) (fun z => [PRow A cap (p ++ U ++ V ++ r)]) (fun z => z.1 = (if mid < m then mid + m - b else a) ∧ z.2 = (if mid < m then mid else m)) ?_ (fun z hz => ?_)
      · refine CX.seq ?_
        refine CX.region ?_
        refine RX.cons rfl rfl (op_w (yw_move rfl rfl) rfl rfl ?_)
        refine RX.cons rfl rfl (op_w (yw_move rfl rfl) rfl rfl ?_)
        refine RX.cons rfl rfl (op_w (yw_gtr rfl rfl rfl) rfl rfl ?_)
        refine RX.nil (XX.next (V' := [(0, .slice A len cap), (1, .int .i64 ((a : Nat) : Int)), (2, .int .i64 ((m : Nat) : Int)), (3, .int .i64 ((b : Nat) : Int)), (4, .func (.func 35) #[] #[]), (18, .int .i64 ((mid : Nat) : Int)), (19, .int .i64 ((mid + m : Nat) : Int)), (140, .bool (decide (((mid : Nat) : Int) < ((m : Nat) : Int))))]) ⟨rfl, rfl, rfl, rfl, rfl, rfl, rfl, rfl, trivial⟩ ?_)
        refine CX.condD (p := ((mid : Nat) : Int) < ((m : Nat) : Int)) rfl (fun c140 => ?_) (fun c140 => ?_)
        · refine CX.seq ?_
          refine CX.region ?_
          refine RX.cons rfl rfl (op_w (yw_move rfl rfl) rfl rfl ?_)
          refine RX.cons rfl rfl (op_w (yw_move rfl rfl) rfl rfl ?_)
          refine RX.cons rfl rfl (op_w (yw_sub rfl rfl rfl (by omega) (by omega)) rfl rfl ?_)
          refine RX.know (t := 143) (u := .int .i64 ((mid + m - b : Nat) : Int)) rfl (congrArg (Value.int .i64) (by omega)) ?_
          refine RX.cons rfl rfl (op_w (yw_assign rfl rfl) rfl rfl ?_)
          refine RX.nil (XX.next (V' := [(0, .slice A len cap), (1, .int .i64 ((a : Nat) : Int)), (2, .int .i64 ((m : Nat) : Int)), (3, .int .i64 ((b : Nat) : Int)), (4, .func (.func 35) #[] #[]), (18, .int .i64 ((mid : Nat) : Int)), (19, .int .i64 ((mid + m : Nat) : Int)), (20, .int .i64 ((mid + m - b : Nat) : Int))]) ⟨rfl, rfl, rfl, rfl, rfl, rfl, rfl, rfl, trivial⟩ ?_)
          refine CX.region ?_
          refine RX.cons rfl rfl (op_w (yw_move rfl rfl) rfl rfl ?_)
          refine RX.cons rfl rfl (op_w (yw_assign rfl rfl) rfl rfl ?_)
          refine RX.nil (XX.meetP ([]) (mid + m - b, mid) ⟨(if_pos (by omega)).symm, (if_pos (by omega)).symm⟩ ⟨rfl, rfl, rfl, rfl, rfl, rfl, rfl, rfl, rfl, trivial⟩ ((perm_pick 0 rfl).trans (List.Perm.cons _ (List.Perm.refl _))))
        · refine CX.seq ?_
          refine CX.region ?_
          refine RX.cons rfl rfl (op_w (yw_move rfl rfl) rfl rfl ?_)
          refine RX.cons rfl rfl (op_w (yw_assign rfl rfl) rfl rfl ?_)
          refine RX.nil (XX.next (V' := [(0, .slice A len cap), (1, .int .i64 ((a : Nat) : Int)), (2, .int .i64 ((m : Nat) : Int)), (3, .int .i64 ((b : Nat) : Int)), (4, .func (.func 35) #[] #[]), (18, .int .i64 ((mid : Nat) : Int)), (19, .int .i64 ((mid + m : Nat) : Int)), (20, .int .i64 ((a : Nat) : Int))]) ⟨rfl, rfl, rfl, rfl, rfl, rfl, rfl, rfl, trivial⟩ ?_)
          refine CX.region ?_
          refine RX.cons rfl rfl (op_w (yw_move rfl rfl) rfl rfl ?_)
          refine RX.cons rfl rfl (op_w (yw_assign rfl rfl) rfl rfl ?_)
          refine RX.nil (XX.meetP ([]) (a, m) ⟨(if_neg (by omega)).symm, (if_neg (by omega)).symm⟩ ⟨rfl, rfl, rfl, rfl, rfl, rfl, rfl, rfl, rfl, trivial⟩ ((perm_pick 0 rfl).trans (List.Perm.cons _ (List.Perm.refl _))))
      · obtain ⟨lo, hi⟩ := z
        dsimp only at hz ⊢
        obtain ⟨hlo, hhi⟩ := hz
        have hlh : a ≤ lo ∧ lo ≤ hi ∧ hi ≤ m ∧ hi ≤ mid ∧ mid + m - b ≤ lo := by subst hlo hhi; split <;> omega
        refine CX.seq ?_
        refine CX.region ?_
        refine RX.cons rfl rfl (op_w (yw_move rfl rfl) rfl rfl ?_)
        refine RX.cons rfl rfl (op_w (yw_sub rfl rfl rfl (by omega) (by omega)) rfl rfl ?_)
        refine RX.know (t := 148) (u := .int .i64 ((mid + m - 1 : Nat) : Int)) rfl (congrArg (Value.int .i64) (by omega)) ?_
        refine RX.cons rfl rfl (op_w (yw_assign rfl rfl) rfl rfl ?_)
        refine RX.nil (XX.next (V' := [(0, .slice A len cap), (1, .int .i64 ((a : Nat) : Int)), (2, .int .i64 ((m : Nat) : Int)), (3, .int .i64 ((b : Nat) : Int)), (4, .func (.func 35) #[] #[]), (18, .int .i64 ((mid : Nat) : Int)), (19, .int .i64 ((mid + m : Nat) : Int)), (20, .int .i64 ((lo : Nat) : Int)), (21, .int .i64 ((hi : Nat) : Int)), (22, .int .i64 ((mid + m - 1 : Nat) : Int))]) ⟨rfl, rfl, rfl, rfl, rfl, rfl, rfl, rfl, rfl, rfl, trivial⟩ ?_)
        refine CX.seq ?_
        refine CX.block ?_
        refine CX.loop (σ := Nat × Nat) (fun z => [(0, .slice A len cap), (1, .int .i64 ((a : Nat) : Int)), (2, .int .i64 ((m : Nat) : Int)), (3, .int .i64 ((b : Nat) : Int)), (4, .func (.func 35) #[] #[]), (18, .int .i64 ((mid : Nat) : Int)), (19, .int .i64 ((mid + m : Nat) : Int)), (20, .int .i64 ((z.1 : Nat) : Int)), (21, .int .i64 ((z.2 : Nat) : Int)), (22, .int .i64 ((mid + m - 1 : Nat) : Int))]) (fun z => [PRow A cap (p ++ U ++ V ++ r)]) (fun z => lo ≤ z.1 ∧ z.1 ≤ z.2 ∧ z.2 ≤ hi ∧ (z.1 = lo ∨ ∃ x y, (p ++ U ++ V ++ r)[z.1 - 1]? = some x ∧ (p ++ U ++ V ++ r)[mid + m - z.1]? = some y ∧ before y x = false) ∧ (z.2 = hi ∨ ∃ x y, (p ++ U ++ V ++ r)[z.2]? = some x ∧ (p ++ U ++ V ++ r)[mid + m - 1 - z.2]? = some y ∧ before y x = true)) (fun z => z.2 - z.1) (lo, hi) ⟨Nat.le_refl _, by dsimp only; omega, Nat.le_refl _, .inl rfl, .inl rfl⟩ ⟨rfl, rfl, rfl, rfl, rfl, rfl, rfl, rfl, rfl, rfl, trivial⟩ rfl (fun z hI => ?_)
        obtain ⟨s, e⟩ := z
        dsimp only at hI ⊢
        obtain ⟨hs1, hse, he1, hsF, heF⟩ := hI
        refine CX.seq ?_
        refine CX.seq ?_
        refine CX.region ?_
        refine RX.cons rfl rfl (op_w (yw_move rfl rfl) rfl rfl ?_)
        refine RX.cons rfl rfl (op_w (yw_move rfl rfl) rfl rfl ?_)
        refine RX.cons rfl rfl (op_w (yw_lss rfl rfl rfl) rfl rfl ?_)
        refine RX.nil (XX.next (V' := [(0, .slice A len cap), (1, .int .i64 ((a : Nat) : Int)), (2, .int .i64 ((m : Nat) : Int)), (3, .int .i64 ((b : Nat) : Int)), (4, .func (.func 35) #[] #[]), (18, .int .i64 ((mid : Nat) : Int)), (19, .int .i64 ((mid + m : Nat) : Int)), (20, .int .i64 ((s : Nat) : Int)), (21, .int .i64 ((e : Nat) : Int)), (22, .int .i64 ((mid + m - 1 : Nat) : Int)), (151, .bool (decide (((s : Nat) : Int) < ((e : Nat) : Int))))]) ⟨rfl, rfl, rfl, rfl, rfl, rfl, rfl, rfl, rfl, rfl, rfl, trivial⟩ ?_)
        refine CX.condD (p := ((s : Nat) : Int) < ((e : Nat) : Int)) rfl (fun c151 => ?_) (fun c151 => ?_)
        · obtain ⟨x, hx⟩ := get_some (l := p ++ U ++ V ++ r) (k := (s + e) / 2) (by simp; omega)
          obtain ⟨y, hy⟩ := get_some (l := p ++ U ++ V ++ r) (k := mid + m - 1 - (s + e) / 2) (by simp; omega)
          refine CX.skip (XX.next (V' := [(0, .slice A len cap), (1, .int .i64 ((a : Nat) : Int)), (2, .int .i64 ((m : Nat) : Int)), (3, .int .i64 ((b : Nat) : Int)), (4, .func (.func 35) #[] #[]), (18, .int .i64 ((mid : Nat) : Int)), (19, .int .i64 ((mid + m : Nat) : Int)), (20, .int .i64 ((s : Nat) : Int)), (21, .int .i64 ((e : Nat) : Int)), (22, .int .i64 ((mid + m - 1 : Nat) : Int))]) ⟨rfl, rfl, rfl, rfl, rfl, rfl, rfl, rfl, rfl, rfl, trivial⟩ ?_)
          refine CX.block ?_
          refine CX.seq ?_
          refine CX.region ?_
          refine RX.cons rfl rfl (op_w (yw_move rfl rfl) rfl rfl ?_)
          refine RX.cons rfl rfl (op_w (yw_move rfl rfl) rfl rfl ?_)
          refine RX.cons rfl rfl (op_w (yw_add rfl rfl rfl (by omega) (by omega)) rfl rfl ?_)
          refine RX.cons rfl rfl (op_w (yw_conv rfl rfl Tryd.underlying3 Tryd.underlying91) rfl rfl ?_)
          refine RX.know (t := 155) (u := .int .u64 ((s + e : Nat) : Int)) rfl (congrArg (Value.int .u64) (wrap_u64 (by omega) (by omega) (by omega))) ?_
          refine RX.cons rfl rfl (op_w (yw_shr1 rfl rfl rfl) rfl rfl ?_)
          refine RX.know (t := 156) (u := .int .u64 (((s + e) / 2 : Nat) : Int)) rfl (congrArg (Value.int .u64) (by omega)) ?_
          refine RX.cons rfl rfl (op_w (yw_conv rfl rfl Tryd.underlying91 Tryd.underlying3) rfl rfl ?_)
          refine RX.know (t := 157) (u := .int .i64 (((s + e) / 2 : Nat) : Int)) rfl (congrArg (Value.int .i64) (wrap_i64 (by omega) (by omega) (by omega))) ?_
          refine RX.cons rfl rfl (op_w (yw_assign rfl rfl) rfl rfl ?_)
          refine RX.nil (XX.next (V' := [(0, .slice A len cap), (1, .int .i64 ((a : Nat) : Int)), (2, .int .i64 ((m : Nat) : Int)), (3, .int .i64 ((b : Nat) : Int)), (4, .func (.func 35) #[] #[]), (18, .int .i64 ((mid : Nat) : Int)), (19, .int .i64 ((mid + m : Nat) : Int)), (20, .int .i64 ((s : Nat) : Int)), (21, .int .i64 ((e : Nat) : Int)), (22, .int .i64 ((mid + m - 1 : Nat) : Int)), (23, .int .i64 (((s + e) / 2 : Nat) : Int))]) ⟨rfl, rfl, rfl, rfl, rfl, rfl, rfl, rfl, rfl, rfl, rfl, trivial⟩ ?_)
          refine CX.seq ?_
          refine CX.draw 14 (by kernel_rfl) ?_
          refine DX.takeW 0 1 (by kernel_rfl) rfl rfl rfl rfl rfl (yw_move rfl rfl) ?_
          refine DX.takeW 1 3 (by kernel_rfl) rfl rfl rfl rfl rfl (yw_move rfl rfl) ?_
          refine DX.takeW 2 7 (by kernel_rfl) rfl rfl rfl rfl rfl (yw_move rfl rfl) ?_
          refine DX.takeW 3 15 (by kernel_rfl) rfl rfl rfl rfl rfl (yw_move rfl rfl) ?_
          refine DX.takeW 4 31 (by kernel_rfl) rfl rfl rfl rfl rfl (yw_sub rfl rfl rfl (by omega) (by omega)) ?_
          refine DX.know (t := 162) (u := .int .i64 ((mid + m - 1 - (s + e) / 2 : Nat) : Int)) rfl (congrArg (Value.int .i64) (by omega)) ?_
          refine DX.takeW 5 63 (by kernel_rfl) rfl rfl rfl rfl rfl (yw_index (k := (mid + m - 1 - (s + e) / 2)) rfl slt_49 rfl rfl (by omega) (by omega) (hA (by omega))) ?_
          refine DX.take 6 127 (by kernel_rfl) rfl rfl rfl rfl rfl (List.Sublist.refl _) (y_rowElem (i := 0) rfl rfl agg_54 rfl (map_get hy)) ?_
          refine DX.takeW 7 255 (by kernel_rfl) rfl rfl rfl rfl rfl (yw_move rfl rfl) ?_
          refine DX.takeW 8 511 (by kernel_rfl) rfl rfl rfl rfl rfl (yw_move rfl rfl) ?_
          refine DX.takeW 9 1023 (by kernel_rfl) rfl rfl rfl rfl rfl (yw_index (k := ((s + e) / 2)) rfl slt_49 rfl rfl (by omega) (by omega) (hA (by omega))) ?_
          refine DX.take 10 2047 (by kernel_rfl) rfl rfl rfl rfl rfl (List.Sublist.refl _) (y_rowElem (i := 0) rfl rfl agg_54 rfl (map_get hx)) ?_
          refine DX.step 11 4095 (by kernel_rfl) rfl rfl rfl (op_callV (v := .int .i64 (cmpF y x)) rfl rfl rfl rfl rfl ent_35 (fun w _ => w_cmp y x) (DXs.mk (List.Sublist.refl _) ?_))
          refine DX.takeW 12 8191 (by kernel_rfl) rfl rfl rfl rfl rfl (yw_lss rfl rfl rfl) ?_
          refine DX.takeW 13 16383 (by kernel_rfl) rfl rfl rfl rfl rfl (yw_notD rfl rfl) ?_
          refine DX.done (by kernel_rfl) (XX.next (V' := [(0, .slice A len cap), (1, .int .i64 ((a : Nat) : Int)), (2, .int .i64 ((m : Nat) : Int)), (3, .int .i64 ((b : Nat) : Int)), (4, .func (.func 35) #[] #[]), (18, .int .i64 ((mid : Nat) : Int)), (19, .int .i64 ((mid + m : Nat) : Int)), (20, .int .i64 ((s : Nat) : Int)), (21, .int .i64 ((e : Nat) : Int)), (22, .int .i64 ((mid + m - 1 : Nat) : Int)), (23, .int .i64 (((s + e) / 2 : Nat) : Int)), (171, .bool (decide (¬ (cmpF y x < 0))))]) ⟨rfl, rfl, rfl, rfl, rfl, rfl, rfl, rfl, rfl, rfl, rfl, rfl, trivial⟩ ?_)
          refine CX.condD (p := ¬ (cmpF y x < 0)) rfl (fun c171 => ?_) (fun c171 => ?_)
          · refine CX.region ?_
            refine RX.cons rfl rfl (op_w (yw_move rfl rfl) rfl rfl ?_)
            refine RX.cons rfl rfl (op_w (yw_add rfl rfl rfl (by omega) (by omega)) rfl rfl ?_)
            refine RX.know (t := 173) (u := .int .i64 (((s + e) / 2 + 1 : Nat) : Int)) rfl (congrArg (Value.int .i64) (by omega)) ?_
            refine RX.cons rfl rfl (op_w (yw_assign rfl rfl) rfl rfl ?_)
            refine RX.nil (XX.inBlock (V' := [(0, .slice A len cap), (1, .int .i64 ((a : Nat) : Int)), (2, .int .i64 ((m : Nat) : Int)), (3, .int .i64 ((b : Nat) : Int)), (4, .func (.func 35) #[] #[]), (18, .int .i64 ((mid : Nat) : Int)), (19, .int .i64 ((mid + m : Nat) : Int)), (20, .int .i64 (((s + e) / 2 + 1 : Nat) : Int)), (21, .int .i64 ((e : Nat) : Int)), (22, .int .i64 ((mid + m - 1 : Nat) : Int))]) ⟨rfl, rfl, rfl, rfl, rfl, rfl, rfl, rfl, rfl, rfl, trivial⟩ ?_)
            refine XX.againP ([]) ((s + e) / 2 + 1, e) (by dsimp only; omega) ⟨by dsimp only; omega, by dsimp only; omega, he1, .inr ⟨x, y, hx, by dsimp only; rw [show mid + m - ((s + e) / 2 + 1) = mid + m - 1 - (s + e) / 2 from by omega]; exact hy, cmpF_nneg c171⟩, heF⟩ ⟨rfl, rfl, rfl, rfl, rfl, rfl, rfl, rfl, rfl, rfl, trivial⟩ ((perm_pick 0 rfl).trans (List.Perm.cons _ (List.Perm.refl _)))
          · refine CX.region ?_
            refine RX.cons rfl rfl (op_w (yw_move rfl rfl) rfl rfl ?_)
            refine RX.cons rfl rfl (op_w (yw_assign rfl rfl) rfl rfl ?_)
            refine RX.nil (XX.inBlock (V' := [(0, .slice A len cap), (1, .int .i64 ((a : Nat) : Int)), (2, .int .i64 ((m : Nat) : Int)), (3, .int .i64 ((b : Nat) : Int)), (4, .func (.func 35) #[] #[]), (18, .int .i64 ((mid : Nat) : Int)), (19, .int .i64 ((mid + m : Nat) : Int)), (20, .int .i64 ((s : Nat) : Int)), (21, .int .i64 (((s + e) / 2 : Nat) : Int)), (22, .int .i64 ((mid + m - 1 : Nat) : Int))]) ⟨rfl, rfl, rfl, rfl, rfl, rfl, rfl, rfl, rfl, rfl, trivial⟩ ?_)
            refine XX.againP ([]) (s, (s + e) / 2) (by dsimp only; omega) ⟨hs1, by dsimp only; omega, by dsimp only; omega, hsF, .inr ⟨x, y, hx, hy, (cmpF_neg y x).1 (by omega)⟩⟩ ⟨rfl, rfl, rfl, rfl, rfl, rfl, rfl, rfl, rfl, rfl, trivial⟩ ((perm_pick 0 rfl).trans (List.Perm.cons _ (List.Perm.refl _)))
        · obtain rfl : s = e := by omega
          obtain ⟨A1, A2, B1, B2, rfl, rfl, hsA, hsB, hsE, hsort⟩ := Srt.search_mid (p := p) (r := r) (m := m) (b := b) (mid := mid) (s := s) before_swo hU hV hm (by omega) (by rw [ha]; exact hmid) (by rw [ha]; exact hlo) hhi hs1 he1 (by omega) hsF heF
          simp only [List.length_append] at hU0 hV0 hm hb hlen hN
          refine CX.exit ?_
          refine XX.then_exit ?_
          refine XX.then_exit ?_
          refine XX.block_exit ?_
          refine XX.next (V' := [(0, .slice A len cap), (1, .int .i64 ((a : Nat) : Int)), (2, .int .i64 ((m : Nat) : Int)), (3, .int .i64 ((b : Nat) : Int)), (4, .func (.func 35) #[] #[]), (18, .int .i64 ((mid : Nat) : Int)), (19, .int .i64 ((mid + m : Nat) : Int)), (20, .int .i64 ((s : Nat) : Int))]) ⟨rfl, rfl, rfl, rfl, rfl, rfl, rfl, rfl, trivial⟩ ?_
          refine CX.seq ?_
          refine CX.region ?_
          refine RX.cons rfl rfl (op_w (yw_move rfl rfl) rfl rfl ?_)
          refine RX.cons rfl rfl (op_w (yw_move rfl rfl) rfl rfl ?_)
          refine RX.cons rfl rfl (op_w (yw_sub rfl rfl rfl (by omega) (by omega)) rfl rfl ?_)
          refine RX.know (t := 177) (u := .int .i64 ((mid + m - s : Nat) : Int)) rfl (congrArg (Value.int .i64) (by omega)) ?_
          refine RX.cons rfl rfl (op_w (yw_assign rfl rfl) rfl rfl ?_)
          refine RX.nil (XX.next (V' := [(0, .slice A len cap), (1, .int .i64 ((a : Nat) : Int)), (2, .int .i64 ((m : Nat) : Int)), (3, .int .i64 ((b : Nat) : Int)), (4, .func (.func 35) #[] #[]), (18, .int .i64 ((mid : Nat) : Int)), (20, .int .i64 ((s : Nat) : Int)), (24, .int .i64 ((mid + m - s : Nat) : Int))]) ⟨rfl, rfl, rfl, rfl, rfl, rfl, rfl, rfl, trivial⟩ ?_)
          refine CX.cut (σ := Unit) (fun _ => [(0, .slice A len cap), (1, .int .i64 ((a : Nat) : Int)), (3, .int .i64 ((b : Nat) : Int)), (4, .func (.func 35) #[] #[]), (18, .int .i64 ((mid : Nat) : Int)), (20, .int .i64 ((s : Nat) : Int)), (24, .int .i64 ((mid + m - s : Nat) : Int))]) (fun _ => [PRow A cap (p ++ (A1 ++ B1) ++ (A2 ++ B2) ++ r)]) (fun _ => True) ?_ (fun _ _ => ?_)
          · refine CX.seq ?_
            refine CX.region ?_
            refine RX.cons rfl rfl (op_w (yw_move rfl rfl) rfl rfl ?_)
            refine RX.cons rfl rfl (op_w (yw_move rfl rfl) rfl rfl ?_)
            refine RX.cons rfl rfl (op_w (yw_lss rfl rfl rfl) rfl rfl ?_)
            refine RX.cons rfl rfl (op_w (yw_move rfl rfl) rfl rfl ?_)
            refine RX.splitD (t := 181) (p := ((s : Nat) : Int) < ((m : Nat) : Int)) rfl (fun d181 => ?_) (fun d181 => ?_)
            · refine RX.consG rfl rfl rfl rfl rfl (op_w (yw_move rfl rfl) rfl rfl ?_)
              refine RX.consG rfl rfl rfl rfl rfl (op_w (yw_move rfl rfl) rfl rfl ?_)
              refine RX.consG rfl rfl rfl rfl rfl (op_w (yw_lss rfl rfl rfl) rfl rfl ?_)
              refine RX.cons rfl rfl (op_w (yw_pickT rfl rfl rfl) rfl rfl ?_)
              refine RX.nil (XX.next (V' := [(0, .slice A len cap), (1, .int .i64 ((a : Nat) : Int)), (2, .int .i64 ((m : Nat) : Int)), (3, .int .i64 ((b : Nat) : Int)), (4, .func (.func 35) #[] #[]), (18, .int .i64 ((mid : Nat) : Int)), (20, .int .i64 ((s : Nat) : Int)), (24, .int .i64 ((mid + m - s : Nat) : Int)), (185, .bool (decide (((m : Nat) : Int) < ((mid + m - s : Nat) : Int))))]) ⟨rfl, rfl, rfl, rfl, rfl, rfl, rfl, rfl, rfl, trivial⟩ ?_)
              refine CX.condD (p := ((m : Nat) : Int) < ((mid + m - s : Nat) : Int)) rfl (fun c185 => ?_) (fun c185 => ?_)
              · refine CX.region ?_
                refine RX.cons rfl rfl (op_w (yw_move rfl rfl) rfl rfl ?_)
                refine RX.cons rfl rfl (op_w (yw_move rfl rfl) rfl rfl ?_)
                refine RX.cons rfl rfl (op_w (yw_move rfl rfl) rfl rfl ?_)
                refine RX.cons rfl rfl (op_w (yw_move rfl rfl) rfl rfl ?_)
                refine RX.cons rfl rfl (op_w (yw_move rfl rfl) rfl rfl ?_)
                refine RX.cons rfl rfl (op_callP [PRow A cap (p ++ (A1 ++ A2) ++ (B1 ++ B2) ++ r)] [] rfl rfl rfl rfl rfl ent_70 ((perm_pick 0 rfl).trans (List.Perm.cons _ (List.Perm.refl _))) (σ := Unit) (val := fun _ => .tuple #[]) (LL := fun _ => [PRow A cap (p ++ A1 ++ B1 ++ A2 ++ (B2 ++ r))]) (post := fun _ => True) (fun w hw hs => (w_rotate (p ++ A1) A2 B1 (B2 ++ r) s m (mid + m - s) (by first | omega | (simp; omega) | simp) (by first | omega | (simp; omega) | simp) (by first | omega | (simp; omega) | simp) (by first | omega | (simp; omega) | simp) (by first | omega | (simp; omega) | simp) (by first | omega | (simp; omega) | simp) hA hn (prow_eq (by simp) hs)).mono fun e w' h => ⟨(), trivial, h⟩) (fun _ _ => ?_))
                refine RX.nil (XX.meetP ([]) () trivial ⟨rfl, rfl, rfl, rfl, rfl, rfl, rfl, trivial⟩ (by simpa using List.Perm.refl _))
              · refine CX.skip (by obtain rfl : B1 = [] := List.length_eq_zero_iff.1 (by omega); exact XX.meetP ([]) () trivial ⟨rfl, rfl, rfl, rfl, rfl, rfl, rfl, trivial⟩ (by simpa using List.Perm.refl _))
            · refine RX.skip rfl rfl rfl rfl rfl rfl rfl ?_
              refine RX.skip rfl rfl rfl rfl rfl rfl rfl ?_
              refine RX.skip rfl rfl rfl rfl rfl rfl rfl ?_
              refine RX.cons rfl rfl (op_w (yw_pickF rfl rfl rfl) rfl rfl ?_)
              refine RX.nil (XX.next (V' := [(0, .slice A len cap), (1, .int .i64 ((a : Nat) : Int)), (2, .int .i64 ((m : Nat) : Int)), (3, .int .i64 ((b : Nat) : Int)), (4, .func (.func 35) #[] #[]), (18, .int .i64 ((mid : Nat) : Int)), (20, .int .i64 ((s : Nat) : Int)), (24, .int .i64 ((mid + m - s : Nat) : Int)), (185, .bool false)]) ⟨rfl, rfl, rfl, rfl, rfl, rfl, rfl, rfl, rfl, trivial⟩ ?_)
              refine CX.condF rfl ?_
              refine CX.skip (by obtain rfl : A2 = [] := List.length_eq_zero_iff.1 (by omega); exact XX.meetP ([]) () trivial ⟨rfl, rfl, rfl, rfl, rfl, rfl, rfl, trivial⟩ (by simpa using List.Perm.refl _))
          · refine CX.cut (σ := Unit) (fun _ => [(0, .slice A len cap), (3, .int .i64 ((b : Nat) : Int)), (4, .func (.func 35) #[] #[]), (18, .int .i64 ((mid : Nat) : Int)), (24, .int .i64 ((mid + m - s : Nat) : Int))]) (fun _ => [PRow A cap (p ++ Srt.isort before (A1 ++ B1) ++ (A2 ++ B2) ++ r)]) (fun _ => True) ?_ (fun _ _ => ?_)
            · refine CX.seq ?_
              refine CX.region ?_
              refine RX.cons rfl rfl (op_w (yw_move rfl rfl) rfl rfl ?_)
              refine RX.cons rfl rfl (op_w (yw_move rfl rfl) rfl rfl ?_)
              refine RX.cons rfl rfl (op_w (yw_lss rfl rfl rfl) rfl rfl ?_)
              refine RX.cons rfl rfl (op_w (yw_move rfl rfl) rfl rfl ?_)
              refine RX.splitD (t := 195) (p := ((a : Nat) : Int) < ((s : Nat) : Int)) rfl (fun d195 => ?_) (fun d195 => ?_)
              · refine RX.consG rfl rfl rfl rfl rfl (op_w (yw_move rfl rfl) rfl rfl ?_)
                refine RX.consG rfl rfl rfl rfl rfl (op_w (yw_move rfl rfl) rfl rfl ?_)
                refine RX.consG rfl rfl rfl rfl rfl (op_w (yw_lss rfl rfl rfl) rfl rfl ?_)
                refine RX.cons rfl rfl (op_w (yw_pickT rfl rfl rfl) rfl rfl ?_)
                refine RX.nil (XX.next (V' := [(0, .slice A len cap), (1, .int .i64 ((a : Nat) : Int)), (3, .int .i64 ((b : Nat) : Int)), (4, .func (.func 35) #[] #[]), (18, .int .i64 ((mid : Nat) : Int)), (20, .int .i64 ((s : Nat) : Int)), (24, .int .i64 ((mid + m - s : Nat) : Int)), (199, .bool (decide (((s : Nat) : Int) < ((mid : Nat) : Int))))]) ⟨rfl, rfl, rfl, rfl, rfl, rfl, rfl, rfl, trivial⟩ ?_)
                refine CX.condD (p := ((s : Nat) : Int) < ((mid : Nat) : Int)) rfl (fun c199 => ?_) (fun c199 => ?_)
                · refine CX.region ?_
                  refine RX.cons rfl rfl (op_w (yw_move rfl rfl) rfl rfl ?_)
                  refine RX.cons rfl rfl (op_w (yw_move rfl rfl) rfl rfl ?_)
                  refine RX.cons rfl rfl (op_w (yw_move rfl rfl) rfl rfl ?_)
                  refine RX.cons rfl rfl (op_w (yw_move rfl rfl) rfl rfl ?_)
                  refine RX.cons rfl rfl (op_w (yw_move rfl rfl) rfl rfl ?_)
                  refine RX.cons rfl rfl (op_callP [PRow A cap (p ++ (A1 ++ B1) ++ (A2 ++ B2) ++ r)] [] rfl rfl rfl rfl rfl ent_51 ((perm_pick 0 rfl).trans (List.Perm.cons _ (List.Perm.refl _))) (σ := Unit) (val := fun _ => .tuple #[]) (LL := fun _ => [PRow A cap (p ++ Srt.isort before (A1 ++ B1) ++ (A2 ++ B2 ++ r))]) (post := fun _ => True) (fun w hw hs => (ih p A1 B1 (A2 ++ B2 ++ r) a s mid (by omega) (by first | omega | (simp; omega) | simp) (by first | omega | (simp; omega) | simp) (by first | omega | (simp; omega) | simp) (by first | omega | (simp; omega) | simp) (Srt.sorted_append.1 hU).1 (Srt.sorted_append.1 hV).1 (by first | omega | (simp; omega) | simp) (by first | omega | (simp; omega) | simp) hA hn (prow_eq (by simp) hs)).mono fun e w' h => ⟨(), trivial, h⟩) (fun _ _ => ?_))
                  refine RX.nil (XX.meetP ([]) () trivial ⟨rfl, rfl, rfl, rfl, rfl, trivial⟩ (by simpa using List.Perm.refl _))
                · refine CX.skip (by rw [Srt.isort_id before_swo (l := A1 ++ B1) (by obtain rfl : B1 = [] := List.length_eq_zero_iff.1 (by omega); first | simpa using (Srt.sorted_append.1 hU).1 | simpa using (Srt.sorted_append.1 hV).1)]; exact XX.meetP ([]) () trivial ⟨rfl, rfl, rfl, rfl, rfl, trivial⟩ ((perm_pick 0 rfl).trans (List.Perm.cons _ (List.Perm.refl _))))
              · refine RX.skip rfl rfl rfl rfl rfl rfl rfl ?_
                refine RX.skip rfl rfl rfl rfl rfl rfl rfl ?_
                refine RX.skip rfl rfl rfl rfl rfl rfl rfl ?_
                refine RX.cons rfl rfl (op_w (yw_pickF rfl rfl rfl) rfl rfl ?_)
                refine RX.nil (XX.next (V' := [(0, .slice A len cap), (1, .int .i64 ((a : Nat) : Int)), (3, .int .i64 ((b : Nat) : Int)), (4, .func (.func 35) #[] #[]), (18, .int .i64 ((mid : Nat) : Int)), (20, .int .i64 ((s : Nat) : Int)), (24, .int .i64 ((mid + m - s : Nat) : Int)), (199, .bool false)]) ⟨rfl, rfl, rfl, rfl, rfl, rfl, rfl, rfl, trivial⟩ ?_)
                refine CX.condF rfl ?_
                refine CX.skip (by rw [Srt.isort_id before_swo (l := A1 ++ B1) (by obtain rfl : A1 = [] := List.length_eq_zero_iff.1 (by omega); first | simpa using (Srt.sorted_append.1 hU).1 | simpa using (Srt.sorted_append.1 hV).1)]; exact XX.meetP ([]) () trivial ⟨rfl, rfl, rfl, rfl, rfl, trivial⟩ ((perm_pick 0 rfl).trans (List.Perm.cons _ (List.Perm.refl _))))
            · refine CX.seq ?_
              refine CX.region ?_
              refine RX.cons rfl rfl (op_w (yw_move rfl rfl) rfl rfl ?_)
              refine RX.cons rfl rfl (op_w (yw_move rfl rfl) rfl rfl ?_)
              refine RX.cons rfl rfl (op_w (yw_lss rfl rfl rfl) rfl rfl ?_)
              refine RX.cons rfl rfl (op_w (yw_move rfl rfl) rfl rfl ?_)
              refine RX.splitD (t := 209) (p := ((mid : Nat) : Int) < ((mid + m - s : Nat) : Int)) rfl (fun d209 => ?_) (fun d209 => ?_)
              · refine RX.consG rfl rfl rfl rfl rfl (op_w (yw_move rfl rfl) rfl rfl ?_)
                refine RX.consG rfl rfl rfl rfl rfl (op_w (yw_move rfl rfl) rfl rfl ?_)
                refine RX.consG rfl rfl rfl rfl rfl (op_w (yw_lss rfl rfl rfl) rfl rfl ?_)
                refine RX.cons rfl rfl (op_w (yw_pickT rfl rfl rfl) rfl rfl ?_)
                refine RX.nil (XX.next (V' := [(0, .slice A len cap), (3, .int .i64 ((b : Nat) : Int)), (4, .func (.func 35) #[] #[]), (18, .int .i64 ((mid : Nat) : Int)), (24, .int .i64 ((mid + m - s : Nat) : Int)), (213, .bool (decide (((mid + m - s : Nat) : Int) < ((b : Nat) : Int))))]) ⟨rfl, rfl, rfl, rfl, rfl, rfl, trivial⟩ ?_)
                refine CX.condD (p := ((mid + m - s : Nat) : Int) < ((b : Nat) : Int)) rfl (fun c213 => ?_) (fun c213 => ?_)
                · refine CX.region ?_
                  refine RX.cons rfl rfl (op_w (yw_move rfl rfl) rfl rfl ?_)
                  refine RX.cons rfl rfl (op_w (yw_move rfl rfl) rfl rfl ?_)
                  refine RX.cons rfl rfl (op_w (yw_move rfl rfl) rfl rfl ?_)
                  refine RX.cons rfl rfl (op_w (yw_move rfl rfl) rfl rfl ?_)
                  refine RX.cons rfl rfl (op_w (yw_move rfl rfl) rfl rfl ?_)
                  refine RX.cons rfl rfl (op_callP [PRow A cap (p ++ Srt.isort before (A1 ++ B1) ++ (A2 ++ B2) ++ r)] [] rfl rfl rfl rfl rfl ent_51 ((perm_pick 0 rfl).trans (List.Perm.cons _ (List.Perm.refl _))) (σ := Unit) (val := fun _ => .tuple #[]) (LL := fun _ => [PRow A cap (p ++ Srt.isort before (A1 ++ B1) ++ Srt.isort before (A2 ++ B2) ++ r)]) (post := fun _ => True) (fun w hw hs => (ih (p ++ Srt.isort before (A1 ++ B1)) A2 B2 r mid (mid + m - s) b (by omega) (by simp [Srt.isort_length]; omega) (by simp [Srt.isort_length]; omega) (by simp [Srt.isort_length]; omega) (by simp [Srt.isort_length]; omega) (Srt.sorted_append.1 hU).2.1 (Srt.sorted_append.1 hV).2.1 (by first | omega | (simp; omega) | simp) (by first | omega | (simp; omega) | simp) hA hn (prow_eq (by simp) hs)).mono fun e w' h => ⟨(), trivial, h⟩) (fun _ _ => ?_))
                  refine RX.nil ?_
                  exact end_none rfl fun w1 hw => ⟨rfl, prow_eq (by rw [← hsort]; simp) hw⟩
                · refine CX.skip ?_
                  exact end_none rfl fun w1 hw => ⟨rfl, prow_eq (by rw [← hsort, Srt.isort_id before_swo (l := A2 ++ B2) (by obtain rfl : B2 = [] := List.length_eq_zero_iff.1 (by omega); first | simpa using (Srt.sorted_append.1 hU).2.1 | simpa using (Srt.sorted_append.1 hV).2.1)]; simp) hw⟩
              · refine RX.skip rfl rfl rfl rfl rfl rfl rfl ?_
                refine RX.skip rfl rfl rfl rfl rfl rfl rfl ?_
                refine RX.skip rfl rfl rfl rfl rfl rfl rfl ?_
                refine RX.cons rfl rfl (op_w (yw_pickF rfl rfl rfl) rfl rfl ?_)
                refine RX.nil (XX.next (V' := [(0, .slice A len cap), (3, .int .i64 ((b : Nat) : Int)), (4, .func (.func 35) #[] #[]), (18, .int .i64 ((mid : Nat) : Int)), (24, .int .i64 ((mid + m - s : Nat) : Int)), (213, .bool false)]) ⟨rfl, rfl, rfl, rfl, rfl, rfl, trivial⟩ ?_)
                refine CX.condF rfl ?_
                refine CX.skip ?_
                exact end_none rfl fun w1 hw => ⟨rfl, prow_eq (by rw [← hsort, Srt.isort_id before_swo (l := A2 ++ B2) (by obtain rfl : A2 = [] := List.length_eq_zero_iff.1 (by omega); first | simpa using (Srt.sorted_append.1 hU).2.1 | simpa using (Srt.sorted_append.1 hV).2.1)]; simp) hw⟩

theorem symOk : ∀ N, SymOk N
  | 0 => fun p U V r a m b h => by omega
  | N + 1 => fun p U V r a m b h1 h2 h3 h4 h5 h6 h7 h8 h9 h10 h11 h12 => w_symStep (symOk N) p U V r a m b h1 h2 h3 h4 h5 h6 h7 h8 h9 h10 h11 h12

end Go.Proofs.YtmndhiaaolfepaaDoor
