/- Walks, printed by a program. -/
import Derived.Test.YtmndhiaaolfepaaDoorWalkF
namespace Go.Proofs.YtmndhiaaolfepaaDoor
set_option linter.all false
open Go Go.RowKit
set_option maxRecDepth 100000
theorem slt_49 : SlT Tryd.prog 49 54 18 := ⟨(Tryd.prog.info? 54).get!, Tryd.underlying49, by kernel_rfl, by kernel_rfl⟩
theorem szt_54 : SzT Tryd.prog 54 18 := ⟨(Tryd.prog.info? 54).get!, by kernel_rfl, by kernel_rfl⟩
theorem ent_74 : ∀ args w, (callFunc 74 args).run Tryd.prog w = .ok (.enter 74 args) w := enters_of Tryd.func74 (by kernel_rfl) rfl
set_option maxRecDepth 100000 in
theorem w_swapRange {w : World} {A : Option Addr} {cap len : Nat} (p X q Y r : List Fct) (a b n : Nat) (hlen : (p ++ X ++ q ++ Y ++ r).length = len) (ha : p.length = a) (hb : p.length + X.length + q.length = b) (hX : X.length = n) (hY : Y.length = n) (hA : 0 < len → ∃ b j, A = some ⟨b, j, none⟩) (hn : len ≤ 1000000)(hs : SL w (rowO A) w [PRow A cap (p ++ X ++ q ++ Y ++ r)]) :
    Calls Tryd.prog 74 #[.slice A len cap, .int .i64 ((a : Nat) : Int), .int .i64 ((b : Nat) : Int), .int .i64 ((n : Nat) : Int), .func (.func 35) #[] #[]] w (fun e w' => e = .returned (.tuple #[]) ∧ SL w (rowO A) w' [PRow A cap (p ++ Y ++ q ++ X ++ r)]) := by
  refine calls_of_CX (O := (rowO A)) (L := [PRow A cap (p ++ X ++ q ++ Y ++ r)]) (args := [.slice A len cap, .int .i64 ((a : Nat) : Int), .int .i64 ((b : Nat) : Int), .int .i64 ((n : Nat) : Int), .func (.func 35) #[] #[]]) Tryd.func74 rfl (by simp [Tryd.ntmps74]) hs ?_
  refine CX.sub (V' := [(0, .slice A len cap), (1, .int .i64 ((a : Nat) : Int)), (2, .int .i64 ((b : Nat) : Int)), (3, .int .i64 ((n : Nat) : Int)), (4, .func (.func 35) #[] #[])]) ⟨rfl, rfl, rfl, rfl, rfl, trivial⟩ ?_
  refine CX.seq ?_
  refine CX.region ?_
  refine RX.cons rfl rfl (op_w (yw_assign rfl rfl) rfl rfl ?_)
  refine RX.nil (XX.next (V' := [(0, .slice A len cap), (1, .int .i64 ((a : Nat) : Int)), (2, .int .i64 ((b : Nat) : Int)), (3, .int .i64 ((n : Nat) : Int)), (10, .int .i64 0)]) ⟨rfl, rfl, rfl, rfl, rfl, trivial⟩ ?_)
  refine CX.block ?_
  refine CX.loop (σ := Nat × List Fct × List Fct × List Fct × List Fct) (fun z => [(0, .slice A len cap), (1, .int .i64 ((a : Nat) : Int)), (2, .int .i64 ((b : Nat) : Int)), (3, .int .i64 ((n : Nat) : Int)), (10, .int .i64 ((z.1 : Nat) : Int))]) (fun z => [PRow A cap (p ++ z.2.2.2.1 ++ z.2.2.1 ++ q ++ z.2.1 ++ z.2.2.2.2 ++ r)]) (fun z => z.2.1.length = z.1 ∧ z.2.2.2.1.length = z.1 ∧ z.2.1 ++ z.2.2.1 = X ∧ z.2.2.2.1 ++ z.2.2.2.2 = Y) (fun z => z.2.2.1.length) (0, [], X, [], Y) ⟨rfl, rfl, rfl, rfl⟩ ⟨rfl, rfl, rfl, rfl, rfl, trivial⟩ (by simp) (fun z hI => ?_)
  obtain ⟨i, X1, X2, Y1, Y2⟩ := z
  dsimp only at hI ⊢
  obtain ⟨h1, h2, hX', hY'⟩ := hI
  subst hX' hY'
  simp only [List.length_append] at hlen hX hY hb
  refine CX.seq ?_
  refine CX.seq ?_
  refine CX.region ?_
  refine RX.cons rfl rfl (op_w (yw_move rfl rfl) rfl rfl ?_)
  refine RX.cons rfl rfl (op_w (yw_move rfl rfl) rfl rfl ?_)
  refine RX.cons rfl rfl (op_w (yw_lss rfl rfl rfl) rfl rfl ?_)
  refine RX.nil (XX.next (V' := [(0, .slice A len cap), (1, .int .i64 ((a : Nat) : Int)), (2, .int .i64 ((b : Nat) : Int)), (3, .int .i64 ((n : Nat) : Int)), (10, .int .i64 ((i : Nat) : Int)), (13, .bool (decide (((i : Nat) : Int) < ((n : Nat) : Int))))]) ⟨rfl, rfl, rfl, rfl, rfl, rfl, trivial⟩ ?_)
  refine CX.condD (p := ((i : Nat) : Int) < ((n : Nat) : Int)) rfl (fun c13 => ?_) (fun c13 => ?_)
  · obtain ⟨x, X2, rfl⟩ := exists_cons (l := X2) (by omega)
    obtain ⟨y, Y2, rfl⟩ := exists_cons (l := Y2) (by omega)
    simp only [List.length_cons] at hlen hX hY hb
    refine CX.skip (XX.next (V' := [(0, .slice A len cap), (1, .int .i64 ((a : Nat) : Int)), (2, .int .i64 ((b : Nat) : Int)), (3, .int .i64 ((n : Nat) : Int)), (10, .int .i64 ((i : Nat) : Int))]) ⟨rfl, rfl, rfl, rfl, rfl, trivial⟩ ?_)
    refine CX.seq ?_
    refine CX.block ?_
    refine CX.draw 21 (by kernel_rfl) ?_
    refine DX.takeW 0 1 (by kernel_rfl) rfl rfl rfl rfl rfl (yw_move rfl rfl) ?_
    refine DX.takeW 1 3 (by kernel_rfl) rfl rfl rfl rfl rfl (yw_move rfl rfl) ?_
    refine DX.takeW 2 7 (by kernel_rfl) rfl rfl rfl rfl rfl (yw_move rfl rfl) ?_
    refine DX.takeW 3 15 (by kernel_rfl) rfl rfl rfl rfl rfl (yw_add rfl rfl rfl (by omega) (by omega)) ?_
    refine DX.takeW 4 31 (by kernel_rfl) rfl rfl rfl rfl rfl (yw_move rfl rfl) ?_
    refine DX.takeW 5 63 (by kernel_rfl) rfl rfl rfl rfl rfl (yw_move rfl rfl) ?_
    refine DX.takeW 6 127 (by kernel_rfl) rfl rfl rfl rfl rfl (yw_move rfl rfl) ?_
    refine DX.takeW 7 255 (by kernel_rfl) rfl rfl rfl rfl rfl (yw_add rfl rfl rfl (by omega) (by omega)) ?_
    refine DX.takeW 8 511 (by kernel_rfl) rfl rfl rfl rfl rfl (yw_move rfl rfl) ?_
    refine DX.takeW 9 1023 (by kernel_rfl) rfl rfl rfl rfl rfl (yw_move rfl rfl) ?_
    refine DX.takeW 10 2047 (by kernel_rfl) rfl rfl rfl rfl rfl (yw_move rfl rfl) ?_
    refine DX.takeW 11 4095 (by kernel_rfl) rfl rfl rfl rfl rfl (yw_add rfl rfl rfl (by omega) (by omega)) ?_
    refine DX.takeW 12 8191 (by kernel_rfl) rfl rfl rfl rfl rfl (yw_index (k := (b + i)) rfl slt_49 rfl rfl (by omega) (by omega) (hA (by omega))) ?_
    refine DX.take 13 16383 (by kernel_rfl) rfl rfl rfl rfl rfl (List.Sublist.refl _) (y_rowElem (i := 0) rfl rfl agg_54 rfl (get_at (x := y) (p ++ Y1 ++ x :: X2 ++ q ++ X1) (Y2 ++ r) (by simp) (by first | omega | (simp; omega)))) ?_
    refine DX.takeW 14 32767 (by kernel_rfl) rfl rfl rfl rfl rfl (yw_move rfl rfl) ?_
    refine DX.takeW 15 65535 (by kernel_rfl) rfl rfl rfl rfl rfl (yw_move rfl rfl) ?_
    refine DX.takeW 16 131071 (by kernel_rfl) rfl rfl rfl rfl rfl (yw_move rfl rfl) ?_
    refine DX.takeW 17 262143 (by kernel_rfl) rfl rfl rfl rfl rfl (yw_add rfl rfl rfl (by omega) (by omega)) ?_
    refine DX.takeW 18 524287 (by kernel_rfl) rfl rfl rfl rfl rfl (yw_index (k := (a + i)) rfl slt_49 rfl rfl (by omega) (by omega) (hA (by omega))) ?_
    refine DX.take 19 1048575 (by kernel_rfl) rfl rfl rfl rfl rfl (List.Sublist.refl _) (y_rowElem (i := 0) rfl rfl agg_54 rfl (get_at (x := x) (p ++ Y1) (X2 ++ q ++ X1 ++ y :: Y2 ++ r) (by simp) (by first | omega | (simp; omega)))) ?_
    refine DX.takeW 20 2097151 (by kernel_rfl) rfl rfl rfl rfl rfl (yw_index (k := (a + i)) rfl slt_49 rfl rfl (by omega) (by omega) (hA (by omega))) ?_
    refine DX.stepT 21 4194303 (by kernel_rfl) rfl rfl rfl rfl (op_storeElemE (i := 0) (k := (a + i)) (ys := List.map Fct.cells (p ++ Y1 ++ y :: X2 ++ q ++ X1 ++ y :: Y2 ++ r)) rfl rfl rfl rfl szt_54 rfl (plain_of rfl) rfl (by simp; omega) (set_at (x := x) (v := y) (p ++ Y1) (X2 ++ q ++ X1 ++ y :: Y2 ++ r) (by simp) (by first | omega | (simp; omega)) (by simp)) ?_)
    refine DX.takeW 22 8388607 (by kernel_rfl) rfl rfl rfl rfl rfl (yw_index (k := (b + i)) rfl slt_49 rfl rfl (by omega) (by omega) (hA (by omega))) ?_
    refine DX.stepT 23 16777215 (by kernel_rfl) rfl rfl rfl rfl (op_storeElemE (i := 0) (k := (b + i)) (ys := List.map Fct.cells (p ++ Y1 ++ y :: X2 ++ q ++ X1 ++ x :: Y2 ++ r)) rfl rfl rfl rfl szt_54 rfl (plain_of rfl) rfl (by simp; omega) (set_at (x := y) (v := x) (p ++ Y1 ++ y :: X2 ++ q ++ X1) (Y2 ++ r) (by simp) (by first | omega | (simp; omega)) (by simp)) ?_)
    refine DX.done (by kernel_rfl) (XX.inBlock (V' := [(0, .slice A len cap), (1, .int .i64 ((a : Nat) : Int)), (2, .int .i64 ((b : Nat) : Int)), (3, .int .i64 ((n : Nat) : Int)), (10, .int .i64 ((i : Nat) : Int))]) ⟨rfl, rfl, rfl, rfl, rfl, trivial⟩ ?_)
    refine XX.next (V' := [(0, .slice A len cap), (1, .int .i64 ((a : Nat) : Int)), (2, .int .i64 ((b : Nat) : Int)), (3, .int .i64 ((n : Nat) : Int)), (10, .int .i64 ((i : Nat) : Int))]) ⟨rfl, rfl, rfl, rfl, rfl, trivial⟩ ?_
    refine CX.region ?_
    refine RX.cons rfl rfl (op_w (yw_move rfl rfl) rfl rfl ?_)
    refine RX.cons rfl rfl (op_w (yw_add rfl rfl rfl (by omega) (by omega)) rfl rfl ?_)
    refine RX.cons rfl rfl (op_w (yw_assign rfl rfl) rfl rfl ?_)
    refine RX.nil (XX.againP ([]) (i + 1, X1 ++ [x], X2, Y1 ++ [y], Y2) (by simp) ⟨by simp; omega, by simp; omega, by simp, by simp⟩ ⟨rfl, rfl, rfl, rfl, rfl, trivial⟩ (by simpa using List.Perm.refl _))
  · obtain rfl : X2 = [] := List.length_eq_zero_iff.1 (by omega)
    obtain rfl : Y2 = [] := List.length_eq_zero_iff.1 (by omega)
    refine CX.exit ?_
    refine XX.then_exit ?_
    refine XX.then_exit ?_
    refine XX.block_exit ?_
    exact end_none rfl fun w1 hw => ⟨rfl, by simpa using hw⟩

set_option maxRecDepth 100000 in
theorem w_rotate {w : World} {A : Option Addr} {cap len : Nat} (p U V r : List Fct) (a m b : Nat) (hlen : (p ++ U ++ V ++ r).length = len) (ha : p.length = a) (hm : p.length + U.length = m) (hb : p.length + U.length + V.length = b) (hU : 0 < U.length) (hV : 0 < V.length) (hA : 0 < len → ∃ b j, A = some ⟨b, j, none⟩) (hn : len ≤ 1000000)(hs : SL w (rowO A) w [PRow A cap (p ++ U ++ V ++ r)]) :
    Calls Tryd.prog 70 #[.slice A len cap, .int .i64 ((a : Nat) : Int), .int .i64 ((m : Nat) : Int), .int .i64 ((b : Nat) : Int), .func (.func 35) #[] #[]] w (fun e w' => e = .returned (.tuple #[]) ∧ SL w (rowO A) w' [PRow A cap (p ++ V ++ U ++ r)]) := by
  have hlen' := hlen
  simp only [List.length_append] at hlen'
  refine calls_of_CX (O := (rowO A)) (L := [PRow A cap (p ++ U ++ V ++ r)]) (args := [.slice A len cap, .int .i64 ((a : Nat) : Int), .int .i64 ((m : Nat) : Int), .int .i64 ((b : Nat) : Int), .func (.func 35) #[] #[]]) Tryd.func70 rfl (by simp [Tryd.ntmps70]) hs ?_
  refine CX.sub (V' := [(0, .slice A len cap), (1, .int .i64 ((a : Nat) : Int)), (2, .int .i64 ((m : Nat) : Int)), (3, .int .i64 ((b : Nat) : Int)), (4, .func (.func 35) #[] #[])]) ⟨rfl, rfl, rfl, rfl, rfl, trivial⟩ ?_
  refine CX.seq ?_
  refine CX.region ?_
  refine RX.cons rfl rfl (op_w (yw_move rfl rfl) rfl rfl ?_)
  refine RX.cons rfl rfl (op_w (yw_move rfl rfl) rfl rfl ?_)
  refine RX.cons rfl rfl (op_w (yw_sub rfl rfl rfl (by omega) (by omega)) rfl rfl ?_)
  refine RX.know (t := 14) (u := .int .i64 ((U.length : Nat) : Int)) rfl (congrArg (Value.int .i64) (by omega)) ?_
  refine RX.cons rfl rfl (op_w (yw_assign rfl rfl) rfl rfl ?_)
  refine RX.nil (XX.next (V' := [(0, .slice A len cap), (2, .int .i64 ((m : Nat) : Int)), (3, .int .i64 ((b : Nat) : Int)), (4, .func (.func 35) #[] #[]), (10, .int .i64 ((U.length : Nat) : Int))]) ⟨rfl, rfl, rfl, rfl, rfl, trivial⟩ ?_)
  refine CX.seq ?_
  refine CX.region ?_
  refine RX.cons rfl rfl (op_w (yw_move rfl rfl) rfl rfl ?_)
  refine RX.cons rfl rfl (op_w (yw_move rfl rfl) rfl rfl ?_)
  refine RX.cons rfl rfl (op_w (yw_sub rfl rfl rfl (by omega) (by omega)) rfl rfl ?_)
  refine RX.know (t := 17) (u := .int .i64 ((V.length : Nat) : Int)) rfl (congrArg (Value.int .i64) (by omega)) ?_
  refine RX.cons rfl rfl (op_w (yw_assign rfl rfl) rfl rfl ?_)
  refine RX.nil (XX.next (V' := [(0, .slice A len cap), (2, .int .i64 ((m : Nat) : Int)), (4, .func (.func 35) #[] #[]), (10, .int .i64 ((U.length : Nat) : Int)), (11, .int .i64 ((V.length : Nat) : Int))]) ⟨rfl, rfl, rfl, rfl, rfl, trivial⟩ ?_)
  refine CX.seq ?_
  refine CX.block ?_
  refine CX.loop (σ := Nat × Nat × List Fct × List Fct × List Fct × List Fct) (fun z => [(0, .slice A len cap), (2, .int .i64 ((m : Nat) : Int)), (4, .func (.func 35) #[] #[]), (10, .int .i64 ((z.1 : Nat) : Int)), (11, .int .i64 ((z.2.1 : Nat) : Int))]) (fun z => [PRow A cap (z.2.2.1 ++ z.2.2.2.1 ++ z.2.2.2.2.1 ++ z.2.2.2.2.2)]) (fun z => z.2.2.2.1.length = z.1 ∧ z.2.2.2.2.1.length = z.2.1 ∧ z.2.2.1.length + z.1 = m ∧ 0 < z.1 ∧ 0 < z.2.1 ∧ (z.2.2.1 ++ z.2.2.2.1 ++ z.2.2.2.2.1 ++ z.2.2.2.2.2).length = len ∧ z.2.2.1 ++ z.2.2.2.2.1 ++ z.2.2.2.1 ++ z.2.2.2.2.2 = p ++ V ++ U ++ r) (fun z => z.1 + z.2.1) (U.length, V.length, p, U, V, r) ⟨rfl, rfl, hm, hU, hV, hlen, rfl⟩ ⟨rfl, rfl, rfl, rfl, rfl, trivial⟩ rfl (fun z hI => ?_)
  obtain ⟨i, j, P, X, Y, Q⟩ := z
  dsimp only at hI ⊢
  obtain ⟨hX, hY, hP, hi, hj, hl, hf⟩ := hI
  simp only [List.length_append] at hl
  refine CX.seq ?_
  refine CX.seq ?_
  refine CX.region ?_
  refine RX.cons rfl rfl (op_w (yw_move rfl rfl) rfl rfl ?_)
  refine RX.cons rfl rfl (op_w (yw_move rfl rfl) rfl rfl ?_)
  refine RX.cons rfl rfl (op_w (yw_neq rfl rfl rfl) rfl rfl ?_)
  refine RX.nil (XX.next (V' := [(0, .slice A len cap), (2, .int .i64 ((m : Nat) : Int)), (4, .func (.func 35) #[] #[]), (10, .int .i64 ((i : Nat) : Int)), (11, .int .i64 ((j : Nat) : Int)), (20, .bool (decide (((i : Nat) : Int) ≠ ((j : Nat) : Int))))]) ⟨rfl, rfl, rfl, rfl, rfl, rfl, trivial⟩ ?_)
  refine CX.condD (p := ((i : Nat) : Int) ≠ ((j : Nat) : Int)) rfl (fun c20 => ?_) (fun c20 => ?_)
  · refine CX.skip (XX.next (V' := [(0, .slice A len cap), (2, .int .i64 ((m : Nat) : Int)), (4, .func (.func 35) #[] #[]), (10, .int .i64 ((i : Nat) : Int)), (11, .int .i64 ((j : Nat) : Int))]) ⟨rfl, rfl, rfl, rfl, rfl, trivial⟩ ?_)
    refine CX.block ?_
    refine CX.seq ?_
    refine CX.region ?_
    refine RX.cons rfl rfl (op_w (yw_move rfl rfl) rfl rfl ?_)
    refine RX.cons rfl rfl (op_w (yw_move rfl rfl) rfl rfl ?_)
    refine RX.cons rfl rfl (op_w (yw_gtr rfl rfl rfl) rfl rfl ?_)
    refine RX.nil (XX.next (V' := [(0, .slice A len cap), (2, .int .i64 ((m : Nat) : Int)), (4, .func (.func 35) #[] #[]), (10, .int .i64 ((i : Nat) : Int)), (11, .int .i64 ((j : Nat) : Int)), (23, .bool (decide (((j : Nat) : Int) < ((i : Nat) : Int))))]) ⟨rfl, rfl, rfl, rfl, rfl, rfl, trivial⟩ ?_)
    refine CX.condD (p := ((j : Nat) : Int) < ((i : Nat) : Int)) rfl (fun c23 => ?_) (fun c23 => ?_)
    · obtain ⟨X1, X2, rfl, hX1⟩ := split_at (l := X) (k := j) (by omega)
      simp only [List.length_append] at hX hl
      refine CX.seq ?_
      refine CX.region ?_
      refine RX.cons rfl rfl (op_w (yw_move rfl rfl) rfl rfl ?_)
      refine RX.cons rfl rfl (op_w (yw_move rfl rfl) rfl rfl ?_)
      refine RX.cons rfl rfl (op_w (yw_move rfl rfl) rfl rfl ?_)
      refine RX.cons rfl rfl (op_w (yw_sub rfl rfl rfl (by omega) (by omega)) rfl rfl ?_)
      refine RX.know (t := 27) (u := .int .i64 ((m - i : Nat) : Int)) rfl (congrArg (Value.int .i64) (by omega)) ?_
      refine RX.cons rfl rfl (op_w (yw_move rfl rfl) rfl rfl ?_)
      refine RX.cons rfl rfl (op_w (yw_move rfl rfl) rfl rfl ?_)
      refine RX.cons rfl rfl (op_w (yw_move rfl rfl) rfl rfl ?_)
      refine RX.cons rfl rfl (op_callP [PRow A cap (P ++ (X1 ++ X2) ++ Y ++ Q)] [] rfl rfl rfl rfl rfl ent_74 ((perm_pick 0 rfl).trans (List.Perm.cons _ (List.Perm.refl _))) (σ := Unit) (val := fun _ => .tuple #[]) (LL := fun _ => [PRow A cap (P ++ Y ++ X2 ++ X1 ++ Q)]) (post := fun _ => True) (fun w hw hs => (w_swapRange P X1 X2 Y Q (m - i) m j (by first | omega | (simp; omega) | simp) (by first | omega | (simp; omega) | simp) (by first | omega | (simp; omega) | simp) (by first | omega | (simp; omega) | simp) (by first | omega | (simp; omega) | simp) hA hn (prow_eq (by simp) hs)).mono fun e w' h => ⟨(), trivial, h⟩) (fun _ _ => ?_))
      refine RX.nil (XX.next (V' := [(0, .slice A len cap), (2, .int .i64 ((m : Nat) : Int)), (4, .func (.func 35) #[] #[]), (10, .int .i64 ((i : Nat) : Int)), (11, .int .i64 ((j : Nat) : Int))]) ⟨rfl, rfl, rfl, rfl, rfl, trivial⟩ ?_)
      refine CX.region ?_
      refine RX.cons rfl rfl (op_w (yw_move rfl rfl) rfl rfl ?_)
      refine RX.cons rfl rfl (op_w (yw_move rfl rfl) rfl rfl ?_)
      refine RX.cons rfl rfl (op_w (yw_sub rfl rfl rfl (by omega) (by omega)) rfl rfl ?_)
      refine RX.know (t := 34) (u := .int .i64 ((i - j : Nat) : Int)) rfl (congrArg (Value.int .i64) (by omega)) ?_
      refine RX.cons rfl rfl (op_w (yw_assign rfl rfl) rfl rfl ?_)
      refine RX.nil (XX.inBlock (V' := [(0, .slice A len cap), (2, .int .i64 ((m : Nat) : Int)), (4, .func (.func 35) #[] #[]), (10, .int .i64 ((i - j : Nat) : Int)), (11, .int .i64 ((j : Nat) : Int))]) ⟨rfl, rfl, rfl, rfl, rfl, trivial⟩ ?_)
      refine XX.againP ([]) (i - j, j, P ++ Y, X2, X1, Q) (by dsimp only; omega) ⟨by dsimp only; omega, hX1, by simp; omega, by dsimp only; omega, hj, by simp; omega, by rw [← hf]; simp⟩ ⟨rfl, rfl, rfl, rfl, rfl, trivial⟩ ((perm_pick 0 rfl).trans (List.Perm.cons _ (List.Perm.refl _)))
    · obtain ⟨Y1, Y2, rfl, hY1⟩ := split_at (l := Y) (k := j - i) (by omega)
      simp only [List.length_append] at hY hl
      refine CX.seq ?_
      refine CX.region ?_
      refine RX.cons rfl rfl (op_w (yw_move rfl rfl) rfl rfl ?_)
      refine RX.cons rfl rfl (op_w (yw_move rfl rfl) rfl rfl ?_)
      refine RX.cons rfl rfl (op_w (yw_move rfl rfl) rfl rfl ?_)
      refine RX.cons rfl rfl (op_w (yw_sub rfl rfl rfl (by omega) (by omega)) rfl rfl ?_)
      refine RX.know (t := 38) (u := .int .i64 ((m - i : Nat) : Int)) rfl (congrArg (Value.int .i64) (by omega)) ?_
      refine RX.cons rfl rfl (op_w (yw_move rfl rfl) rfl rfl ?_)
      refine RX.cons rfl rfl (op_w (yw_move rfl rfl) rfl rfl ?_)
      refine RX.cons rfl rfl (op_w (yw_add rfl rfl rfl (by omega) (by omega)) rfl rfl ?_)
      refine RX.cons rfl rfl (op_w (yw_move rfl rfl) rfl rfl ?_)
      refine RX.cons rfl rfl (op_w (yw_sub rfl rfl rfl (by omega) (by omega)) rfl rfl ?_)
      refine RX.know (t := 43) (u := .int .i64 ((m + j - i : Nat) : Int)) rfl (congrArg (Value.int .i64) (by omega)) ?_
      refine RX.cons rfl rfl (op_w (yw_move rfl rfl) rfl rfl ?_)
      refine RX.cons rfl rfl (op_w (yw_move rfl rfl) rfl rfl ?_)
      refine RX.cons rfl rfl (op_callP [PRow A cap (P ++ X ++ (Y1 ++ Y2) ++ Q)] [] rfl rfl rfl rfl rfl ent_74 ((perm_pick 0 rfl).trans (List.Perm.cons _ (List.Perm.refl _))) (σ := Unit) (val := fun _ => .tuple #[]) (LL := fun _ => [PRow A cap (P ++ Y2 ++ Y1 ++ X ++ Q)]) (post := fun _ => True) (fun w hw hs => (w_swapRange P X Y1 Y2 Q (m - i) (m + j - i) i (by first | omega | (simp; omega) | simp) (by first | omega | (simp; omega) | simp) (by first | omega | (simp; omega) | simp) (by first | omega | (simp; omega) | simp) (by first | omega | (simp; omega) | simp) hA hn (prow_eq (by simp) hs)).mono fun e w' h => ⟨(), trivial, h⟩) (fun _ _ => ?_))
      refine RX.nil (XX.next (V' := [(0, .slice A len cap), (2, .int .i64 ((m : Nat) : Int)), (4, .func (.func 35) #[] #[]), (10, .int .i64 ((i : Nat) : Int)), (11, .int .i64 ((j : Nat) : Int))]) ⟨rfl, rfl, rfl, rfl, rfl, trivial⟩ ?_)
      refine CX.region ?_
      refine RX.cons rfl rfl (op_w (yw_move rfl rfl) rfl rfl ?_)
      refine RX.cons rfl rfl (op_w (yw_move rfl rfl) rfl rfl ?_)
      refine RX.cons rfl rfl (op_w (yw_sub rfl rfl rfl (by omega) (by omega)) rfl rfl ?_)
      refine RX.know (t := 49) (u := .int .i64 ((j - i : Nat) : Int)) rfl (congrArg (Value.int .i64) (by omega)) ?_
      refine RX.cons rfl rfl (op_w (yw_assign rfl rfl) rfl rfl ?_)
      refine RX.nil (XX.inBlock (V' := [(0, .slice A len cap), (2, .int .i64 ((m : Nat) : Int)), (4, .func (.func 35) #[] #[]), (10, .int .i64 ((i : Nat) : Int)), (11, .int .i64 ((j - i : Nat) : Int))]) ⟨rfl, rfl, rfl, rfl, rfl, trivial⟩ ?_)
      refine XX.againP ([]) (i, j - i, P, Y2, Y1, X ++ Q) (by dsimp only; omega) ⟨by dsimp only; omega, hY1, hP, hi, by dsimp only; omega, by simp; omega, by rw [← hf]; simp⟩ ⟨rfl, rfl, rfl, rfl, rfl, trivial⟩ (by simp)
  · have hij : i = j := by omega
    refine CX.exit ?_
    refine XX.then_exit ?_
    refine XX.then_exit ?_
    refine XX.block_exit ?_
    refine XX.next (V' := [(0, .slice A len cap), (2, .int .i64 ((m : Nat) : Int)), (4, .func (.func 35) #[] #[]), (10, .int .i64 ((i : Nat) : Int))]) ⟨rfl, rfl, rfl, rfl, trivial⟩ ?_
    refine CX.region ?_
    refine RX.cons rfl rfl (op_w (yw_move rfl rfl) rfl rfl ?_)
    refine RX.cons rfl rfl (op_w (yw_move rfl rfl) rfl rfl ?_)
    refine RX.cons rfl rfl (op_w (yw_move rfl rfl) rfl rfl ?_)
    refine RX.cons rfl rfl (op_w (yw_sub rfl rfl rfl (by omega) (by omega)) rfl rfl ?_)
    refine RX.know (t := 53) (u := .int .i64 ((m - i : Nat) : Int)) rfl (congrArg (Value.int .i64) (by omega)) ?_
    refine RX.cons rfl rfl (op_w (yw_move rfl rfl) rfl rfl ?_)
    refine RX.cons rfl rfl (op_w (yw_move rfl rfl) rfl rfl ?_)
    refine RX.cons rfl rfl (op_w (yw_move rfl rfl) rfl rfl ?_)
    refine RX.cons rfl rfl (op_callP [PRow A cap (P ++ X ++ Y ++ Q)] [] rfl rfl rfl rfl rfl ent_74 ((perm_pick 0 rfl).trans (List.Perm.cons _ (List.Perm.refl _))) (σ := Unit) (val := fun _ => .tuple #[]) (LL := fun _ => [PRow A cap (P ++ Y ++ [] ++ X ++ Q)]) (post := fun _ => True) (fun w hw hs => (w_swapRange P X ([]) Y Q (m - i) m i (by first | omega | (simp; omega) | simp) (by first | omega | (simp; omega) | simp) (by first | omega | (simp; omega) | simp) (by first | omega | (simp; omega) | simp) (by first | omega | (simp; omega) | simp) hA hn (prow_eq (by simp) hs)).mono fun e w' h => ⟨(), trivial, h⟩) (fun _ _ => ?_))
    refine RX.nil ?_
    exact end_none rfl fun w1 hw => ⟨rfl, by rw [← hf]; simpa using hw⟩

end Go.Proofs.YtmndhiaaolfepaaDoor
