/- Walks, printed by a program. -/
import Derived.Test.YtmndhiaaolfepaaDoorWalkG
namespace Go.Proofs.YtmndhiaaolfepaaDoor
set_option linter.all false
open Go Go.RowKit
set_option maxRecDepth 100000
theorem ent_35 : ∀ args w, (callFunc 35 args).run Tryd.prog w = .ok (.enter 35 args) w := enters_of Tryd.func35 (by kernel_rfl) rfl
set_option maxRecDepth 100000 in
theorem w_insertion {w : World} {A : Option Addr} {cap len : Nat} (p s r : List Fct) (a b : Nat) (hlen : (p ++ s ++ r).length = len) (ha : p.length = a) (hb : p.length + s.length = b) (hA : 0 < len → ∃ b j, A = some ⟨b, j, none⟩) (hn : len ≤ 1000000)(hs : SL w (rowO A) w [PRow A cap (p ++ s ++ r)]) :
    Calls Tryd.prog 50 #[.slice A len cap, .int .i64 ((a : Nat) : Int), .int .i64 ((b : Nat) : Int), .func (.func 35) #[] #[]] w (fun e w' => e = .returned (.tuple #[]) ∧ SL w (rowO A) w' [PRow A cap (p ++ Srt.isort before s ++ r)]) := by
  simp only [List.length_append] at hlen
  refine calls_of_CX (O := (rowO A)) (L := [PRow A cap (p ++ s ++ r)]) (args := [.slice A len cap, .int .i64 ((a : Nat) : Int), .int .i64 ((b : Nat) : Int), .func (.func 35) #[] #[]]) Tryd.func50 rfl (by simp [Tryd.ntmps50]) hs ?_
  refine CX.sub (V' := [(0, .slice A len cap), (1, .int .i64 ((a : Nat) : Int)), (2, .int .i64 ((b : Nat) : Int)), (3, .func (.func 35) #[] #[])]) ⟨rfl, rfl, rfl, rfl, trivial⟩ ?_
  refine CX.seq ?_
  refine CX.region ?_
  refine RX.cons rfl rfl (op_w (yw_move rfl rfl) rfl rfl ?_)
  refine RX.cons rfl rfl (op_w (yw_add rfl rfl rfl (by omega) (by omega)) rfl rfl ?_)
  refine RX.know (t := 11) (u := .int .i64 ((a + 1 : Nat) : Int)) rfl (congrArg (Value.int .i64) (by omega)) ?_
  refine RX.cons rfl rfl (op_w (yw_assign rfl rfl) rfl rfl ?_)
  refine RX.nil (XX.next (V' := [(0, .slice A len cap), (1, .int .i64 ((a : Nat) : Int)), (2, .int .i64 ((b : Nat) : Int)), (3, .func (.func 35) #[] #[]), (8, .int .i64 ((a + 1 : Nat) : Int))]) ⟨rfl, rfl, rfl, rfl, rfl, trivial⟩ ?_)
  refine CX.block ?_
  obtain ⟨S0, T0, hst, hS0, hf0, hl0, hl1⟩ := start_insert s (p.length) a b ha hb
  refine CX.loop (σ := Nat × List Fct × List Fct) (fun z => [(0, .slice A len cap), (1, .int .i64 ((a : Nat) : Int)), (2, .int .i64 ((b : Nat) : Int)), (3, .func (.func 35) #[] #[]), (8, .int .i64 ((z.1 : Nat) : Int))]) (fun z => [PRow A cap (p ++ z.2.1 ++ z.2.2 ++ r)]) (fun z => Srt.Sorted before z.2.1 ∧ z.2.2.foldl (fun acc x => Srt.ins before x acc) z.2.1 = Srt.isort before s ∧ (p.length + z.2.1.length = z.1 ∨ z.2.2 = [] ∧ b ≤ z.1) ∧ p.length + z.2.1.length + z.2.2.length = b) (fun z => z.2.2.length) (a + 1, S0, T0) ⟨hS0, hf0, hl0, hl1⟩ ⟨rfl, rfl, rfl, rfl, rfl, trivial⟩ (by rw [← hst]; simp) (fun z hI => ?_)
  obtain ⟨i, S, T⟩ := z
  dsimp only at hI ⊢
  obtain ⟨hS, hf, hi, hl⟩ := hI
  refine CX.seq ?_
  refine CX.seq ?_
  refine CX.region ?_
  refine RX.cons rfl rfl (op_w (yw_move rfl rfl) rfl rfl ?_)
  refine RX.cons rfl rfl (op_w (yw_move rfl rfl) rfl rfl ?_)
  refine RX.cons rfl rfl (op_w (yw_lss rfl rfl rfl) rfl rfl ?_)
  refine RX.nil (XX.next (V' := [(0, .slice A len cap), (1, .int .i64 ((a : Nat) : Int)), (2, .int .i64 ((b : Nat) : Int)), (3, .func (.func 35) #[] #[]), (8, .int .i64 ((i : Nat) : Int)), (14, .bool (decide (((i : Nat) : Int) < ((b : Nat) : Int))))]) ⟨rfl, rfl, rfl, rfl, rfl, rfl, trivial⟩ ?_)
  refine CX.condD (p := ((i : Nat) : Int) < ((b : Nat) : Int)) rfl (fun c14 => ?_) (fun c14 => ?_)
  · obtain ⟨x, T, rfl⟩ : ∃ x T', T = x :: T' := exists_cons (by rcases hi with hi | hi <;> omega)
    have hi1 : p.length + S.length = i := by rcases hi with hi | hi; exact hi; simp at hi
    simp only [List.length_cons] at hl
    refine CX.skip (XX.next (V' := [(0, .slice A len cap), (1, .int .i64 ((a : Nat) : Int)), (2, .int .i64 ((b : Nat) : Int)), (3, .func (.func 35) #[] #[]), (8, .int .i64 ((i : Nat) : Int))]) ⟨rfl, rfl, rfl, rfl, rfl, trivial⟩ ?_)
    refine CX.seq ?_
    refine CX.block ?_
    refine CX.seq ?_
    refine CX.region ?_
    refine RX.cons rfl rfl (op_w (yw_move rfl rfl) rfl rfl ?_)
    refine RX.cons rfl rfl (op_w (yw_assign rfl rfl) rfl rfl ?_)
    refine RX.nil (XX.next (V' := [(0, .slice A len cap), (1, .int .i64 ((a : Nat) : Int)), (2, .int .i64 ((b : Nat) : Int)), (3, .func (.func 35) #[] #[]), (8, .int .i64 ((i : Nat) : Int)), (9, .int .i64 ((i : Nat) : Int))]) ⟨rfl, rfl, rfl, rfl, rfl, rfl, trivial⟩ ?_)
    refine CX.block ?_
    refine CX.loop (σ := Nat × List Fct × List Fct) (fun z => [(0, .slice A len cap), (1, .int .i64 ((a : Nat) : Int)), (2, .int .i64 ((b : Nat) : Int)), (3, .func (.func 35) #[] #[]), (8, .int .i64 ((i : Nat) : Int)), (9, .int .i64 ((z.1 : Nat) : Int))]) (fun z => [PRow A cap (p ++ z.2.1 ++ x :: z.2.2 ++ T ++ r)]) (fun z => p.length + z.2.1.length = z.1 ∧ z.2.1 ++ z.2.2 = S ∧ ∀ c ∈ z.2.2, before x c = true) (fun z => z.2.1.length) (i, S, []) ⟨hi1, by simp, by simp⟩ ⟨rfl, rfl, rfl, rfl, rfl, rfl, trivial⟩ (by simp) (fun z hI => ?_)
    obtain ⟨j, S1, S2⟩ := z
    dsimp only at hI ⊢
    obtain ⟨hj, hSS, hS2⟩ := hI
    subst hSS
    simp only [List.length_append] at hl hi1
    refine CX.seq ?_
    refine CX.seq ?_
    refine CX.draw 17 (by kernel_rfl) ?_
    refine DX.takeW 0 1 (by kernel_rfl) rfl rfl rfl rfl rfl (yw_move rfl rfl) ?_
    refine DX.takeW 1 3 (by kernel_rfl) rfl rfl rfl rfl rfl (yw_move rfl rfl) ?_
    refine DX.takeW 2 7 (by kernel_rfl) rfl rfl rfl rfl rfl (yw_gtr rfl rfl rfl) ?_
    refine DX.takeW 3 15 (by kernel_rfl) rfl rfl rfl rfl rfl (yw_move rfl rfl) ?_
    refine DX.splitD (t := 21) (p := ((a : Nat) : Int) < ((j : Nat) : Int)) rfl (fun d21 => ?_) (fun d21 => ?_)
    · obtain ⟨S1, y, rfl⟩ : ∃ S1' y, S1 = S1' ++ [y] := exists_snoc (by omega)
      simp only [List.length_append, List.length_cons, List.length_nil] at hl hi1 hj
      refine DX.takeWG 4 31 (by kernel_rfl) rfl rfl rfl rfl rfl rfl rfl rfl (yw_move rfl rfl) ?_
      refine DX.takeWG 5 63 (by kernel_rfl) rfl rfl rfl rfl rfl rfl rfl rfl (yw_move rfl rfl) ?_
      refine DX.takeWG 6 127 (by kernel_rfl) rfl rfl rfl rfl rfl rfl rfl rfl (yw_move rfl rfl) ?_
      refine DX.takeWG 7 255 (by kernel_rfl) rfl rfl rfl rfl rfl rfl rfl rfl (yw_index (k := j) rfl slt_49 rfl rfl (by omega) (by omega) (hA (by omega))) ?_
      refine DX.takeG 8 511 (by kernel_rfl) rfl rfl rfl rfl rfl rfl rfl rfl (List.Sublist.refl _) (y_rowElem (i := 0) rfl rfl agg_54 rfl (get_at (x := x) (p ++ (S1 ++ [y])) (S2 ++ T ++ r) (by simp) (by first | omega | (simp; omega)))) ?_
      refine DX.takeWG 9 1023 (by kernel_rfl) rfl rfl rfl rfl rfl rfl rfl rfl (yw_move rfl rfl) ?_
      refine DX.takeWG 10 2047 (by kernel_rfl) rfl rfl rfl rfl rfl rfl rfl rfl (yw_move rfl rfl) ?_
      refine DX.takeWG 11 4095 (by kernel_rfl) rfl rfl rfl rfl rfl rfl rfl rfl (yw_sub rfl rfl rfl (by omega) (by omega)) ?_
      refine DX.know (t := 29) (u := .int .i64 ((j - 1 : Nat) : Int)) rfl (congrArg (Value.int .i64) (by omega)) ?_
      refine DX.takeWG 12 8191 (by kernel_rfl) rfl rfl rfl rfl rfl rfl rfl rfl (yw_index (k := (j - 1)) rfl slt_49 rfl rfl (by omega) (by omega) (hA (by omega))) ?_
      refine DX.takeG 13 16383 (by kernel_rfl) rfl rfl rfl rfl rfl rfl rfl rfl (List.Sublist.refl _) (y_rowElem (i := 0) rfl rfl agg_54 rfl (get_at (x := y) (p ++ S1) (x :: S2 ++ T ++ r) (by simp) (by first | omega | (simp; omega)))) ?_
      refine DX.stepG 14 32767 (by kernel_rfl) rfl rfl rfl rfl rfl rfl (op_callV (v := .int .i64 (cmpF x y)) rfl rfl rfl rfl rfl ent_35 (fun w _ => w_cmp x y) (DXs.mk (List.Sublist.refl _) ?_))
      refine DX.takeWG 15 65535 (by kernel_rfl) rfl rfl rfl rfl rfl rfl rfl rfl (yw_lss rfl rfl rfl) ?_
      refine DX.takeW 16 131071 (by kernel_rfl) rfl rfl rfl rfl rfl (yw_pickT rfl rfl rfl) ?_
      refine DX.done (by kernel_rfl) (XX.next (V' := [(0, .slice A len cap), (1, .int .i64 ((a : Nat) : Int)), (2, .int .i64 ((b : Nat) : Int)), (3, .func (.func 35) #[] #[]), (8, .int .i64 ((i : Nat) : Int)), (9, .int .i64 ((j : Nat) : Int)), (34, .bool (decide (cmpF x y < 0)))]) ⟨rfl, rfl, rfl, rfl, rfl, rfl, rfl, trivial⟩ ?_)
      refine CX.condD (p := cmpF x y < 0) rfl (fun c34 => ?_) (fun c34 => ?_)
      · refine CX.skip (XX.next (V' := [(0, .slice A len cap), (1, .int .i64 ((a : Nat) : Int)), (2, .int .i64 ((b : Nat) : Int)), (3, .func (.func 35) #[] #[]), (8, .int .i64 ((i : Nat) : Int)), (9, .int .i64 ((j : Nat) : Int))]) ⟨rfl, rfl, rfl, rfl, rfl, rfl, trivial⟩ ?_)
        refine CX.seq ?_
        refine CX.block ?_
        refine CX.draw 15 (by kernel_rfl) ?_
        refine DX.takeW 0 1 (by kernel_rfl) rfl rfl rfl rfl rfl (yw_move rfl rfl) ?_
        refine DX.takeW 1 3 (by kernel_rfl) rfl rfl rfl rfl rfl (yw_move rfl rfl) ?_
        refine DX.takeW 2 7 (by kernel_rfl) rfl rfl rfl rfl rfl (yw_move rfl rfl) ?_
        refine DX.takeW 3 15 (by kernel_rfl) rfl rfl rfl rfl rfl (yw_move rfl rfl) ?_
        refine DX.takeW 4 31 (by kernel_rfl) rfl rfl rfl rfl rfl (yw_sub rfl rfl rfl (by omega) (by omega)) ?_
        refine DX.know (t := 41) (u := .int .i64 ((j - 1 : Nat) : Int)) rfl (congrArg (Value.int .i64) (by omega)) ?_
        refine DX.takeW 5 63 (by kernel_rfl) rfl rfl rfl rfl rfl (yw_move rfl rfl) ?_
        refine DX.takeW 6 127 (by kernel_rfl) rfl rfl rfl rfl rfl (yw_move rfl rfl) ?_
        refine DX.takeW 7 255 (by kernel_rfl) rfl rfl rfl rfl rfl (yw_sub rfl rfl rfl (by omega) (by omega)) ?_
        refine DX.know (t := 44) (u := .int .i64 ((j - 1 : Nat) : Int)) rfl (congrArg (Value.int .i64) (by omega)) ?_
        refine DX.takeW 8 511 (by kernel_rfl) rfl rfl rfl rfl rfl (yw_index (k := (j - 1)) rfl slt_49 rfl rfl (by omega) (by omega) (hA (by omega))) ?_
        refine DX.take 9 1023 (by kernel_rfl) rfl rfl rfl rfl rfl (List.Sublist.refl _) (y_rowElem (i := 0) rfl rfl agg_54 rfl (get_at (x := y) (p ++ S1) (x :: S2 ++ T ++ r) (by simp) (by first | omega | (simp; omega)))) ?_
        refine DX.takeW 10 2047 (by kernel_rfl) rfl rfl rfl rfl rfl (yw_move rfl rfl) ?_
        refine DX.takeW 11 4095 (by kernel_rfl) rfl rfl rfl rfl rfl (yw_move rfl rfl) ?_
        refine DX.takeW 12 8191 (by kernel_rfl) rfl rfl rfl rfl rfl (yw_index (k := j) rfl slt_49 rfl rfl (by omega) (by omega) (hA (by omega))) ?_
        refine DX.take 13 16383 (by kernel_rfl) rfl rfl rfl rfl rfl (List.Sublist.refl _) (y_rowElem (i := 0) rfl rfl agg_54 rfl (get_at (x := x) (p ++ (S1 ++ [y])) (S2 ++ T ++ r) (by simp) (by first | omega | (simp; omega)))) ?_
        refine DX.takeW 14 32767 (by kernel_rfl) rfl rfl rfl rfl rfl (yw_index (k := j) rfl slt_49 rfl rfl (by omega) (by omega) (hA (by omega))) ?_
        refine DX.stepT 15 65535 (by kernel_rfl) rfl rfl rfl rfl (op_storeElemE (i := 0) (k := j) (ys := List.map Fct.cells (p ++ (S1 ++ [y]) ++ y :: S2 ++ T ++ r)) rfl rfl rfl rfl szt_54 rfl (plain_of rfl) rfl (by simp; omega) (set_at (x := x) (v := y) (p ++ (S1 ++ [y])) (S2 ++ T ++ r) (by simp) (by first | omega | (simp; omega)) (by simp)) ?_)
        refine DX.takeW 16 131071 (by kernel_rfl) rfl rfl rfl rfl rfl (yw_index (k := (j - 1)) rfl slt_49 rfl rfl (by omega) (by omega) (hA (by omega))) ?_
        refine DX.stepT 17 262143 (by kernel_rfl) rfl rfl rfl rfl (op_storeElemE (i := 0) (k := (j - 1)) (ys := List.map Fct.cells (p ++ (S1 ++ [x]) ++ y :: S2 ++ T ++ r)) rfl rfl rfl rfl szt_54 rfl (plain_of rfl) rfl (by simp; omega) (set_at (x := y) (v := x) (p ++ S1) (y :: S2 ++ T ++ r) (by simp) (by first | omega | (simp; omega)) (by simp)) ?_)
        refine DX.done (by kernel_rfl) (XX.inBlock (V' := [(0, .slice A len cap), (1, .int .i64 ((a : Nat) : Int)), (2, .int .i64 ((b : Nat) : Int)), (3, .func (.func 35) #[] #[]), (8, .int .i64 ((i : Nat) : Int)), (9, .int .i64 ((j : Nat) : Int))]) ⟨rfl, rfl, rfl, rfl, rfl, rfl, trivial⟩ ?_)
        refine XX.next (V' := [(0, .slice A len cap), (1, .int .i64 ((a : Nat) : Int)), (2, .int .i64 ((b : Nat) : Int)), (3, .func (.func 35) #[] #[]), (8, .int .i64 ((i : Nat) : Int)), (9, .int .i64 ((j : Nat) : Int))]) ⟨rfl, rfl, rfl, rfl, rfl, rfl, trivial⟩ ?_
        refine CX.region ?_
        refine RX.cons rfl rfl (op_w (yw_move rfl rfl) rfl rfl ?_)
        refine RX.cons rfl rfl (op_w (yw_sub rfl rfl rfl (by omega) (by omega)) rfl rfl ?_)
        refine RX.know (t := 36) (u := .int .i64 ((j - 1 : Nat) : Int)) rfl (congrArg (Value.int .i64) (by omega)) ?_
        refine RX.cons rfl rfl (op_w (yw_assign rfl rfl) rfl rfl ?_)
        refine RX.nil (XX.againP ([]) (j - 1, S1, y :: S2) (by simp) ⟨by dsimp only; omega, by simp, fun c hc => (List.mem_cons.1 hc).elim (fun e => e ▸ (cmpF_neg x y).1 c34) (hS2 c)⟩ ⟨rfl, rfl, rfl, rfl, rfl, rfl, trivial⟩ (by simpa using List.Perm.refl _))
      · have hins : Srt.ins before x (S1 ++ [y] ++ S2) = S1 ++ [y] ++ x :: S2 := Srt.ins_place before_swo hS (Srt.below_last before_swo (Srt.sorted_append.1 hS).1 (by cases hb' : before x y; rfl; exact absurd ((cmpF_neg x y).2 hb') c34)) hS2
        refine CX.exit ?_
        refine XX.then_exit ?_
        refine XX.then_exit ?_
        refine XX.block_exit ?_
        refine XX.inBlock (V' := [(0, .slice A len cap), (1, .int .i64 ((a : Nat) : Int)), (2, .int .i64 ((b : Nat) : Int)), (3, .func (.func 35) #[] #[]), (8, .int .i64 ((i : Nat) : Int))]) ⟨rfl, rfl, rfl, rfl, rfl, trivial⟩ ?_
        refine XX.next (V' := [(0, .slice A len cap), (1, .int .i64 ((a : Nat) : Int)), (2, .int .i64 ((b : Nat) : Int)), (3, .func (.func 35) #[] #[]), (8, .int .i64 ((i : Nat) : Int))]) ⟨rfl, rfl, rfl, rfl, rfl, trivial⟩ ?_
        refine CX.region ?_
        refine RX.cons rfl rfl (op_w (yw_move rfl rfl) rfl rfl ?_)
        refine RX.cons rfl rfl (op_w (yw_add rfl rfl rfl (by omega) (by omega)) rfl rfl ?_)
        refine RX.cons rfl rfl (op_w (yw_assign rfl rfl) rfl rfl ?_)
        refine RX.nil (XX.againP ([]) (i + 1, Srt.ins before x (S1 ++ [y] ++ S2), T) (by simp) ⟨Srt.ins_sorted before_swo x hS, hf, .inl (by dsimp only; rw [hins]; simp; omega), by dsimp only; rw [hins]; simp; omega⟩ ⟨rfl, rfl, rfl, rfl, rfl, trivial⟩ (by dsimp only; rw [hins]; simpa using List.Perm.refl _))
    · obtain rfl : S1 = [] := List.length_eq_zero_iff.1 (by omega)
      have hins : Srt.ins before x ([] ++ S2) = [] ++ x :: S2 := Srt.ins_place before_swo hS (by simp) hS2
      refine DX.skip 4 31 (by kernel_rfl) rfl rfl rfl rfl rfl rfl rfl rfl ?_
      refine DX.skip 5 63 (by kernel_rfl) rfl rfl rfl rfl rfl rfl rfl rfl ?_
      refine DX.skip 6 127 (by kernel_rfl) rfl rfl rfl rfl rfl rfl rfl rfl ?_
      refine DX.skip 7 255 (by kernel_rfl) rfl rfl rfl rfl rfl rfl rfl rfl ?_
      refine DX.skip 8 511 (by kernel_rfl) rfl rfl rfl rfl rfl rfl rfl rfl ?_
      refine DX.skip 9 1023 (by kernel_rfl) rfl rfl rfl rfl rfl rfl rfl rfl ?_
      refine DX.skip 10 2047 (by kernel_rfl) rfl rfl rfl rfl rfl rfl rfl rfl ?_
      refine DX.skip 11 4095 (by kernel_rfl) rfl rfl rfl rfl rfl rfl rfl rfl ?_
      refine DX.skip 12 8191 (by kernel_rfl) rfl rfl rfl rfl rfl rfl rfl rfl ?_
      refine DX.skip 13 16383 (by kernel_rfl) rfl rfl rfl rfl rfl rfl rfl rfl ?_
      refine DX.skip 14 32767 (by kernel_rfl) rfl rfl rfl rfl rfl rfl rfl rfl ?_
      refine DX.skip 15 65535 (by kernel_rfl) rfl rfl rfl rfl rfl rfl rfl rfl ?_
      refine DX.takeW 16 131071 (by kernel_rfl) rfl rfl rfl rfl rfl (yw_pickF rfl rfl rfl) ?_
      refine DX.done (by kernel_rfl) (XX.next (V' := [(0, .slice A len cap), (1, .int .i64 ((a : Nat) : Int)), (2, .int .i64 ((b : Nat) : Int)), (3, .func (.func 35) #[] #[]), (8, .int .i64 ((i : Nat) : Int)), (9, .int .i64 ((j : Nat) : Int)), (34, .bool false)]) ⟨rfl, rfl, rfl, rfl, rfl, rfl, rfl, trivial⟩ ?_)
      refine CX.condF rfl ?_
      refine CX.exit ?_
      refine XX.then_exit ?_
      refine XX.then_exit ?_
      refine XX.block_exit ?_
      refine XX.inBlock (V' := [(0, .slice A len cap), (1, .int .i64 ((a : Nat) : Int)), (2, .int .i64 ((b : Nat) : Int)), (3, .func (.func 35) #[] #[]), (8, .int .i64 ((i : Nat) : Int))]) ⟨rfl, rfl, rfl, rfl, rfl, trivial⟩ ?_
      refine XX.next (V' := [(0, .slice A len cap), (1, .int .i64 ((a : Nat) : Int)), (2, .int .i64 ((b : Nat) : Int)), (3, .func (.func 35) #[] #[]), (8, .int .i64 ((i : Nat) : Int))]) ⟨rfl, rfl, rfl, rfl, rfl, trivial⟩ ?_
      refine CX.region ?_
      refine RX.cons rfl rfl (op_w (yw_move rfl rfl) rfl rfl ?_)
      refine RX.cons rfl rfl (op_w (yw_add rfl rfl rfl (by omega) (by omega)) rfl rfl ?_)
      refine RX.cons rfl rfl (op_w (yw_assign rfl rfl) rfl rfl ?_)
      refine RX.nil (XX.againP ([]) (i + 1, Srt.ins before x ([] ++ S2), T) (by simp) ⟨Srt.ins_sorted before_swo x hS, hf, .inl (by dsimp only; rw [hins]; simp; omega), by dsimp only; rw [hins]; simp; omega⟩ ⟨rfl, rfl, rfl, rfl, rfl, trivial⟩ (by dsimp only; rw [hins]; simpa using List.Perm.refl _))
  · obtain rfl : T = [] := by rcases hi with hi | hi; exact List.length_eq_zero_iff.1 (by omega); exact hi.1
    refine CX.exit ?_
    refine XX.then_exit ?_
    refine XX.then_exit ?_
    refine XX.block_exit ?_
    exact end_none rfl fun w1 hw => ⟨rfl, by simpa [← hf] using hw⟩

end Go.Proofs.YtmndhiaaolfepaaDoor
