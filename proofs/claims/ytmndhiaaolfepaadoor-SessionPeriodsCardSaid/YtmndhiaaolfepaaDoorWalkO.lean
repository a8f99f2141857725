/- Walks, printed by a program. -/
import Derived.Test.YtmndhiaaolfepaaDoorWalkN
namespace Go.Proofs.YtmndhiaaolfepaaDoor
set_option linter.all false
open Go Go.RowKit
set_option maxRecDepth 100000
theorem fld_30_0 : Fld Tryd.prog 30 0 0 := ⟨_, _, (Tryd.prog.info? 3).get!, Tryd.underlying30, rfl, rfl, by kernel_rfl, by decide +kernel⟩
theorem fld_30_1 : Fld Tryd.prog 30 1 1 := ⟨_, _, (Tryd.prog.info? 3).get!, Tryd.underlying30, rfl, rfl, by kernel_rfl, by decide +kernel⟩
theorem ent_18 : ∀ args w, (callFunc 18 args).run Tryd.prog w = .ok (.enter 18 args) w := enters_of Tryd.func18 (by kernel_rfl) rfl
set_option maxRecDepth 100000 in
theorem w_distinct {w : World} {A : Option Addr} {cap : Nat} (fs : List Fct) (hr : Rd w A 18 (fs.map Fct.cells)) (hn : fs.length ≤ 1000) :
    Calls Tryd.prog 14 #[.slice A fs.length cap] w (fun e w' => ∃ z : Option Addr × Nat, True ∧ e = .returned (.slice z.1 (distinctF [] fs).length z.2) ∧ SL w [] w' [.row z.1 z.2 33 18 (List.map Fct.cells (distinctF [] fs))]) := by
  refine calls_of_CX (O := []) (L := []) (args := [.slice A fs.length cap]) Tryd.func14 rfl (by simp [Tryd.ntmps14]) (SL.refl w) ?_
  refine CX.sub (V' := [(0, .slice A fs.length cap)]) ⟨rfl, trivial⟩ ?_
  refine CX.seq ?_
  refine CX.region ?_
  refine RX.cons rfl rfl (op_w (yw_assign rfl rfl) rfl rfl ?_)
  refine RX.nil (XX.next (V' := [(0, .slice A fs.length cap)]) ⟨rfl, trivial⟩ ?_)
  refine CX.seq ?_
  refine CX.region ?_
  refine RX.cons rfl rfl (op_w (yw_assign rfl rfl) rfl rfl ?_)
  refine RX.nil (XX.next (V' := [(0, .slice A fs.length cap), (3, .slice none 0 0)]) ⟨rfl, rfl, trivial⟩ ?_)
  refine CX.seq ?_
  refine CX.seq ?_
  refine CX.region ?_
  refine RX.cons rfl rfl (op_w (yw_assign rfl rfl) rfl rfl ?_)
  refine RX.nil (XX.next (V' := [(0, .slice A fs.length cap), (3, .slice none 0 0), (4, .int .i64 0)]) ⟨rfl, rfl, rfl, trivial⟩ ?_)
  refine CX.block ?_
  refine CX.rowNil 33 18 ?_
  refine CX.loop (σ := Nat × Option Addr × Nat × List Fct) (fun z => [(0, .slice A fs.length cap), (3, .slice z.2.1 z.2.2.2.length z.2.2.1), (4, .int .i64 ((z.1 : Nat) : Int))]) (fun z => [.row z.2.1 z.2.2.1 33 18 (List.map Fct.cells z.2.2.2)]) (fun z => z.1 ≤ fs.length ∧ z.2.2.2.length ≤ z.1 ∧ distinctF z.2.2.2 (fs.drop z.1) = distinctF [] fs) (fun z => fs.length - z.1) (0, none, 0, []) ⟨Nat.zero_le _, Nat.zero_le _, rfl⟩ ⟨rfl, rfl, rfl, trivial⟩ rfl (fun z hI => ?_)
  obtain ⟨i, B, c, ys⟩ := z
  dsimp only at hI ⊢
  obtain ⟨hi, hyl, hf⟩ := hI
  refine CX.seq ?_
  refine CX.seq ?_
  refine CX.region ?_
  refine RX.cons rfl rfl (op_w (yw_move rfl rfl) rfl rfl ?_)
  refine RX.cons rfl rfl (op_w (yw_move rfl rfl) rfl rfl ?_)
  refine RX.cons rfl rfl (op_w (yw_lenS rfl Tryd.underlying22 rfl) rfl rfl ?_)
  refine RX.cons rfl rfl (op_w (yw_lss rfl rfl rfl) rfl rfl ?_)
  refine RX.nil (XX.next (V' := [(0, .slice A fs.length cap), (3, .slice B ys.length c), (4, .int .i64 ((i : Nat) : Int)), (10, .bool (decide (((i : Nat) : Int) < ((fs.length : Nat) : Int))))]) ⟨rfl, rfl, rfl, rfl, trivial⟩ ?_)
  refine CX.condD (p := ((i : Nat) : Int) < ((fs.length : Nat) : Int)) rfl (fun c10 => ?_) (fun c10 => ?_)
  · obtain ⟨f, hfi⟩ := get_some (l := fs) (k := i) (by omega)
    refine CX.skip (XX.next (V' := [(0, .slice A fs.length cap), (3, .slice B ys.length c), (4, .int .i64 ((i : Nat) : Int))]) ⟨rfl, rfl, rfl, trivial⟩ ?_)
    refine CX.seq ?_
    refine CX.block ?_
    refine CX.seq ?_
    refine CX.region ?_
    refine RX.cons rfl rfl (op_w (yw_assign rfl rfl) rfl rfl ?_)
    refine RX.nil (XX.next (V' := [(0, .slice A fs.length cap), (3, .slice B ys.length c), (4, .int .i64 ((i : Nat) : Int)), (5, .bool false)]) ⟨rfl, rfl, rfl, rfl, trivial⟩ ?_)
    refine CX.seq ?_
    refine CX.seq ?_
    refine CX.region ?_
    refine RX.cons rfl rfl (op_w (yw_assign rfl rfl) rfl rfl ?_)
    refine RX.nil (XX.next (V' := [(0, .slice A fs.length cap), (3, .slice B ys.length c), (4, .int .i64 ((i : Nat) : Int)), (5, .bool false), (6, .int .i64 0)]) ⟨rfl, rfl, rfl, rfl, rfl, trivial⟩ ?_)
    refine CX.block ?_
    refine CX.loop (σ := Nat × Bool) (fun z2 => [(0, .slice A fs.length cap), (3, .slice B ys.length c), (4, .int .i64 ((i : Nat) : Int)), (5, .bool z2.2), (6, .int .i64 ((z2.1 : Nat) : Int))]) (fun z2 => [.row B c 33 18 (List.map Fct.cells ys)]) (fun z2 => z2.1 ≤ ys.length ∧ z2.2 = (ys.take z2.1).any (keyF f)) (fun z2 => ys.length - z2.1) (0, false) ⟨Nat.zero_le _, rfl⟩ ⟨rfl, rfl, rfl, rfl, rfl, trivial⟩ rfl (fun z2 hI => ?_)
    obtain ⟨j, b⟩ := z2
    dsimp only at hI ⊢
    obtain ⟨hj, hb⟩ := hI
    refine CX.seq ?_
    refine CX.seq ?_
    refine CX.region ?_
    refine RX.cons rfl rfl (op_w (yw_move rfl rfl) rfl rfl ?_)
    refine RX.cons rfl rfl (op_w (yw_move rfl rfl) rfl rfl ?_)
    refine RX.cons rfl rfl (op_w (yw_lenS rfl Tryd.underlying22 rfl) rfl rfl ?_)
    refine RX.cons rfl rfl (op_w (yw_lss rfl rfl rfl) rfl rfl ?_)
    refine RX.nil (XX.next (V' := [(0, .slice A fs.length cap), (3, .slice B ys.length c), (4, .int .i64 ((i : Nat) : Int)), (5, .bool b), (6, .int .i64 ((j : Nat) : Int)), (16, .bool (decide (((j : Nat) : Int) < ((ys.length : Nat) : Int))))]) ⟨rfl, rfl, rfl, rfl, rfl, rfl, trivial⟩ ?_)
    refine CX.condD (p := ((j : Nat) : Int) < ((ys.length : Nat) : Int)) rfl (fun c16 => ?_) (fun c16 => ?_)
    · obtain ⟨y, hy⟩ := get_some (l := ys) (k := j) (by omega)
      refine CX.rowSome (0) rfl (by simp; omega) (fun hA => ?_)
      refine CX.skip (XX.next (V' := [(0, .slice A fs.length cap), (3, .slice B ys.length c), (4, .int .i64 ((i : Nat) : Int)), (5, .bool b), (6, .int .i64 ((j : Nat) : Int))]) ⟨rfl, rfl, rfl, rfl, rfl, trivial⟩ ?_)
      refine CX.seq ?_
      refine CX.block ?_
      refine CX.draw 28 (by kernel_rfl) ?_
      refine DX.takeW 0 1 (by kernel_rfl) rfl rfl rfl rfl rfl (yw_move rfl rfl) ?_
      refine DX.takeW 1 3 (by kernel_rfl) rfl rfl rfl rfl rfl (yw_move rfl rfl) ?_
      refine DX.split (t := 20) (b := b) rfl (fun d20 => ?_) (fun d20 => ?_)
      · refine DX.skip 2 7 (by kernel_rfl) rfl rfl rfl rfl rfl rfl rfl rfl ?_
        refine DX.skip 3 15 (by kernel_rfl) rfl rfl rfl rfl rfl rfl rfl rfl ?_
        refine DX.skip 4 31 (by kernel_rfl) rfl rfl rfl rfl rfl rfl rfl rfl ?_
        refine DX.skip 5 63 (by kernel_rfl) rfl rfl rfl rfl rfl rfl rfl rfl ?_
        refine DX.skip 6 127 (by kernel_rfl) rfl rfl rfl rfl rfl rfl rfl rfl ?_
        refine DX.skip 7 255 (by kernel_rfl) rfl rfl rfl rfl rfl rfl rfl rfl ?_
        refine DX.skip 8 511 (by kernel_rfl) rfl rfl rfl rfl rfl rfl rfl rfl ?_
        refine DX.skip 9 1023 (by kernel_rfl) rfl rfl rfl rfl rfl rfl rfl rfl ?_
        refine DX.skip 10 2047 (by kernel_rfl) rfl rfl rfl rfl rfl rfl rfl rfl ?_
        refine DX.skip 11 4095 (by kernel_rfl) rfl rfl rfl rfl rfl rfl rfl rfl ?_
        refine DX.skip 12 8191 (by kernel_rfl) rfl rfl rfl rfl rfl rfl rfl rfl ?_
        refine DX.skip 13 16383 (by kernel_rfl) rfl rfl rfl rfl rfl rfl rfl rfl ?_
        refine DX.skip 14 32767 (by kernel_rfl) rfl rfl rfl rfl rfl rfl rfl rfl ?_
        refine DX.skip 15 65535 (by kernel_rfl) rfl rfl rfl rfl rfl rfl rfl rfl ?_
        refine DX.skip 16 131071 (by kernel_rfl) rfl rfl rfl rfl rfl rfl rfl rfl ?_
        refine DX.skip 17 262143 (by kernel_rfl) rfl rfl rfl rfl rfl rfl rfl rfl ?_
        refine DX.skip 18 524287 (by kernel_rfl) rfl rfl rfl rfl rfl rfl rfl rfl ?_
        refine DX.skip 19 1048575 (by kernel_rfl) rfl rfl rfl rfl rfl rfl rfl rfl ?_
        refine DX.skip 20 2097151 (by kernel_rfl) rfl rfl rfl rfl rfl rfl rfl rfl ?_
        refine DX.skip 21 4194303 (by kernel_rfl) rfl rfl rfl rfl rfl rfl rfl rfl ?_
        refine DX.skip 22 8388607 (by kernel_rfl) rfl rfl rfl rfl rfl rfl rfl rfl ?_
        refine DX.skip 23 16777215 (by kernel_rfl) rfl rfl rfl rfl rfl rfl rfl rfl ?_
        refine DX.skip 24 33554431 (by kernel_rfl) rfl rfl rfl rfl rfl rfl rfl rfl ?_
        refine DX.skip 25 67108863 (by kernel_rfl) rfl rfl rfl rfl rfl rfl rfl rfl ?_
        refine DX.takeW 26 134217727 (by kernel_rfl) rfl rfl rfl rfl rfl (yw_pickT rfl rfl rfl) ?_
        refine DX.takeW 27 268435455 (by kernel_rfl) rfl rfl rfl rfl rfl (yw_assign rfl rfl) ?_
        refine DX.done (by kernel_rfl) (XX.inBlock (V' := [(0, .slice A fs.length cap), (3, .slice B ys.length c), (4, .int .i64 ((i : Nat) : Int)), (5, .bool true), (6, .int .i64 ((j : Nat) : Int))]) ⟨rfl, rfl, rfl, rfl, rfl, trivial⟩ ?_)
        refine XX.next (V' := [(0, .slice A fs.length cap), (3, .slice B ys.length c), (4, .int .i64 ((i : Nat) : Int)), (5, .bool true), (6, .int .i64 ((j : Nat) : Int))]) ⟨rfl, rfl, rfl, rfl, rfl, trivial⟩ ?_
        refine CX.region ?_
        refine RX.cons rfl rfl (op_w (yw_move rfl rfl) rfl rfl ?_)
        refine RX.cons rfl rfl (op_w (yw_add rfl rfl rfl (by omega) (by omega)) rfl rfl ?_)
        refine RX.cons rfl rfl (op_w (yw_assign rfl rfl) rfl rfl ?_)
        refine RX.nil (XX.againP ([]) (j + 1, true) (by dsimp only; omega) ⟨by dsimp only; omega, by rw [hb] at d20; dsimp only; rw [take_succ hy, List.any_append, d20, Bool.true_or]⟩ ⟨rfl, rfl, rfl, rfl, rfl, trivial⟩ ((perm_pick 0 rfl).trans (List.Perm.cons _ (List.Perm.refl _))))
      · refine DX.takeWG 2 7 (by kernel_rfl) rfl rfl rfl rfl rfl rfl rfl rfl (yw_move rfl rfl) ?_
        refine DX.takeWG 3 15 (by kernel_rfl) rfl rfl rfl rfl rfl rfl rfl rfl (yw_move rfl rfl) ?_
        refine DX.takeWG 4 31 (by kernel_rfl) rfl rfl rfl rfl rfl rfl rfl rfl (yw_index (k := j) rfl slt_22 rfl rfl (by omega) (by omega) hA) ?_
        refine DX.takeWG 5 63 (by kernel_rfl) rfl rfl rfl rfl rfl rfl rfl rfl (yw_fieldAddr rfl fld_33_6 rfl) ?_
        refine DX.takeG 6 127 (by kernel_rfl) rfl rfl rfl rfl rfl rfl rfl rfl (List.Sublist.refl _) (y_rowElemF (i := 0) rfl rfl one_3 rfl (map_get hy) rfl) ?_
        refine DX.takeWG 7 255 (by kernel_rfl) rfl rfl rfl rfl rfl rfl rfl rfl (yw_move rfl rfl) ?_
        refine DX.takeWG 8 511 (by kernel_rfl) rfl rfl rfl rfl rfl rfl rfl rfl (yw_move rfl rfl) ?_
        refine DX.takeWG 9 1023 (by kernel_rfl) rfl rfl rfl rfl rfl rfl rfl rfl (yw_index (k := i) rfl slt_22 rfl rfl (by omega) (by omega) (hr.some (k := i) (by simp; omega))) ?_
        refine DX.takeWG 10 2047 (by kernel_rfl) rfl rfl rfl rfl rfl rfl rfl rfl (yw_fieldAddr rfl fld_33_6 rfl) ?_
        refine DX.takeG 11 4095 (by kernel_rfl) rfl rfl rfl rfl rfl rfl rfl rfl (List.Sublist.refl _) (y_elemF rfl rfl one_3 hr (by simp) (map_get hfi) rfl) ?_
        refine DX.takeWG 12 8191 (by kernel_rfl) rfl rfl rfl rfl rfl rfl rfl rfl (yw_eql rfl rfl rfl) ?_
        refine DX.takeWG 13 16383 (by kernel_rfl) rfl rfl rfl rfl rfl rfl rfl rfl (yw_move rfl rfl) ?_
        refine DX.splitD (t := 32) (p := y.device = f.device) rfl (fun d32 => ?_) (fun d32 => ?_)
        · refine DX.takeWG 14 32767 (by kernel_rfl) rfl rfl rfl rfl rfl rfl rfl rfl (yw_move rfl rfl) ?_
          refine DX.takeWG 15 65535 (by kernel_rfl) rfl rfl rfl rfl rfl rfl rfl rfl (yw_move rfl rfl) ?_
          refine DX.takeWG 16 131071 (by kernel_rfl) rfl rfl rfl rfl rfl rfl rfl rfl (yw_index (k := j) rfl slt_22 rfl rfl (by omega) (by omega) hA) ?_
          refine DX.takeWG 17 262143 (by kernel_rfl) rfl rfl rfl rfl rfl rfl rfl rfl (yw_fieldAddr rfl fld_33_1 rfl) ?_
          refine DX.takeG 18 524287 (by kernel_rfl) rfl rfl rfl rfl rfl rfl rfl rfl (List.Sublist.refl _) (y_rowElemF (i := 0) rfl rfl one_3 rfl (map_get hy) rfl) ?_
          refine DX.takeWG 19 1048575 (by kernel_rfl) rfl rfl rfl rfl rfl rfl rfl rfl (yw_move rfl rfl) ?_
          refine DX.takeWG 20 2097151 (by kernel_rfl) rfl rfl rfl rfl rfl rfl rfl rfl (yw_move rfl rfl) ?_
          refine DX.takeWG 21 4194303 (by kernel_rfl) rfl rfl rfl rfl rfl rfl rfl rfl (yw_index (k := i) rfl slt_22 rfl rfl (by omega) (by omega) (hr.some (k := i) (by simp; omega))) ?_
          refine DX.takeWG 22 8388607 (by kernel_rfl) rfl rfl rfl rfl rfl rfl rfl rfl (yw_fieldAddr rfl fld_33_1 rfl) ?_
          refine DX.takeG 23 16777215 (by kernel_rfl) rfl rfl rfl rfl rfl rfl rfl rfl (List.Sublist.refl _) (y_elemF rfl rfl one_3 hr (by simp) (map_get hfi) rfl) ?_
          refine DX.takeWG 24 33554431 (by kernel_rfl) rfl rfl rfl rfl rfl rfl rfl rfl (yw_eql rfl rfl rfl) ?_
          refine DX.takeWG 25 67108863 (by kernel_rfl) rfl rfl rfl rfl rfl rfl rfl rfl (yw_pickT rfl rfl rfl) ?_
          refine DX.takeW 26 134217727 (by kernel_rfl) rfl rfl rfl rfl rfl (yw_pickF rfl rfl rfl) ?_
          refine DX.takeW 27 268435455 (by kernel_rfl) rfl rfl rfl rfl rfl (yw_assign rfl rfl) ?_
          refine DX.done (by kernel_rfl) (XX.inBlock (V' := [(0, .slice A fs.length cap), (3, .slice B ys.length c), (4, .int .i64 ((i : Nat) : Int)), (5, .bool (decide (y.id = f.id))), (6, .int .i64 ((j : Nat) : Int))]) ⟨rfl, rfl, rfl, rfl, rfl, trivial⟩ ?_)
          refine XX.next (V' := [(0, .slice A fs.length cap), (3, .slice B ys.length c), (4, .int .i64 ((i : Nat) : Int)), (5, .bool (decide (y.id = f.id))), (6, .int .i64 ((j : Nat) : Int))]) ⟨rfl, rfl, rfl, rfl, rfl, trivial⟩ ?_
          refine CX.region ?_
          refine RX.cons rfl rfl (op_w (yw_move rfl rfl) rfl rfl ?_)
          refine RX.cons rfl rfl (op_w (yw_add rfl rfl rfl (by omega) (by omega)) rfl rfl ?_)
          refine RX.cons rfl rfl (op_w (yw_assign rfl rfl) rfl rfl ?_)
          refine RX.nil (XX.againP ([]) (j + 1, decide (y.id = f.id)) (by dsimp only; omega) ⟨by dsimp only; omega, by rw [hb] at d20; dsimp only; rw [take_succ hy, List.any_append, d20]; simp [keyF, d32]; rfl⟩ ⟨rfl, rfl, rfl, rfl, rfl, trivial⟩ ((perm_pick 0 rfl).trans (List.Perm.cons _ (List.Perm.refl _))))
        · refine DX.skip 14 32767 (by kernel_rfl) rfl rfl rfl rfl rfl rfl rfl rfl ?_
          refine DX.skip 15 65535 (by kernel_rfl) rfl rfl rfl rfl rfl rfl rfl rfl ?_
          refine DX.skip 16 131071 (by kernel_rfl) rfl rfl rfl rfl rfl rfl rfl rfl ?_
          refine DX.skip 17 262143 (by kernel_rfl) rfl rfl rfl rfl rfl rfl rfl rfl ?_
          refine DX.skip 18 524287 (by kernel_rfl) rfl rfl rfl rfl rfl rfl rfl rfl ?_
          refine DX.skip 19 1048575 (by kernel_rfl) rfl rfl rfl rfl rfl rfl rfl rfl ?_
          refine DX.skip 20 2097151 (by kernel_rfl) rfl rfl rfl rfl rfl rfl rfl rfl ?_
          refine DX.skip 21 4194303 (by kernel_rfl) rfl rfl rfl rfl rfl rfl rfl rfl ?_
          refine DX.skip 22 8388607 (by kernel_rfl) rfl rfl rfl rfl rfl rfl rfl rfl ?_
          refine DX.skip 23 16777215 (by kernel_rfl) rfl rfl rfl rfl rfl rfl rfl rfl ?_
          refine DX.skip 24 33554431 (by kernel_rfl) rfl rfl rfl rfl rfl rfl rfl rfl ?_
          refine DX.takeWG 25 67108863 (by kernel_rfl) rfl rfl rfl rfl rfl rfl rfl rfl (yw_pickF rfl rfl rfl) ?_
          refine DX.takeW 26 134217727 (by kernel_rfl) rfl rfl rfl rfl rfl (yw_pickF rfl rfl rfl) ?_
          refine DX.takeW 27 268435455 (by kernel_rfl) rfl rfl rfl rfl rfl (yw_assign rfl rfl) ?_
          refine DX.done (by kernel_rfl) (XX.inBlock (V' := [(0, .slice A fs.length cap), (3, .slice B ys.length c), (4, .int .i64 ((i : Nat) : Int)), (5, .bool false), (6, .int .i64 ((j : Nat) : Int))]) ⟨rfl, rfl, rfl, rfl, rfl, trivial⟩ ?_)
          refine XX.next (V' := [(0, .slice A fs.length cap), (3, .slice B ys.length c), (4, .int .i64 ((i : Nat) : Int)), (5, .bool false), (6, .int .i64 ((j : Nat) : Int))]) ⟨rfl, rfl, rfl, rfl, rfl, trivial⟩ ?_
          refine CX.region ?_
          refine RX.cons rfl rfl (op_w (yw_move rfl rfl) rfl rfl ?_)
          refine RX.cons rfl rfl (op_w (yw_add rfl rfl rfl (by omega) (by omega)) rfl rfl ?_)
          refine RX.cons rfl rfl (op_w (yw_assign rfl rfl) rfl rfl ?_)
          refine RX.nil (XX.againP ([]) (j + 1, false) (by dsimp only; omega) ⟨by dsimp only; omega, by rw [hb] at d20; dsimp only; rw [take_succ hy, List.any_append, d20]; simp [keyF, d32]⟩ ⟨rfl, rfl, rfl, rfl, rfl, trivial⟩ ((perm_pick 0 rfl).trans (List.Perm.cons _ (List.Perm.refl _))))
    · obtain rfl : j = ys.length := by omega
      rw [List.take_length] at hb
      refine CX.exit ?_
      refine XX.then_exit ?_
      refine XX.then_exit ?_
      refine XX.block_exit ?_
      refine XX.next (V' := [(0, .slice A fs.length cap), (3, .slice B ys.length c), (4, .int .i64 ((i : Nat) : Int)), (5, .bool b)]) ⟨rfl, rfl, rfl, rfl, trivial⟩ ?_
      refine CX.seq ?_
      refine CX.region ?_
      refine RX.cons rfl rfl (op_w (yw_move rfl rfl) rfl rfl ?_)
      refine RX.cons rfl rfl (op_w (yw_not rfl rfl) rfl rfl ?_)
      refine RX.nil (XX.next (V' := [(0, .slice A fs.length cap), (3, .slice B ys.length c), (4, .int .i64 ((i : Nat) : Int)), (47, .bool (!b))]) ⟨rfl, rfl, rfl, rfl, trivial⟩ ?_)
      refine CX.cond (b := !b) rfl (fun c47 => ?_) (fun c47 => ?_)
      · have c47' : b = false := by simpa using c47
        refine CX.region ?_
        refine RX.cons rfl rfl (op_w (yw_move rfl rfl) rfl rfl ?_)
        refine RX.cons rfl rfl (op_w (yw_move rfl rfl) rfl rfl ?_)
        refine RX.cons rfl rfl (op_w (yw_move rfl rfl) rfl rfl ?_)
        refine RX.cons rfl rfl (op_w (yw_index (k := i) rfl slt_22 rfl rfl (by omega) (by omega) (hr.some (k := i) (by simp; omega))) rfl rfl ?_)
        refine RX.cons rfl rfl (op_yld (y_elem rfl rfl agg_33 hr (by simp) (map_get hfi)) rfl rfl ?_)
        refine RX.cons rfl rfl (op_buildSlice rfl rfl rfl slb_22 rfl rfl (by intro v hv; simp only [List.mem_cons, List.not_mem_nil, or_false] at hv; subst hv; exact ⟨rfl, (plain_of rfl)⟩) (by decide) fun g1 => ?_)
        refine RX.cons rfl rfl (op_appendM Fct.cells (i := 1) (j := 0) (xs := ys) ([f]) rfl rfl rfl slb_22 rfl rfl rfl rfl rfl rfl (by simp; omega) (by simp; omega) fun A' c' => ?_)
        refine RX.cons rfl rfl (op_w (yw_assign rfl rfl) rfl rfl ?_)
        refine RX.nil (XX.inBlock (V' := [(0, .slice A fs.length cap), (3, .slice A' ((ys ++ [f]).length) c'), (4, .int .i64 ((i : Nat) : Int))]) ⟨rfl, rfl, rfl, trivial⟩ ?_)
        refine XX.next (V' := [(0, .slice A fs.length cap), (3, .slice A' ((ys ++ [f]).length) c'), (4, .int .i64 ((i : Nat) : Int))]) ⟨rfl, rfl, rfl, trivial⟩ ?_
        refine CX.region ?_
        refine RX.cons rfl rfl (op_w (yw_move rfl rfl) rfl rfl ?_)
        refine RX.cons rfl rfl (op_w (yw_add rfl rfl rfl (by omega) (by omega)) rfl rfl ?_)
        refine RX.cons rfl rfl (op_w (yw_assign rfl rfl) rfl rfl ?_)
        refine RX.nil (XX.againP ([.row (some ⟨g1, 0, none⟩) 1 33 18 (List.map Value.cells [.agg (Fct.cells f)])]) (i + 1, A', c', ys ++ [f]) (by dsimp only; omega) ⟨by dsimp only; omega, by simp; omega, by dsimp only; rw [← hf, drop_get hfi, distinctF, ← hb]; simp [c47']⟩ ⟨rfl, rfl, rfl, trivial⟩ ((perm_pick 1 rfl).trans (List.Perm.cons _ (List.Perm.refl _))))
      · have c47' : b = true := by simpa using c47
        refine CX.skip (XX.inBlock (V' := [(0, .slice A fs.length cap), (3, .slice B ys.length c), (4, .int .i64 ((i : Nat) : Int))]) ⟨rfl, rfl, rfl, trivial⟩ ?_)
        refine XX.next (V' := [(0, .slice A fs.length cap), (3, .slice B ys.length c), (4, .int .i64 ((i : Nat) : Int))]) ⟨rfl, rfl, rfl, trivial⟩ ?_
        refine CX.region ?_
        refine RX.cons rfl rfl (op_w (yw_move rfl rfl) rfl rfl ?_)
        refine RX.cons rfl rfl (op_w (yw_add rfl rfl rfl (by omega) (by omega)) rfl rfl ?_)
        refine RX.cons rfl rfl (op_w (yw_assign rfl rfl) rfl rfl ?_)
        refine RX.nil (XX.againP ([]) (i + 1, B, c, ys) (by dsimp only; omega) ⟨by dsimp only; omega, by dsimp only; omega, by dsimp only; rw [← hf, drop_get hfi, distinctF, ← hb]; simp [c47']⟩ ⟨rfl, rfl, rfl, trivial⟩ ((perm_pick 0 rfl).trans (List.Perm.cons _ (List.Perm.refl _))))
  · obtain rfl : i = fs.length := by omega
    rw [List.drop_length, distinctF] at hf
    refine CX.exit ?_
    refine XX.then_exit ?_
    refine XX.then_exit ?_
    refine XX.block_exit ?_
    refine XX.next (V' := [(3, .slice B ys.length c)]) ⟨rfl, trivial⟩ ?_
    refine CX.seq ?_
    refine CX.region ?_
    refine RX.cons rfl rfl (op_w (yw_move rfl rfl) rfl rfl ?_)
    refine RX.cons rfl rfl (op_w (yw_assign rfl rfl) rfl rfl ?_)
    refine RX.nil (XX.next (V' := [(2, .slice B ys.length c)]) ⟨rfl, trivial⟩ ?_)
    refine CX.ret ?_
    exact ret_tmp rfl rfl fun w1 hw => by rw [← hf]; exact ⟨(B, c), trivial, rfl, hw⟩

set_option maxRecDepth 100000 in
theorem w_find {w : World} {A : Option Addr} {cap : Nat} (fs : List Fct) (s : Strm) (hr : Rd w A 18 (fs.map Fct.cells)) (hn : fs.length ≤ 1000) :
    Calls Tryd.prog 15 #[.slice A fs.length cap, .agg (Strm.cells s)] w (fun e w' => e = .returned (.tuple #[.agg (Fct.cells (findF fs s)), .bool (foundF fs s)]) ∧ SL w [] w' []) := by
  refine calls_of_CX (O := []) (L := []) (args := [.slice A fs.length cap, .agg (Strm.cells s)]) Tryd.func15 rfl (by simp [Tryd.ntmps15]) (SL.refl w) ?_
  refine CX.sub (V' := [(0, .slice A fs.length cap), (1, .agg (Strm.cells s))]) ⟨rfl, rfl, trivial⟩ ?_
  refine CX.seq ?_
  refine CX.region ?_
  refine RX.cons rfl rfl (op_box rfl rfl rfl rfl fun g1 => ?_)
  refine RX.cons rfl rfl (op_alloc rfl rfl rfl zero_33 fun g4 => ?_)
  refine RX.cons rfl rfl (op_w (yw_assign rfl rfl) rfl rfl ?_)
  refine RX.nil (XX.next (V' := [(0, .slice A fs.length cap), (3, .pointer (some ⟨g1, 0, none⟩)), (4, .pointer (some ⟨g4, 0, none⟩))]) ⟨rfl, rfl, rfl, trivial⟩ ?_)
  refine CX.seq ?_
  refine CX.seq ?_
  refine CX.region ?_
  refine RX.cons rfl rfl (op_w (yw_assign rfl rfl) rfl rfl ?_)
  refine RX.nil (XX.next (V' := [(0, .slice A fs.length cap), (3, .pointer (some ⟨g1, 0, none⟩)), (4, .pointer (some ⟨g4, 0, none⟩)), (6, .int .i64 0)]) ⟨rfl, rfl, rfl, rfl, trivial⟩ ?_)
  refine CX.block ?_
  refine CX.loop (σ := Nat) (fun i => [(0, .slice A fs.length cap), (3, .pointer (some ⟨g1, 0, none⟩)), (4, .pointer (some ⟨g4, 0, none⟩)), (6, .int .i64 ((i : Nat) : Int))]) (fun i => [.blk g4 (.cells (#[.int .i64 0, .int .i64 0, .int .i64 0, .int .i64 0, .int .i64 0, .int .i64 0, .int .i64 0, .int .i64 0, .int .i64 0, .int .i64 0, .int .i64 0, .int .i64 0, .int .i64 0, .int .i64 0, .int .i64 0, .int .i64 0, .int .i64 0, .string .empty]) 33 (0, 0)), .blk g1 (.cells (Strm.cells s) 30 (0, 0))]) (fun i => i ≤ fs.length ∧ (fs.drop i).find? (isOf s) = fs.find? (isOf s)) (fun i => fs.length - i) 0 ⟨Nat.zero_le _, rfl⟩ ⟨rfl, rfl, rfl, rfl, trivial⟩ rfl (fun i hI => ?_)
  obtain ⟨hi, hff⟩ := hI
  refine CX.seq ?_
  refine CX.seq ?_
  refine CX.region ?_
  refine RX.cons rfl rfl (op_w (yw_move rfl rfl) rfl rfl ?_)
  refine RX.cons rfl rfl (op_w (yw_move rfl rfl) rfl rfl ?_)
  refine RX.cons rfl rfl (op_w (yw_lenS rfl Tryd.underlying22 rfl) rfl rfl ?_)
  refine RX.cons rfl rfl (op_w (yw_lss rfl rfl rfl) rfl rfl ?_)
  refine RX.nil (XX.next (V' := [(0, .slice A fs.length cap), (3, .pointer (some ⟨g1, 0, none⟩)), (4, .pointer (some ⟨g4, 0, none⟩)), (6, .int .i64 ((i : Nat) : Int)), (10, .bool (decide (((i : Nat) : Int) < ((fs.length : Nat) : Int))))]) ⟨rfl, rfl, rfl, rfl, rfl, trivial⟩ ?_)
  refine CX.condD (p := ((i : Nat) : Int) < ((fs.length : Nat) : Int)) rfl (fun c10 => ?_) (fun c10 => ?_)
  · obtain ⟨f, hf⟩ := get_some (l := fs) (k := i) (by omega)
    refine CX.skip (XX.next (V' := [(0, .slice A fs.length cap), (3, .pointer (some ⟨g1, 0, none⟩)), (4, .pointer (some ⟨g4, 0, none⟩)), (6, .int .i64 ((i : Nat) : Int))]) ⟨rfl, rfl, rfl, rfl, trivial⟩ ?_)
    refine CX.seq ?_
    refine CX.block ?_
    refine CX.seq ?_
    refine CX.draw 25 (by kernel_rfl) ?_
    refine DX.takeW 0 1 (by kernel_rfl) rfl rfl rfl rfl rfl (yw_move rfl rfl) ?_
    refine DX.takeW 1 3 (by kernel_rfl) rfl rfl rfl rfl rfl (yw_move rfl rfl) ?_
    refine DX.takeW 2 7 (by kernel_rfl) rfl rfl rfl rfl rfl (yw_index (k := i) rfl slt_22 rfl rfl (by omega) (by omega) (hr.some (k := i) (by simp; omega))) ?_
    refine DX.takeW 3 15 (by kernel_rfl) rfl rfl rfl rfl rfl (yw_fieldAddr rfl fld_33_6 rfl) ?_
    refine DX.take 4 31 (by kernel_rfl) rfl rfl rfl rfl rfl (List.Sublist.refl _) (y_elemF rfl rfl one_3 hr (by simp) (map_get hf) rfl) ?_
    refine DX.takeW 5 63 (by kernel_rfl) rfl rfl rfl rfl rfl (yw_field0 rfl fld_30_0 rfl) ?_
    refine DX.take 6 127 (by kernel_rfl) rfl rfl rfl rfl rfl (List.Sublist.refl _) (y_load (i := 1) rfl rfl one_3 rfl rfl) ?_
    refine DX.takeW 7 255 (by kernel_rfl) rfl rfl rfl rfl rfl (yw_eql rfl rfl rfl) ?_
    refine DX.takeW 8 511 (by kernel_rfl) rfl rfl rfl rfl rfl (yw_move rfl rfl) ?_
    refine DX.splitD (t := 21) (p := f.device = s.device) rfl (fun d21 => ?_) (fun d21 => ?_)
    · refine DX.takeWG 9 1023 (by kernel_rfl) rfl rfl rfl rfl rfl rfl rfl rfl (yw_move rfl rfl) ?_
      refine DX.takeWG 10 2047 (by kernel_rfl) rfl rfl rfl rfl rfl rfl rfl rfl (yw_move rfl rfl) ?_
      refine DX.takeWG 11 4095 (by kernel_rfl) rfl rfl rfl rfl rfl rfl rfl rfl (yw_index (k := i) rfl slt_22 rfl rfl (by omega) (by omega) (hr.some (k := i) (by simp; omega))) ?_
      refine DX.takeWG 12 8191 (by kernel_rfl) rfl rfl rfl rfl rfl rfl rfl rfl (yw_fieldAddr rfl fld_33_1 rfl) ?_
      refine DX.takeG 13 16383 (by kernel_rfl) rfl rfl rfl rfl rfl rfl rfl rfl (List.Sublist.refl _) (y_elemF rfl rfl one_3 hr (by simp) (map_get hf) rfl) ?_
      refine DX.takeWG 14 32767 (by kernel_rfl) rfl rfl rfl rfl rfl rfl rfl rfl (yw_fieldAddr rfl fld_30_1 rfl) ?_
      refine DX.takeG 15 65535 (by kernel_rfl) rfl rfl rfl rfl rfl rfl rfl rfl (List.Sublist.refl _) (y_load (i := 1) rfl rfl one_3 rfl rfl) ?_
      refine DX.takeWG 16 131071 (by kernel_rfl) rfl rfl rfl rfl rfl rfl rfl rfl (yw_eql rfl rfl rfl) ?_
      refine DX.takeW 17 262143 (by kernel_rfl) rfl rfl rfl rfl rfl (yw_pickT rfl rfl rfl) ?_
      refine DX.takeW 18 524287 (by kernel_rfl) rfl rfl rfl rfl rfl (yw_move rfl rfl) ?_
      refine DX.splitD (t := 31) (p := f.id = s.id) rfl (fun d31 => ?_) (fun d31 => ?_)
      · refine DX.takeWG 19 1048575 (by kernel_rfl) rfl rfl rfl rfl rfl rfl rfl rfl (yw_move rfl rfl) ?_
        refine DX.takeWG 20 2097151 (by kernel_rfl) rfl rfl rfl rfl rfl rfl rfl rfl (yw_move rfl rfl) ?_
        refine DX.takeWG 21 4194303 (by kernel_rfl) rfl rfl rfl rfl rfl rfl rfl rfl (yw_index (k := i) rfl slt_22 rfl rfl (by omega) (by omega) (hr.some (k := i) (by simp; omega))) ?_
        refine DX.takeG 22 8388607 (by kernel_rfl) rfl rfl rfl rfl rfl rfl rfl rfl (List.Sublist.refl _) (y_elem rfl rfl agg_33 hr (by simp) (map_get hf)) ?_
        refine DX.stepG 23 16777215 (by kernel_rfl) rfl rfl rfl rfl rfl rfl (op_callV (v := .bool (Fct.counts f)) rfl rfl rfl rfl rfl ent_18 (fun w _ => w_counts f) (DXs.mk (List.Sublist.refl _) ?_))
        refine DX.takeW 24 33554431 (by kernel_rfl) rfl rfl rfl rfl rfl (yw_pickT rfl rfl rfl) ?_
        refine DX.done (by kernel_rfl) (XX.next (V' := [(0, .slice A fs.length cap), (3, .pointer (some ⟨g1, 0, none⟩)), (4, .pointer (some ⟨g4, 0, none⟩)), (6, .int .i64 ((i : Nat) : Int)), (37, .bool (Fct.counts f))]) ⟨rfl, rfl, rfl, rfl, rfl, trivial⟩ ?_)
        refine CX.cond (b := Fct.counts f) rfl (fun c37 => ?_) (fun c37 => ?_)
        · refine CX.seq ?_
          refine CX.region ?_
          refine RX.cons rfl rfl (op_w (yw_move rfl rfl) rfl rfl ?_)
          refine RX.cons rfl rfl (op_w (yw_move rfl rfl) rfl rfl ?_)
          refine RX.cons rfl rfl (op_w (yw_index (k := i) rfl slt_22 rfl rfl (by omega) (by omega) (hr.some (k := i) (by simp; omega))) rfl rfl ?_)
          refine RX.cons rfl rfl (op_yld (y_elem rfl rfl agg_33 hr (by simp) (map_get hf)) rfl rfl ?_)
          refine RX.cons rfl rfl (op_storeAll (i := 0) rfl rfl rfl rfl szt_33 rfl (plain_of rfl) rfl rfl ?_)
          refine RX.cons rfl rfl (op_w (yw_assign rfl rfl) rfl rfl ?_)
          refine RX.nil (XX.next (V' := [(4, .pointer (some ⟨g4, 0, none⟩)), (5, .bool true)]) ⟨rfl, rfl, trivial⟩ ?_)
          refine CX.ret ?_
          refine XX.block_ret ?_
          refine XX.then_ret ?_
          refine XX.then_ret ?_
          refine XX.block_ret ?_
          refine XX.then_ret ?_
          exact ret_cellT (i := 0) rfl rfl rfl agg_33 rfl rfl fun w1 hw => ⟨by rw [(find_yes hff hf (find_is d21 d31 c37)).1, (find_yes hff hf (find_is d21 d31 c37)).2]; rfl, hw.sub (List.nil_sublist _)⟩
        · refine CX.skip (XX.inBlock (V' := [(0, .slice A fs.length cap), (3, .pointer (some ⟨g1, 0, none⟩)), (4, .pointer (some ⟨g4, 0, none⟩)), (6, .int .i64 ((i : Nat) : Int))]) ⟨rfl, rfl, rfl, rfl, trivial⟩ ?_)
          refine XX.next (V' := [(0, .slice A fs.length cap), (3, .pointer (some ⟨g1, 0, none⟩)), (4, .pointer (some ⟨g4, 0, none⟩)), (6, .int .i64 ((i : Nat) : Int))]) ⟨rfl, rfl, rfl, rfl, trivial⟩ ?_
          refine CX.region ?_
          refine RX.cons rfl rfl (op_w (yw_move rfl rfl) rfl rfl ?_)
          refine RX.cons rfl rfl (op_w (yw_add rfl rfl rfl (by omega) (by omega)) rfl rfl ?_)
          refine RX.cons rfl rfl (op_w (yw_assign rfl rfl) rfl rfl ?_)
          refine RX.nil (XX.againP ([]) (i + 1) (by omega) ⟨by omega, by rw [← hff, find_drop hf (find_not3 c37)]⟩ ⟨rfl, rfl, rfl, rfl, trivial⟩ ((perm_pick 0 rfl).trans (List.Perm.cons _ ((perm_pick 0 rfl).trans (List.Perm.cons _ (List.Perm.refl _))))))
      · refine DX.skip 19 1048575 (by kernel_rfl) rfl rfl rfl rfl rfl rfl rfl rfl ?_
        refine DX.skip 20 2097151 (by kernel_rfl) rfl rfl rfl rfl rfl rfl rfl rfl ?_
        refine DX.skip 21 4194303 (by kernel_rfl) rfl rfl rfl rfl rfl rfl rfl rfl ?_
        refine DX.skip 22 8388607 (by kernel_rfl) rfl rfl rfl rfl rfl rfl rfl rfl ?_
        refine DX.skip 23 16777215 (by kernel_rfl) rfl rfl rfl rfl rfl rfl rfl rfl ?_
        refine DX.takeW 24 33554431 (by kernel_rfl) rfl rfl rfl rfl rfl (yw_pickF rfl rfl rfl) ?_
        refine DX.done (by kernel_rfl) (XX.next (V' := [(0, .slice A fs.length cap), (3, .pointer (some ⟨g1, 0, none⟩)), (4, .pointer (some ⟨g4, 0, none⟩)), (6, .int .i64 ((i : Nat) : Int)), (37, .bool false)]) ⟨rfl, rfl, rfl, rfl, rfl, trivial⟩ ?_)
        refine CX.condF rfl ?_
        refine CX.skip (XX.inBlock (V' := [(0, .slice A fs.length cap), (3, .pointer (some ⟨g1, 0, none⟩)), (4, .pointer (some ⟨g4, 0, none⟩)), (6, .int .i64 ((i : Nat) : Int))]) ⟨rfl, rfl, rfl, rfl, trivial⟩ ?_)
        refine XX.next (V' := [(0, .slice A fs.length cap), (3, .pointer (some ⟨g1, 0, none⟩)), (4, .pointer (some ⟨g4, 0, none⟩)), (6, .int .i64 ((i : Nat) : Int))]) ⟨rfl, rfl, rfl, rfl, trivial⟩ ?_
        refine CX.region ?_
        refine RX.cons rfl rfl (op_w (yw_move rfl rfl) rfl rfl ?_)
        refine RX.cons rfl rfl (op_w (yw_add rfl rfl rfl (by omega) (by omega)) rfl rfl ?_)
        refine RX.cons rfl rfl (op_w (yw_assign rfl rfl) rfl rfl ?_)
        refine RX.nil (XX.againP ([]) (i + 1) (by omega) ⟨by omega, by rw [← hff, find_drop hf (find_not2 d31)]⟩ ⟨rfl, rfl, rfl, rfl, trivial⟩ ((perm_pick 0 rfl).trans (List.Perm.cons _ ((perm_pick 0 rfl).trans (List.Perm.cons _ (List.Perm.refl _))))))
    · refine DX.skip 9 1023 (by kernel_rfl) rfl rfl rfl rfl rfl rfl rfl rfl ?_
      refine DX.skip 10 2047 (by kernel_rfl) rfl rfl rfl rfl rfl rfl rfl rfl ?_
      refine DX.skip 11 4095 (by kernel_rfl) rfl rfl rfl rfl rfl rfl rfl rfl ?_
      refine DX.skip 12 8191 (by kernel_rfl) rfl rfl rfl rfl rfl rfl rfl rfl ?_
      refine DX.skip 13 16383 (by kernel_rfl) rfl rfl rfl rfl rfl rfl rfl rfl ?_
      refine DX.skip 14 32767 (by kernel_rfl) rfl rfl rfl rfl rfl rfl rfl rfl ?_
      refine DX.skip 15 65535 (by kernel_rfl) rfl rfl rfl rfl rfl rfl rfl rfl ?_
      refine DX.skip 16 131071 (by kernel_rfl) rfl rfl rfl rfl rfl rfl rfl rfl ?_
      refine DX.takeW 17 262143 (by kernel_rfl) rfl rfl rfl rfl rfl (yw_pickF rfl rfl rfl) ?_
      refine DX.takeW 18 524287 (by kernel_rfl) rfl rfl rfl rfl rfl (yw_move rfl rfl) ?_
      refine DX.skip 19 1048575 (by kernel_rfl) rfl rfl rfl rfl rfl rfl rfl rfl ?_
      refine DX.skip 20 2097151 (by kernel_rfl) rfl rfl rfl rfl rfl rfl rfl rfl ?_
      refine DX.skip 21 4194303 (by kernel_rfl) rfl rfl rfl rfl rfl rfl rfl rfl ?_
      refine DX.skip 22 8388607 (by kernel_rfl) rfl rfl rfl rfl rfl rfl rfl rfl ?_
      refine DX.skip 23 16777215 (by kernel_rfl) rfl rfl rfl rfl rfl rfl rfl rfl ?_
      refine DX.takeW 24 33554431 (by kernel_rfl) rfl rfl rfl rfl rfl (yw_pickF rfl rfl rfl) ?_
      refine DX.done (by kernel_rfl) (XX.next (V' := [(0, .slice A fs.length cap), (3, .pointer (some ⟨g1, 0, none⟩)), (4, .pointer (some ⟨g4, 0, none⟩)), (6, .int .i64 ((i : Nat) : Int)), (37, .bool false)]) ⟨rfl, rfl, rfl, rfl, rfl, trivial⟩ ?_)
      refine CX.condF rfl ?_
      refine CX.skip (XX.inBlock (V' := [(0, .slice A fs.length cap), (3, .pointer (some ⟨g1, 0, none⟩)), (4, .pointer (some ⟨g4, 0, none⟩)), (6, .int .i64 ((i : Nat) : Int))]) ⟨rfl, rfl, rfl, rfl, trivial⟩ ?_)
      refine XX.next (V' := [(0, .slice A fs.length cap), (3, .pointer (some ⟨g1, 0, none⟩)), (4, .pointer (some ⟨g4, 0, none⟩)), (6, .int .i64 ((i : Nat) : Int))]) ⟨rfl, rfl, rfl, rfl, trivial⟩ ?_
      refine CX.region ?_
      refine RX.cons rfl rfl (op_w (yw_move rfl rfl) rfl rfl ?_)
      refine RX.cons rfl rfl (op_w (yw_add rfl rfl rfl (by omega) (by omega)) rfl rfl ?_)
      refine RX.cons rfl rfl (op_w (yw_assign rfl rfl) rfl rfl ?_)
      refine RX.nil (XX.againP ([]) (i + 1) (by omega) ⟨by omega, by rw [← hff, find_drop hf (find_not1 d21)]⟩ ⟨rfl, rfl, rfl, rfl, trivial⟩ ((perm_pick 0 rfl).trans (List.Perm.cons _ ((perm_pick 0 rfl).trans (List.Perm.cons _ (List.Perm.refl _))))))
  · obtain rfl : i = fs.length := by omega
    refine CX.exit ?_
    refine XX.then_exit ?_
    refine XX.then_exit ?_
    refine XX.block_exit ?_
    refine XX.next (V' := [(4, .pointer (some ⟨g4, 0, none⟩))]) ⟨rfl, trivial⟩ ?_
    refine CX.seq ?_
    refine CX.region ?_
    refine RX.cons rfl rfl (op_w (yw_build (v := .agg (#[.int .i64 0, .int .i64 0, .int .i64 0, .int .i64 0, .int .i64 0, .int .i64 0, .int .i64 0, .int .i64 0, .int .i64 0, .int .i64 0, .int .i64 0, .int .i64 0, .int .i64 0, .int .i64 0, .int .i64 0, .int .i64 0, .int .i64 0, .string .empty])) rfl rfl (fun _ => by kernel_rfl)) rfl rfl ?_)
    refine RX.cons rfl rfl (op_storeAll (i := 0) rfl rfl rfl rfl szt_33 rfl (plain_of rfl) rfl rfl ?_)
    refine RX.cons rfl rfl (op_w (yw_assign rfl rfl) rfl rfl ?_)
    refine RX.nil (XX.next (V' := [(4, .pointer (some ⟨g4, 0, none⟩)), (5, .bool false)]) ⟨rfl, rfl, trivial⟩ ?_)
    refine CX.ret ?_
    exact ret_cellT (i := 0) rfl rfl rfl agg_33 rfl rfl fun w1 hw => ⟨by rw [(find_none hff).1, (find_none hff).2]; rfl, hw.sub (List.nil_sublist _)⟩

set_option maxRecDepth 100000 in
theorem w_refPeriodOf {w : World} {A : Option Addr} {cap : Nat} (ss : List Strm) (p : Int) (hr : Rd w A 9 (ss.map Strm.cells)) (hn : ss.length ≤ 1000) :
    Calls Tryd.prog 11 #[.slice A ss.length cap, .int .i64 p] w (fun e w' => ∃ z : Option Addr × Nat, True ∧ e = .returned (.slice z.1 (ss.filter (inPeriod p)).length z.2) ∧ SL w [] w' [.row z.1 z.2 30 9 (List.map Strm.cells (ss.filter (inPeriod p)))]) := by
  refine calls_of_CX (O := []) (L := []) (args := [.slice A ss.length cap, .int .i64 p]) Tryd.func11 rfl (by simp [Tryd.ntmps11]) (SL.refl w) ?_
  refine CX.sub (V' := [(0, .slice A ss.length cap), (1, .int .i64 p)]) ⟨rfl, rfl, trivial⟩ ?_
  refine CX.seq ?_
  refine CX.region ?_
  refine RX.cons rfl rfl (op_w (yw_assign rfl rfl) rfl rfl ?_)
  refine RX.nil (XX.next (V' := [(0, .slice A ss.length cap), (1, .int .i64 p)]) ⟨rfl, rfl, trivial⟩ ?_)
  refine CX.seq ?_
  refine CX.region ?_
  refine RX.cons rfl rfl (op_w (yw_assign rfl rfl) rfl rfl ?_)
  refine RX.nil (XX.next (V' := [(0, .slice A ss.length cap), (1, .int .i64 p), (5, .slice none 0 0)]) ⟨rfl, rfl, rfl, trivial⟩ ?_)
  refine CX.seq ?_
  refine CX.seq ?_
  refine CX.region ?_
  refine RX.cons rfl rfl (op_w (yw_assign rfl rfl) rfl rfl ?_)
  refine RX.nil (XX.next (V' := [(0, .slice A ss.length cap), (1, .int .i64 p), (5, .slice none 0 0), (6, .int .i64 0)]) ⟨rfl, rfl, rfl, rfl, trivial⟩ ?_)
  refine CX.block ?_
  refine CX.rowNil 30 9 ?_
  refine CX.loop (σ := Nat × Option Addr × Nat × List Strm) (fun z => [(0, .slice A ss.length cap), (1, .int .i64 p), (5, .slice z.2.1 z.2.2.2.length z.2.2.1), (6, .int .i64 ((z.1 : Nat) : Int))]) (fun z => [.row z.2.1 z.2.2.1 30 9 (List.map Strm.cells z.2.2.2)]) (fun z => z.1 ≤ ss.length ∧ z.2.2.2 = (ss.take z.1).filter (inPeriod p)) (fun z => ss.length - z.1) (0, none, 0, []) ⟨Nat.zero_le _, rfl⟩ ⟨rfl, rfl, rfl, rfl, trivial⟩ rfl (fun z hI => ?_)
  obtain ⟨i, B, c, ys⟩ := z
  dsimp only at hI ⊢
  obtain ⟨hi, hys⟩ := hI
  have hyl : ys.length ≤ i := by rw [hys]; exact Nat.le_trans (List.length_filter_le _ _) (by simp; omega)
  refine CX.seq ?_
  refine CX.seq ?_
  refine CX.region ?_
  refine RX.cons rfl rfl (op_w (yw_move rfl rfl) rfl rfl ?_)
  refine RX.cons rfl rfl (op_w (yw_move rfl rfl) rfl rfl ?_)
  refine RX.cons rfl rfl (op_w (yw_lenS rfl Tryd.underlying23 rfl) rfl rfl ?_)
  refine RX.cons rfl rfl (op_w (yw_lss rfl rfl rfl) rfl rfl ?_)
  refine RX.nil (XX.next (V' := [(0, .slice A ss.length cap), (1, .int .i64 p), (5, .slice B ys.length c), (6, .int .i64 ((i : Nat) : Int)), (10, .bool (decide (((i : Nat) : Int) < ((ss.length : Nat) : Int))))]) ⟨rfl, rfl, rfl, rfl, rfl, trivial⟩ ?_)
  refine CX.condD (p := ((i : Nat) : Int) < ((ss.length : Nat) : Int)) rfl (fun c10 => ?_) (fun c10 => ?_)
  · obtain ⟨s, hs⟩ := get_some (l := ss) (k := i) (by omega)
    refine CX.skip (XX.next (V' := [(0, .slice A ss.length cap), (1, .int .i64 p), (5, .slice B ys.length c), (6, .int .i64 ((i : Nat) : Int))]) ⟨rfl, rfl, rfl, rfl, trivial⟩ ?_)
    refine CX.seq ?_
    refine CX.block ?_
    refine CX.seq ?_
    refine CX.region ?_
    refine RX.cons rfl rfl (op_w (yw_move rfl rfl) rfl rfl ?_)
    refine RX.cons rfl rfl (op_w (yw_move rfl rfl) rfl rfl ?_)
    refine RX.cons rfl rfl (op_w (yw_index (k := i) rfl slt_23 rfl rfl (by omega) (by omega) (hr.some (k := i) (by simp; omega))) rfl rfl ?_)
    refine RX.cons rfl rfl (op_w (yw_fieldAddr rfl fld_30_6 rfl) rfl rfl ?_)
    refine RX.cons rfl rfl (op_yld (y_elemF rfl rfl one_3 hr (by simp) (map_get hs) rfl) rfl rfl ?_)
    refine RX.cons rfl rfl (op_w (yw_move rfl rfl) rfl rfl ?_)
    refine RX.cons rfl rfl (op_w (yw_eql rfl rfl rfl) rfl rfl ?_)
    refine RX.nil (XX.next (V' := [(0, .slice A ss.length cap), (1, .int .i64 p), (5, .slice B ys.length c), (6, .int .i64 ((i : Nat) : Int)), (19, .bool (decide (s.period = p)))]) ⟨rfl, rfl, rfl, rfl, rfl, trivial⟩ ?_)
    refine CX.condD (p := s.period = p) rfl (fun c19 => ?_) (fun c19 => ?_)
    · refine CX.region ?_
      refine RX.cons rfl rfl (op_w (yw_move rfl rfl) rfl rfl ?_)
      refine RX.cons rfl rfl (op_w (yw_move rfl rfl) rfl rfl ?_)
      refine RX.cons rfl rfl (op_w (yw_move rfl rfl) rfl rfl ?_)
      refine RX.cons rfl rfl (op_w (yw_index (k := i) rfl slt_23 rfl rfl (by omega) (by omega) (hr.some (k := i) (by simp; omega))) rfl rfl ?_)
      refine RX.cons rfl rfl (op_yld (y_elem rfl rfl agg_30 hr (by simp) (map_get hs)) rfl rfl ?_)
      refine RX.cons rfl rfl (op_buildSlice rfl rfl rfl slb_23 rfl rfl (by intro v hv; simp only [List.mem_cons, List.not_mem_nil, or_false] at hv; subst hv; exact ⟨rfl, (plain_of rfl)⟩) (by decide) fun g1 => ?_)
      refine RX.cons rfl rfl (op_appendM Strm.cells (i := 1) (j := 0) (xs := ys) ([s]) rfl rfl rfl slb_23 rfl rfl rfl rfl rfl rfl (by simp; omega) (by simp; omega) fun A' c' => ?_)
      refine RX.cons rfl rfl (op_w (yw_assign rfl rfl) rfl rfl ?_)
      refine RX.nil (XX.inBlock (V' := [(0, .slice A ss.length cap), (1, .int .i64 p), (5, .slice A' ((ys ++ [s]).length) c'), (6, .int .i64 ((i : Nat) : Int))]) ⟨rfl, rfl, rfl, rfl, trivial⟩ ?_)
      refine XX.next (V' := [(0, .slice A ss.length cap), (1, .int .i64 p), (5, .slice A' ((ys ++ [s]).length) c'), (6, .int .i64 ((i : Nat) : Int))]) ⟨rfl, rfl, rfl, rfl, trivial⟩ ?_
      refine CX.region ?_
      refine RX.cons rfl rfl (op_w (yw_move rfl rfl) rfl rfl ?_)
      refine RX.cons rfl rfl (op_w (yw_add rfl rfl rfl (by omega) (by omega)) rfl rfl ?_)
      refine RX.cons rfl rfl (op_w (yw_assign rfl rfl) rfl rfl ?_)
      refine RX.nil (XX.againP ([.row (some ⟨g1, 0, none⟩) 1 30 9 (List.map Value.cells [.agg (Strm.cells s)])]) (i + 1, A', c', ys ++ [s]) (by dsimp only; omega) ⟨by dsimp only; omega, by dsimp only; rw [take_succ hs, List.filter_append, ← hys]; simp [inPeriod, c19]⟩ ⟨rfl, rfl, rfl, rfl, trivial⟩ ((perm_pick 1 rfl).trans (List.Perm.cons _ (List.Perm.refl _))))
    · refine CX.skip (XX.inBlock (V' := [(0, .slice A ss.length cap), (1, .int .i64 p), (5, .slice B ys.length c), (6, .int .i64 ((i : Nat) : Int))]) ⟨rfl, rfl, rfl, rfl, trivial⟩ ?_)
      refine XX.next (V' := [(0, .slice A ss.length cap), (1, .int .i64 p), (5, .slice B ys.length c), (6, .int .i64 ((i : Nat) : Int))]) ⟨rfl, rfl, rfl, rfl, trivial⟩ ?_
      refine CX.region ?_
      refine RX.cons rfl rfl (op_w (yw_move rfl rfl) rfl rfl ?_)
      refine RX.cons rfl rfl (op_w (yw_add rfl rfl rfl (by omega) (by omega)) rfl rfl ?_)
      refine RX.cons rfl rfl (op_w (yw_assign rfl rfl) rfl rfl ?_)
      refine RX.nil (XX.againP ([]) (i + 1, B, c, ys) (by dsimp only; omega) ⟨by dsimp only; omega, by dsimp only; rw [take_succ hs, List.filter_append, ← hys]; simp [inPeriod, c19]⟩ ⟨rfl, rfl, rfl, rfl, trivial⟩ ((perm_pick 0 rfl).trans (List.Perm.cons _ (List.Perm.refl _))))
  · obtain rfl : i = ss.length := by omega
    rw [List.take_length] at hys
    refine CX.exit ?_
    refine XX.then_exit ?_
    refine XX.then_exit ?_
    refine XX.block_exit ?_
    refine XX.next (V' := [(5, .slice B ys.length c)]) ⟨rfl, trivial⟩ ?_
    refine CX.seq ?_
    refine CX.region ?_
    refine RX.cons rfl rfl (op_w (yw_move rfl rfl) rfl rfl ?_)
    refine RX.cons rfl rfl (op_w (yw_assign rfl rfl) rfl rfl ?_)
    refine RX.nil (XX.next (V' := [(4, .slice B ys.length c)]) ⟨rfl, trivial⟩ ?_)
    refine CX.ret ?_
    exact ret_tmp rfl rfl fun w1 hw => by rw [← hys]; exact ⟨(B, c), trivial, rfl, hw⟩

end Go.Proofs.YtmndhiaaolfepaaDoor
