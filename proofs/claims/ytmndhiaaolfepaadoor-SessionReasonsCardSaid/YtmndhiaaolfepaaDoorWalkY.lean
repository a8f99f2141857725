/- Walks, printed by a program. -/
import Derived.Test.YtmndhiaaolfepaaDoorWalkU
import Derived.Test.YtmndhiaaolfepaaDoorAid2
namespace Go.Proofs.YtmndhiaaolfepaaDoor
set_option linter.all false
open Go Go.RowKit
set_option maxRecDepth 100000
set_option maxRecDepth 100000 in
set_option maxHeartbeats 2000000 in
theorem w_reasons {w : World} {A : Option Addr} {cap : Nat} (fs : List Fct) (hG : Lens w) (hr : Rd w A 18 (fs.map Fct.cells)) (hn : fs.length ≤ 9223372036854775807) (hx : ∀ f ∈ fs, f.text.size ≤ 9223372036854775807) :
    Calls Tryd.prog 7 #[.slice A fs.length cap] w (fun e w' => e = .returned (.bool true) ∧ SL w [] w' []) := by
  have hgl := few_length fs
  have hdl := distinct_few fs
  have hul := streams_length (distinctF [] (fewF fs))
  have hD := distinct_of (fewF fs)
  refine calls_of_CX (O := []) (L := []) (args := [.slice A fs.length cap]) Tryd.func7 rfl (by simp [Tryd.ntmps7]) (SL.refl w) ?_
  refine CX.sub (V' := [(0, .slice A fs.length cap)]) ⟨rfl, trivial⟩ ?_
  refine CX.seq ?_
  refine CX.region ?_
  refine RX.cons rfl rfl (op_w (yw_assign rfl rfl) rfl rfl ?_)
  refine RX.nil (XX.next (V' := [(0, .slice A fs.length cap)]) ⟨rfl, trivial⟩ ?_)
  refine CX.seq ?_
  refine CX.region ?_
  refine RX.cons rfl rfl (op_callV (v := .bool true) rfl rfl rfl rfl rfl ent_8 (fun w hw => w_sane (hG.keep hw (by simp))) ?_)
  refine RX.cons rfl rfl (op_w (yw_assign rfl rfl) rfl rfl ?_)
  refine RX.nil (XX.next (V' := [(0, .slice A fs.length cap), (3, .bool true)]) ⟨rfl, rfl, trivial⟩ ?_)
  refine CX.seq ?_
  refine CX.region ?_
  refine RX.cons rfl rfl (op_w (yw_move rfl rfl) rfl rfl ?_)
  refine RX.cons rfl rfl (op_callE rfl rfl rfl rfl rfl ent_13 (fun w hw => w_few fs (hw.rd hr (by simp)) hn hx) (fun y1 _ => ?_))
  refine RX.cons rfl rfl (op_callE rfl rfl rfl rfl rfl ent_14 (fun w hw => w_distinct (fewF fs) (Ent.rd (hw.ents _ (List.mem_of_getElem? (i := 0) rfl))) (by omega)) (fun y2 _ => ?_))
  refine RX.cons rfl rfl (op_w (yw_assign rfl rfl) rfl rfl ?_)
  refine RX.nil (XX.next (V' := [(0, .slice y2.1 ((distinctF [] (fewF fs)).length) y2.2), (3, .bool true)]) ⟨rfl, rfl, trivial⟩ ?_)
  refine CX.seq ?_
  refine CX.region ?_
  refine RX.cons rfl rfl (op_w (yw_move rfl rfl) rfl rfl ?_)
  refine RX.cons rfl rfl (op_callE rfl rfl rfl rfl rfl ent_12 (fun w hw => w_streams (distinctF [] (fewF fs)) (Ent.rd (hw.ents _ (List.mem_of_getElem? (i := 0) rfl))) (by omega) (hG.keep hw (by simp))) (fun y3 _ => ?_))
  refine RX.cons rfl rfl (op_w (yw_assign rfl rfl) rfl rfl ?_)
  refine RX.nil (XX.next (V' := [(0, .slice y2.1 ((distinctF [] (fewF fs)).length) y2.2), (3, .bool true), (4, .slice y3.1 ((streams (distinctF [] (fewF fs))).length) y3.2)]) ⟨rfl, rfl, rfl, trivial⟩ ?_)
  refine CX.seq ?_
  refine CX.seq ?_
  refine CX.region ?_
  refine RX.cons rfl rfl (op_w (yw_assign rfl rfl) rfl rfl ?_)
  refine RX.nil (XX.next (V' := [(0, .slice y2.1 ((distinctF [] (fewF fs)).length) y2.2), (3, .bool true), (4, .slice y3.1 ((streams (distinctF [] (fewF fs))).length) y3.2), (5, .int .i64 0)]) ⟨rfl, rfl, rfl, rfl, trivial⟩ ?_)
  refine CX.block ?_
  refine CX.loop (σ := Nat) (fun i => [(0, .slice y2.1 ((distinctF [] (fewF fs)).length) y2.2), (3, .bool true), (4, .slice y3.1 ((streams (distinctF [] (fewF fs))).length) y3.2), (5, .int .i64 ((i : Nat) : Int))]) (fun i => [.row y3.1 y3.2 30 9 (List.map Strm.cells (streams (distinctF [] (fewF fs)))), .row y2.1 y2.2 33 18 (List.map Fct.cells (distinctF [] (fewF fs))), .row y1.1 y1.2 33 18 (List.map Fct.cells (fewF fs))]) (fun i => i ≤ (distinctF [] (fewF fs)).length) (fun i => (distinctF [] (fewF fs)).length - i) 0 (Nat.zero_le _) ⟨rfl, rfl, rfl, rfl, trivial⟩ rfl (fun i hI => ?_)
  have hi := hI
  refine CX.seq ?_
  refine CX.seq ?_
  refine CX.region ?_
  refine RX.cons rfl rfl (op_w (yw_move rfl rfl) rfl rfl ?_)
  refine RX.cons rfl rfl (op_w (yw_move rfl rfl) rfl rfl ?_)
  refine RX.cons rfl rfl (op_w (yw_lenS rfl Tryd.underlying22 rfl) rfl rfl ?_)
  refine RX.cons rfl rfl (op_w (yw_lss rfl rfl rfl) rfl rfl ?_)
  refine RX.nil (XX.next (V' := [(0, .slice y2.1 ((distinctF [] (fewF fs)).length) y2.2), (3, .bool true), (4, .slice y3.1 ((streams (distinctF [] (fewF fs))).length) y3.2), (5, .int .i64 ((i : Nat) : Int)), (24, .bool (decide (((i : Nat) : Int) < (((distinctF [] (fewF fs)).length : Nat) : Int))))]) ⟨rfl, rfl, rfl, rfl, rfl, trivial⟩ ?_)
  refine CX.condD (p := ((i : Nat) : Int) < (((distinctF [] (fewF fs)).length : Nat) : Int)) rfl (fun c24 => ?_) (fun c24 => ?_)
  · obtain ⟨f, hf⟩ := get_some (l := (distinctF [] (fewF fs))) (k := i) (by omega)
    refine CX.rowSome 1 rfl (by simp; omega) (fun hB => ?_)
    refine CX.skip (XX.next (V' := [(0, .slice y2.1 ((distinctF [] (fewF fs)).length) y2.2), (3, .bool true), (4, .slice y3.1 ((streams (distinctF [] (fewF fs))).length) y3.2), (5, .int .i64 ((i : Nat) : Int))]) ⟨rfl, rfl, rfl, rfl, trivial⟩ ?_)
    refine CX.seq ?_
    refine CX.block ?_
    refine CX.seq ?_
    refine CX.region ?_
    refine RX.cons rfl rfl (op_w (yw_move rfl rfl) rfl rfl ?_)
    refine RX.cons rfl rfl (op_w (yw_move rfl rfl) rfl rfl ?_)
    refine RX.cons rfl rfl (op_w (yw_index (k := i) rfl slt_22 rfl rfl (by omega) (by omega) hB) rfl rfl ?_)
    refine RX.cons rfl rfl (op_yld (y_rowElem (i := 1) rfl rfl agg_33 rfl (map_get hf)) rfl rfl ?_)
    refine RX.cons rfl rfl (op_alloc rfl rfl rfl zero_33 fun gf => ?_)
    refine RX.cons rfl rfl (op_storeAll (i := 0) rfl rfl rfl rfl szt_33 rfl (plain_of rfl) rfl rfl ?_)
    refine RX.nil (XX.next (V' := [(0, .slice y2.1 ((distinctF [] (fewF fs)).length) y2.2), (3, .bool true), (4, .slice y3.1 ((streams (distinctF [] (fewF fs))).length) y3.2), (5, .int .i64 ((i : Nat) : Int)), (6, .pointer (some ⟨gf, 0, none⟩))]) ⟨rfl, rfl, rfl, rfl, rfl, trivial⟩ ?_)
    refine CX.seq ?_
    refine CX.region ?_
    refine RX.cons rfl rfl (op_w (yw_assign rfl rfl) rfl rfl ?_)
    refine RX.nil (XX.next (V' := [(0, .slice y2.1 ((distinctF [] (fewF fs)).length) y2.2), (3, .bool true), (4, .slice y3.1 ((streams (distinctF [] (fewF fs))).length) y3.2), (5, .int .i64 ((i : Nat) : Int)), (6, .pointer (some ⟨gf, 0, none⟩)), (7, .bool false)]) ⟨rfl, rfl, rfl, rfl, rfl, rfl, trivial⟩ ?_)
    refine CX.seq ?_
    refine CX.region ?_
    refine RX.cons rfl rfl (op_w (yw_assign rfl rfl) rfl rfl ?_)
    refine RX.nil (XX.next (V' := [(0, .slice y2.1 ((distinctF [] (fewF fs)).length) y2.2), (3, .bool true), (4, .slice y3.1 ((streams (distinctF [] (fewF fs))).length) y3.2), (5, .int .i64 ((i : Nat) : Int)), (6, .pointer (some ⟨gf, 0, none⟩)), (7, .bool false), (8, .bool false)]) ⟨rfl, rfl, rfl, rfl, rfl, rfl, rfl, trivial⟩ ?_)
    refine CX.seq ?_
    refine CX.region ?_
    refine RX.cons rfl rfl (op_w (yw_assign rfl rfl) rfl rfl ?_)
    refine RX.nil (XX.next (V' := [(0, .slice y2.1 ((distinctF [] (fewF fs)).length) y2.2), (3, .bool true), (4, .slice y3.1 ((streams (distinctF [] (fewF fs))).length) y3.2), (5, .int .i64 ((i : Nat) : Int)), (6, .pointer (some ⟨gf, 0, none⟩)), (7, .bool false), (8, .bool false), (9, .int .i64 0)]) ⟨rfl, rfl, rfl, rfl, rfl, rfl, rfl, rfl, trivial⟩ ?_)
    refine CX.seq ?_
    refine CX.seq ?_
    refine CX.region ?_
    refine RX.cons rfl rfl (op_w (yw_assign rfl rfl) rfl rfl ?_)
    refine RX.nil (XX.next (V' := [(0, .slice y2.1 ((distinctF [] (fewF fs)).length) y2.2), (3, .bool true), (4, .slice y3.1 ((streams (distinctF [] (fewF fs))).length) y3.2), (5, .int .i64 ((i : Nat) : Int)), (6, .pointer (some ⟨gf, 0, none⟩)), (7, .bool false), (8, .bool false), (9, .int .i64 0), (10, .int .i64 0)]) ⟨rfl, rfl, rfl, rfl, rfl, rfl, rfl, rfl, rfl, trivial⟩ ?_)
    refine CX.block ?_
    refine CX.loop (σ := Nat × Bool × Bool × Nat) (fun z => [(0, .slice y2.1 ((distinctF [] (fewF fs)).length) y2.2), (3, .bool true), (4, .slice y3.1 ((streams (distinctF [] (fewF fs))).length) y3.2), (5, .int .i64 ((i : Nat) : Int)), (6, .pointer (some ⟨gf, 0, none⟩)), (7, .bool z.2.1), (8, .bool z.2.2.1), (9, .int .i64 ((z.2.2.2 : Nat) : Int)), (10, .int .i64 ((z.1 : Nat) : Int))]) (fun z => [.blk gf (.cells (Fct.cells f) 33 (0, 0)), .row y3.1 y3.2 30 9 (List.map Strm.cells (streams (distinctF [] (fewF fs)))), .row y2.1 y2.2 33 18 (List.map Fct.cells (distinctF [] (fewF fs))), .row y1.1 y1.2 33 18 (List.map Fct.cells (fewF fs))]) (fun z => z.1 ≤ (streams (distinctF [] (fewF fs))).length ∧ z.2.1 = (List.take z.1 (streams (distinctF [] (fewF fs)))).any (hers f) ∧ z.2.2.1 = (List.take z.1 (streams (distinctF [] (fewF fs)))).any (overs (distinctF [] (fewF fs)) f) ∧ z.2.2.2 = (List.take z.1 (streams (distinctF [] (fewF fs)))).countP (loopsB (distinctF [] (fewF fs)) f)) (fun z => (streams (distinctF [] (fewF fs))).length - z.1) (0, false, false, 0) ⟨Nat.zero_le _, by simp, by simp, by simp⟩ ⟨rfl, rfl, rfl, rfl, rfl, rfl, rfl, rfl, rfl, trivial⟩ rfl (fun z hI => ?_)
    obtain ⟨k, b1, b2, n⟩ := z
    dsimp only at hI ⊢
    obtain ⟨hk, hb1, hb2, hnn⟩ := hI
    have hnl := count_take_le hnn
    refine CX.seq ?_
    refine CX.seq ?_
    refine CX.region ?_
    refine RX.cons rfl rfl (op_w (yw_move rfl rfl) rfl rfl ?_)
    refine RX.cons rfl rfl (op_w (yw_move rfl rfl) rfl rfl ?_)
    refine RX.cons rfl rfl (op_w (yw_lenS rfl Tryd.underlying23 rfl) rfl rfl ?_)
    refine RX.cons rfl rfl (op_w (yw_lss rfl rfl rfl) rfl rfl ?_)
    refine RX.nil (XX.next (V' := [(0, .slice y2.1 ((distinctF [] (fewF fs)).length) y2.2), (3, .bool true), (4, .slice y3.1 ((streams (distinctF [] (fewF fs))).length) y3.2), (5, .int .i64 ((i : Nat) : Int)), (6, .pointer (some ⟨gf, 0, none⟩)), (7, .bool b1), (8, .bool b2), (9, .int .i64 ((n : Nat) : Int)), (10, .int .i64 ((k : Nat) : Int)), (34, .bool (decide (((k : Nat) : Int) < (((streams (distinctF [] (fewF fs))).length : Nat) : Int))))]) ⟨rfl, rfl, rfl, rfl, rfl, rfl, rfl, rfl, rfl, rfl, trivial⟩ ?_)
    refine CX.condD (p := ((k : Nat) : Int) < (((streams (distinctF [] (fewF fs))).length : Nat) : Int)) rfl (fun c34 => ?_) (fun c34 => ?_)
    · obtain ⟨s, hs⟩ := get_some (l := (streams (distinctF [] (fewF fs)))) (k := k) (by omega)
      have hh := is_her hD (List.mem_of_getElem? hs)
      refine CX.rowSome 1 rfl (by simp; omega) (fun hA => ?_)
      refine CX.skip (XX.next (V' := [(0, .slice y2.1 ((distinctF [] (fewF fs)).length) y2.2), (3, .bool true), (4, .slice y3.1 ((streams (distinctF [] (fewF fs))).length) y3.2), (5, .int .i64 ((i : Nat) : Int)), (6, .pointer (some ⟨gf, 0, none⟩)), (7, .bool b1), (8, .bool b2), (9, .int .i64 ((n : Nat) : Int)), (10, .int .i64 ((k : Nat) : Int))]) ⟨rfl, rfl, rfl, rfl, rfl, rfl, rfl, rfl, rfl, trivial⟩ ?_)
      refine CX.seq ?_
      refine CX.block ?_
      refine CX.seq ?_
      refine CX.region ?_
      refine RX.cons rfl rfl (op_w (yw_move rfl rfl) rfl rfl ?_)
      refine RX.cons rfl rfl (op_w (yw_move rfl rfl) rfl rfl ?_)
      refine RX.cons rfl rfl (op_w (yw_index (k := k) rfl slt_23 rfl rfl (by omega) (by omega) hA) rfl rfl ?_)
      refine RX.cons rfl rfl (op_yld (y_rowElem (i := 1) rfl rfl agg_30 rfl (map_get hs)) rfl rfl ?_)
      refine RX.cons rfl rfl (op_alloc rfl rfl rfl zero_30 fun gs => ?_)
      refine RX.cons rfl rfl (op_storeAll (i := 0) rfl rfl rfl rfl szt_30 rfl (plain_of rfl) rfl rfl ?_)
      refine RX.nil (XX.next (V' := [(0, .slice y2.1 ((distinctF [] (fewF fs)).length) y2.2), (3, .bool true), (4, .slice y3.1 ((streams (distinctF [] (fewF fs))).length) y3.2), (5, .int .i64 ((i : Nat) : Int)), (6, .pointer (some ⟨gf, 0, none⟩)), (7, .bool b1), (8, .bool b2), (9, .int .i64 ((n : Nat) : Int)), (10, .int .i64 ((k : Nat) : Int)), (11, .pointer (some ⟨gs, 0, none⟩))]) ⟨rfl, rfl, rfl, rfl, rfl, rfl, rfl, rfl, rfl, rfl, trivial⟩ ?_)
      refine CX.seq ?_
      refine CX.seq ?_
      refine CX.region ?_
      refine RX.cons rfl rfl (op_w (yw_field0 rfl fld_30_0 rfl) rfl rfl ?_)
      refine RX.cons rfl rfl (op_yld (y_load (i := 0) rfl rfl one_3 rfl rfl) rfl rfl ?_)
      refine RX.cons rfl rfl (op_w (yw_fieldAddr rfl fld_33_6 rfl) rfl rfl ?_)
      refine RX.cons rfl rfl (op_yld (y_load (i := 1) rfl rfl one_3 rfl rfl) rfl rfl ?_)
      refine RX.cons rfl rfl (op_w (yw_neq rfl rfl rfl) rfl rfl ?_)
      refine RX.nil (XX.next (V' := [(0, .slice y2.1 ((distinctF [] (fewF fs)).length) y2.2), (3, .bool true), (4, .slice y3.1 ((streams (distinctF [] (fewF fs))).length) y3.2), (5, .int .i64 ((i : Nat) : Int)), (6, .pointer (some ⟨gf, 0, none⟩)), (7, .bool b1), (8, .bool b2), (9, .int .i64 ((n : Nat) : Int)), (10, .int .i64 ((k : Nat) : Int)), (11, .pointer (some ⟨gs, 0, none⟩)), (45, .bool (decide (s.device ≠ f.device)))]) ⟨rfl, rfl, rfl, rfl, rfl, rfl, rfl, rfl, rfl, rfl, rfl, trivial⟩ ?_)
      refine CX.condD (p := s.device ≠ f.device) rfl (fun c45 => ?_) (fun c45 => ?_)
      · refine CX.exit ?_
        refine XX.then_exit ?_
        refine XX.block_exit ?_
        refine XX.next (V' := [(0, .slice y2.1 ((distinctF [] (fewF fs)).length) y2.2), (3, .bool true), (4, .slice y3.1 ((streams (distinctF [] (fewF fs))).length) y3.2), (5, .int .i64 ((i : Nat) : Int)), (6, .pointer (some ⟨gf, 0, none⟩)), (7, .bool b1), (8, .bool b2), (9, .int .i64 ((n : Nat) : Int)), (10, .int .i64 ((k : Nat) : Int))]) ⟨rfl, rfl, rfl, rfl, rfl, rfl, rfl, rfl, rfl, trivial⟩ ?_
        refine CX.region ?_
        refine RX.cons rfl rfl (op_w (yw_move rfl rfl) rfl rfl ?_)
        refine RX.cons rfl rfl (op_w (yw_add rfl rfl rfl (by omega) (by omega)) rfl rfl ?_)
        refine RX.cons rfl rfl (op_w (yw_assign rfl rfl) rfl rfl ?_)
        refine RX.nil (XX.againP ([.blk gs (.cells (Strm.cells s) 30 (0, 0))]) (k + 1, b1, b2, n) (by dsimp only; omega) ⟨by dsimp only; omega, any_no hs (hers_dev c45) hb1, any_no hs (overs_dev c45) hb2, count_no hs (loops_dev c45) hnn⟩ ⟨rfl, rfl, rfl, rfl, rfl, rfl, rfl, rfl, rfl, trivial⟩ ((perm_pick 1 rfl).trans (List.Perm.cons _ ((perm_pick 1 rfl).trans (List.Perm.cons _ ((perm_pick 1 rfl).trans (List.Perm.cons _ ((perm_pick 1 rfl).trans (List.Perm.cons _ (List.Perm.refl _))))))))))
      · refine CX.skip (XX.next (V' := [(0, .slice y2.1 ((distinctF [] (fewF fs)).length) y2.2), (3, .bool true), (4, .slice y3.1 ((streams (distinctF [] (fewF fs))).length) y3.2), (5, .int .i64 ((i : Nat) : Int)), (6, .pointer (some ⟨gf, 0, none⟩)), (7, .bool b1), (8, .bool b2), (9, .int .i64 ((n : Nat) : Int)), (10, .int .i64 ((k : Nat) : Int)), (11, .pointer (some ⟨gs, 0, none⟩))]) ⟨rfl, rfl, rfl, rfl, rfl, rfl, rfl, rfl, rfl, rfl, trivial⟩ ?_)
        refine CX.seq ?_
        refine CX.region ?_
        refine RX.cons rfl rfl (op_w (yw_move rfl rfl) rfl rfl ?_)
        refine RX.cons rfl rfl (op_w (yw_move rfl rfl) rfl rfl ?_)
        refine RX.split (t := 47) (b := b1) rfl (fun d47 => ?_) (fun d47 => ?_)
        · refine RX.skip rfl rfl rfl rfl rfl rfl rfl ?_
          refine RX.skip rfl rfl rfl rfl rfl rfl rfl ?_
          refine RX.skip rfl rfl rfl rfl rfl rfl rfl ?_
          refine RX.skip rfl rfl rfl rfl rfl rfl rfl ?_
          refine RX.skip rfl rfl rfl rfl rfl rfl rfl ?_
          refine RX.cons rfl rfl (op_w (yw_pickT rfl rfl rfl) rfl rfl ?_)
          refine RX.cons rfl rfl (op_w (yw_assign rfl rfl) rfl rfl ?_)
          refine RX.nil (XX.next (V' := [(0, .slice y2.1 ((distinctF [] (fewF fs)).length) y2.2), (3, .bool true), (4, .slice y3.1 ((streams (distinctF [] (fewF fs))).length) y3.2), (5, .int .i64 ((i : Nat) : Int)), (6, .pointer (some ⟨gf, 0, none⟩)), (7, .bool true), (8, .bool b2), (9, .int .i64 ((n : Nat) : Int)), (10, .int .i64 ((k : Nat) : Int)), (11, .pointer (some ⟨gs, 0, none⟩))]) ⟨rfl, rfl, rfl, rfl, rfl, rfl, rfl, rfl, rfl, rfl, trivial⟩ ?_)
          refine CX.seq ?_
          refine CX.region ?_
          refine RX.cons rfl rfl (op_w (yw_move rfl rfl) rfl rfl ?_)
          refine RX.cons rfl rfl (op_yld (y_loadA (i := 0) rfl rfl agg_30 rfl rfl) rfl rfl ?_)
          refine RX.cons rfl rfl (op_callV (v := .tuple #[.agg (Fct.cells (findF (distinctF [] (fewF fs)) s)), .bool (foundF (distinctF [] (fewF fs)) s)]) rfl rfl rfl rfl rfl ent_15 (fun w hw => w_find (distinctF [] (fewF fs)) s (Ent.rd (hw.ents _ (List.mem_of_getElem? (i := 3) rfl))) (by omega)) ?_)
          refine RX.cons rfl rfl (op_w (yw_move rfl rfl) rfl rfl ?_)
          refine RX.cons rfl rfl (op_w (yw_extract rfl rfl rfl) rfl rfl ?_)
          refine RX.cons rfl rfl (op_w (yw_extract rfl rfl rfl) rfl rfl ?_)
          refine RX.cons rfl rfl (op_alloc rfl rfl rfl zero_33 fun gg => ?_)
          refine RX.cons rfl rfl (op_storeAll (i := 0) rfl rfl rfl rfl szt_33 rfl (plain_of rfl) rfl rfl ?_)
          refine RX.cons rfl rfl (op_w (yw_assign rfl rfl) rfl rfl ?_)
          refine RX.nil (XX.next (V' := [(0, .slice y2.1 ((distinctF [] (fewF fs)).length) y2.2), (3, .bool true), (4, .slice y3.1 ((streams (distinctF [] (fewF fs))).length) y3.2), (5, .int .i64 ((i : Nat) : Int)), (6, .pointer (some ⟨gf, 0, none⟩)), (7, .bool true), (8, .bool b2), (9, .int .i64 ((n : Nat) : Int)), (10, .int .i64 ((k : Nat) : Int)), (11, .pointer (some ⟨gs, 0, none⟩)), (12, .pointer (some ⟨gg, 0, none⟩))]) ⟨rfl, rfl, rfl, rfl, rfl, rfl, rfl, rfl, rfl, rfl, rfl, trivial⟩ ?_)
          refine CX.seq ?_
          refine CX.region ?_
          refine RX.cons rfl rfl (op_w (yw_fieldAddr rfl fld_33_4 rfl) rfl rfl ?_)
          refine RX.cons rfl rfl (op_yld (y_load (i := 0) rfl rfl one_3 rfl rfl) rfl rfl ?_)
          refine RX.cons rfl rfl (op_w (yw_fieldAddr rfl fld_33_4 rfl) rfl rfl ?_)
          refine RX.cons rfl rfl (op_yld (y_load (i := 2) rfl rfl one_3 rfl rfl) rfl rfl ?_)
          refine RX.cons rfl rfl (op_w (yw_lss rfl rfl rfl) rfl rfl ?_)
          refine RX.cons rfl rfl (op_w (yw_move rfl rfl) rfl rfl ?_)
          refine RX.splitD (t := 65) (p := (findF (distinctF [] (fewF fs)) s).second < f.second) rfl (fun d65 => ?_) (fun d65 => ?_)
          · refine RX.skip rfl rfl rfl rfl rfl rfl rfl ?_
            refine RX.skip rfl rfl rfl rfl rfl rfl rfl ?_
            refine RX.skip rfl rfl rfl rfl rfl rfl rfl ?_
            refine RX.skip rfl rfl rfl rfl rfl rfl rfl ?_
            refine RX.skip rfl rfl rfl rfl rfl rfl rfl ?_
            refine RX.skip rfl rfl rfl rfl rfl rfl rfl ?_
            refine RX.skip rfl rfl rfl rfl rfl rfl rfl ?_
            refine RX.skip rfl rfl rfl rfl rfl rfl rfl ?_
            refine RX.skip rfl rfl rfl rfl rfl rfl rfl ?_
            refine RX.skip rfl rfl rfl rfl rfl rfl rfl ?_
            refine RX.skip rfl rfl rfl rfl rfl rfl rfl ?_
            refine RX.skip rfl rfl rfl rfl rfl rfl rfl ?_
            refine RX.cons rfl rfl (op_w (yw_pickT rfl rfl rfl) rfl rfl ?_)
            refine RX.cons rfl rfl (op_w (yw_assign rfl rfl) rfl rfl ?_)
            refine RX.know (t := 14) (u := .bool (earlier (findF (distinctF [] (fewF fs)) s) f)) rfl (congrArg Value.bool (earlier_lt d65).symm) ?_
            refine RX.nil (XX.next (V' := [(0, .slice y2.1 ((distinctF [] (fewF fs)).length) y2.2), (3, .bool true), (4, .slice y3.1 ((streams (distinctF [] (fewF fs))).length) y3.2), (5, .int .i64 ((i : Nat) : Int)), (6, .pointer (some ⟨gf, 0, none⟩)), (7, .bool true), (8, .bool b2), (9, .int .i64 ((n : Nat) : Int)), (10, .int .i64 ((k : Nat) : Int)), (11, .pointer (some ⟨gs, 0, none⟩)), (12, .pointer (some ⟨gg, 0, none⟩)), (14, .bool (earlier (findF (distinctF [] (fewF fs)) s) f))]) ⟨rfl, rfl, rfl, rfl, rfl, rfl, rfl, rfl, rfl, rfl, rfl, rfl, trivial⟩ ?_)
            refine CX.seq ?_
            refine CX.draw 12 (by kernel_rfl) ?_
            refine DX.takeW 0 1 (by kernel_rfl) rfl rfl rfl rfl rfl (yw_move rfl rfl) ?_
            refine DX.takeW 1 3 (by kernel_rfl) rfl rfl rfl rfl rfl (yw_move rfl rfl) ?_
            refine DX.split (t := 80) (b := b2) rfl (fun d80 => ?_) (fun d80 => ?_)
            · refine DX.skip 2 7 (by kernel_rfl) rfl rfl rfl rfl rfl rfl rfl rfl ?_
              refine DX.skip 3 15 (by kernel_rfl) rfl rfl rfl rfl rfl rfl rfl rfl ?_
              refine DX.skip 4 31 (by kernel_rfl) rfl rfl rfl rfl rfl rfl rfl rfl ?_
              refine DX.skip 5 63 (by kernel_rfl) rfl rfl rfl rfl rfl rfl rfl rfl ?_
              refine DX.skip 6 127 (by kernel_rfl) rfl rfl rfl rfl rfl rfl rfl rfl ?_
              refine DX.skip 7 255 (by kernel_rfl) rfl rfl rfl rfl rfl rfl rfl rfl ?_
              refine DX.skip 8 511 (by kernel_rfl) rfl rfl rfl rfl rfl rfl rfl rfl ?_
              refine DX.skip 9 1023 (by kernel_rfl) rfl rfl rfl rfl rfl rfl rfl rfl ?_
              refine DX.takeW 10 2047 (by kernel_rfl) rfl rfl rfl rfl rfl (yw_pickT rfl rfl rfl) ?_
              refine DX.takeW 11 4095 (by kernel_rfl) rfl rfl rfl rfl rfl (yw_assign rfl rfl) ?_
              refine DX.done (by kernel_rfl) (XX.next (V' := [(0, .slice y2.1 ((distinctF [] (fewF fs)).length) y2.2), (3, .bool true), (4, .slice y3.1 ((streams (distinctF [] (fewF fs))).length) y3.2), (5, .int .i64 ((i : Nat) : Int)), (6, .pointer (some ⟨gf, 0, none⟩)), (7, .bool true), (8, .bool true), (9, .int .i64 ((n : Nat) : Int)), (10, .int .i64 ((k : Nat) : Int)), (11, .pointer (some ⟨gs, 0, none⟩)), (14, .bool (earlier (findF (distinctF [] (fewF fs)) s) f))]) ⟨rfl, rfl, rfl, rfl, rfl, rfl, rfl, rfl, rfl, rfl, rfl, trivial⟩ ?_)
              refine CX.seq ?_
              refine CX.region ?_
              refine RX.cons rfl rfl (op_w (yw_move rfl rfl) rfl rfl ?_)
              refine RX.cons rfl rfl (op_w (yw_move rfl rfl) rfl rfl ?_)
              refine RX.split (t := 91) (b := (earlier (findF (distinctF [] (fewF fs)) s) f)) rfl (fun d91 => ?_) (fun d91 => ?_)
              · refine RX.consG rfl rfl rfl rfl rfl (op_w (yw_fieldAddr rfl fld_30_3 rfl) rfl rfl ?_)
                refine RX.consG rfl rfl rfl rfl rfl (op_yld (y_load (i := 1) rfl rfl one_3 rfl rfl) rfl rfl ?_)
                refine RX.consG rfl rfl rfl rfl rfl (op_w (yw_fieldAddr rfl fld_33_7 rfl) rfl rfl ?_)
                refine RX.consG rfl rfl rfl rfl rfl (op_yld (y_load (i := 2) rfl rfl one_3 rfl rfl) rfl rfl ?_)
                refine RX.consG rfl rfl rfl rfl rfl (op_w (yw_eql rfl rfl rfl) rfl rfl ?_)
                refine RX.cons rfl rfl (op_w (yw_pickT rfl rfl rfl) rfl rfl ?_)
                refine RX.nil (XX.next (V' := [(0, .slice y2.1 ((distinctF [] (fewF fs)).length) y2.2), (3, .bool true), (4, .slice y3.1 ((streams (distinctF [] (fewF fs))).length) y3.2), (5, .int .i64 ((i : Nat) : Int)), (6, .pointer (some ⟨gf, 0, none⟩)), (7, .bool true), (8, .bool true), (9, .int .i64 ((n : Nat) : Int)), (10, .int .i64 ((k : Nat) : Int)), (97, .bool (decide (s.recording = f.recording)))]) ⟨rfl, rfl, rfl, rfl, rfl, rfl, rfl, rfl, rfl, rfl, trivial⟩ ?_)
                refine CX.condD (p := s.recording = f.recording) rfl (fun c97 => ?_) (fun c97 => ?_)
                · refine CX.region ?_
                  refine RX.cons rfl rfl (op_w (yw_move rfl rfl) rfl rfl ?_)
                  refine RX.cons rfl rfl (op_w (yw_add rfl rfl rfl (by omega) (by omega)) rfl rfl ?_)
                  refine RX.cons rfl rfl (op_w (yw_assign rfl rfl) rfl rfl ?_)
                  refine RX.nil (XX.inBlock (V' := [(0, .slice y2.1 ((distinctF [] (fewF fs)).length) y2.2), (3, .bool true), (4, .slice y3.1 ((streams (distinctF [] (fewF fs))).length) y3.2), (5, .int .i64 ((i : Nat) : Int)), (6, .pointer (some ⟨gf, 0, none⟩)), (7, .bool true), (8, .bool true), (9, .int .i64 (((n : Nat) : Int) + 1)), (10, .int .i64 ((k : Nat) : Int))]) ⟨rfl, rfl, rfl, rfl, rfl, rfl, rfl, rfl, rfl, trivial⟩ ?_)
                  refine XX.next (V' := [(0, .slice y2.1 ((distinctF [] (fewF fs)).length) y2.2), (3, .bool true), (4, .slice y3.1 ((streams (distinctF [] (fewF fs))).length) y3.2), (5, .int .i64 ((i : Nat) : Int)), (6, .pointer (some ⟨gf, 0, none⟩)), (7, .bool true), (8, .bool true), (9, .int .i64 (((n : Nat) : Int) + 1)), (10, .int .i64 ((k : Nat) : Int))]) ⟨rfl, rfl, rfl, rfl, rfl, rfl, rfl, rfl, rfl, trivial⟩ ?_
                  refine CX.region ?_
                  refine RX.cons rfl rfl (op_w (yw_move rfl rfl) rfl rfl ?_)
                  refine RX.cons rfl rfl (op_w (yw_add rfl rfl rfl (by omega) (by omega)) rfl rfl ?_)
                  refine RX.cons rfl rfl (op_w (yw_assign rfl rfl) rfl rfl ?_)
                  refine RX.nil (XX.againP ([.blk gg (.cells (Fct.cells (findF (distinctF [] (fewF fs)) s)) 33 (0, 0)), .blk gs (.cells (Strm.cells s) 30 (0, 0))]) (k + 1, true, true, n + 1) (by dsimp only; omega) ⟨by dsimp only; omega, any_yes hs hb1 d47, any_yes hs hb2 d80, count_yes hs (loops_yes (by omega) d91 c97) hnn⟩ ⟨rfl, rfl, rfl, rfl, rfl, rfl, rfl, rfl, rfl, trivial⟩ ((perm_pick 2 rfl).trans (List.Perm.cons _ ((perm_pick 2 rfl).trans (List.Perm.cons _ ((perm_pick 2 rfl).trans (List.Perm.cons _ ((perm_pick 2 rfl).trans (List.Perm.cons _ (List.Perm.refl _))))))))))
                · refine CX.skip (XX.inBlock (V' := [(0, .slice y2.1 ((distinctF [] (fewF fs)).length) y2.2), (3, .bool true), (4, .slice y3.1 ((streams (distinctF [] (fewF fs))).length) y3.2), (5, .int .i64 ((i : Nat) : Int)), (6, .pointer (some ⟨gf, 0, none⟩)), (7, .bool true), (8, .bool true), (9, .int .i64 ((n : Nat) : Int)), (10, .int .i64 ((k : Nat) : Int))]) ⟨rfl, rfl, rfl, rfl, rfl, rfl, rfl, rfl, rfl, trivial⟩ ?_)
                  refine XX.next (V' := [(0, .slice y2.1 ((distinctF [] (fewF fs)).length) y2.2), (3, .bool true), (4, .slice y3.1 ((streams (distinctF [] (fewF fs))).length) y3.2), (5, .int .i64 ((i : Nat) : Int)), (6, .pointer (some ⟨gf, 0, none⟩)), (7, .bool true), (8, .bool true), (9, .int .i64 ((n : Nat) : Int)), (10, .int .i64 ((k : Nat) : Int))]) ⟨rfl, rfl, rfl, rfl, rfl, rfl, rfl, rfl, rfl, trivial⟩ ?_
                  refine CX.region ?_
                  refine RX.cons rfl rfl (op_w (yw_move rfl rfl) rfl rfl ?_)
                  refine RX.cons rfl rfl (op_w (yw_add rfl rfl rfl (by omega) (by omega)) rfl rfl ?_)
                  refine RX.cons rfl rfl (op_w (yw_assign rfl rfl) rfl rfl ?_)
                  refine RX.nil (XX.againP ([.blk gg (.cells (Fct.cells (findF (distinctF [] (fewF fs)) s)) 33 (0, 0)), .blk gs (.cells (Strm.cells s) 30 (0, 0))]) (k + 1, true, true, n) (by dsimp only; omega) ⟨by dsimp only; omega, any_yes hs hb1 d47, any_yes hs hb2 d80, count_no hs (loops_rec c97) hnn⟩ ⟨rfl, rfl, rfl, rfl, rfl, rfl, rfl, rfl, rfl, trivial⟩ ((perm_pick 2 rfl).trans (List.Perm.cons _ ((perm_pick 2 rfl).trans (List.Perm.cons _ ((perm_pick 2 rfl).trans (List.Perm.cons _ ((perm_pick 2 rfl).trans (List.Perm.cons _ (List.Perm.refl _))))))))))
              · refine RX.skip rfl rfl rfl rfl rfl rfl rfl ?_
                refine RX.skip rfl rfl rfl rfl rfl rfl rfl ?_
                refine RX.skip rfl rfl rfl rfl rfl rfl rfl ?_
                refine RX.skip rfl rfl rfl rfl rfl rfl rfl ?_
                refine RX.skip rfl rfl rfl rfl rfl rfl rfl ?_
                refine RX.cons rfl rfl (op_w (yw_pickF rfl rfl rfl) rfl rfl ?_)
                refine RX.nil (XX.next (V' := [(0, .slice y2.1 ((distinctF [] (fewF fs)).length) y2.2), (3, .bool true), (4, .slice y3.1 ((streams (distinctF [] (fewF fs))).length) y3.2), (5, .int .i64 ((i : Nat) : Int)), (6, .pointer (some ⟨gf, 0, none⟩)), (7, .bool true), (8, .bool true), (9, .int .i64 ((n : Nat) : Int)), (10, .int .i64 ((k : Nat) : Int)), (97, .bool false)]) ⟨rfl, rfl, rfl, rfl, rfl, rfl, rfl, rfl, rfl, rfl, trivial⟩ ?_)
                refine CX.condF rfl ?_
                refine CX.skip (XX.inBlock (V' := [(0, .slice y2.1 ((distinctF [] (fewF fs)).length) y2.2), (3, .bool true), (4, .slice y3.1 ((streams (distinctF [] (fewF fs))).length) y3.2), (5, .int .i64 ((i : Nat) : Int)), (6, .pointer (some ⟨gf, 0, none⟩)), (7, .bool true), (8, .bool true), (9, .int .i64 ((n : Nat) : Int)), (10, .int .i64 ((k : Nat) : Int))]) ⟨rfl, rfl, rfl, rfl, rfl, rfl, rfl, rfl, rfl, trivial⟩ ?_)
                refine XX.next (V' := [(0, .slice y2.1 ((distinctF [] (fewF fs)).length) y2.2), (3, .bool true), (4, .slice y3.1 ((streams (distinctF [] (fewF fs))).length) y3.2), (5, .int .i64 ((i : Nat) : Int)), (6, .pointer (some ⟨gf, 0, none⟩)), (7, .bool true), (8, .bool true), (9, .int .i64 ((n : Nat) : Int)), (10, .int .i64 ((k : Nat) : Int))]) ⟨rfl, rfl, rfl, rfl, rfl, rfl, rfl, rfl, rfl, trivial⟩ ?_
                refine CX.region ?_
                refine RX.cons rfl rfl (op_w (yw_move rfl rfl) rfl rfl ?_)
                refine RX.cons rfl rfl (op_w (yw_add rfl rfl rfl (by omega) (by omega)) rfl rfl ?_)
                refine RX.cons rfl rfl (op_w (yw_assign rfl rfl) rfl rfl ?_)
                refine RX.nil (XX.againP ([.blk gg (.cells (Fct.cells (findF (distinctF [] (fewF fs)) s)) 33 (0, 0)), .blk gs (.cells (Strm.cells s) 30 (0, 0))]) (k + 1, true, true, n) (by dsimp only; omega) ⟨by dsimp only; omega, any_yes hs hb1 d47, any_yes hs hb2 d80, count_no hs (loops_no (by omega) d91) hnn⟩ ⟨rfl, rfl, rfl, rfl, rfl, rfl, rfl, rfl, rfl, trivial⟩ ((perm_pick 2 rfl).trans (List.Perm.cons _ ((perm_pick 2 rfl).trans (List.Perm.cons _ ((perm_pick 2 rfl).trans (List.Perm.cons _ ((perm_pick 2 rfl).trans (List.Perm.cons _ (List.Perm.refl _))))))))))
            · refine DX.takeWG 2 7 (by kernel_rfl) rfl rfl rfl rfl rfl rfl rfl rfl (yw_move rfl rfl) ?_
              refine DX.takeWG 3 15 (by kernel_rfl) rfl rfl rfl rfl rfl rfl rfl rfl (yw_move rfl rfl) ?_
              refine DX.split (t := 82) (b := (earlier (findF (distinctF [] (fewF fs)) s) f)) rfl (fun d82 => ?_) (fun d82 => ?_)
              · refine DX.takeWG 4 31 (by kernel_rfl) rfl rfl rfl rfl rfl rfl rfl rfl (yw_fieldAddr rfl fld_33_4 rfl) ?_
                refine DX.takeG 5 63 (by kernel_rfl) rfl rfl rfl rfl rfl rfl rfl rfl (List.Sublist.refl _) (y_load (i := 2) rfl rfl one_3 rfl rfl) ?_
                refine DX.takeG 6 127 (by kernel_rfl) rfl rfl rfl rfl rfl rfl rfl rfl (List.Sublist.refl _) (y_loadA (i := 0) rfl rfl agg_33 rfl rfl) ?_
                refine DX.stepG 7 255 (by kernel_rfl) rfl rfl rfl rfl rfl rfl (op_callV (v := .int .i64 (Fct.stop (findF (distinctF [] (fewF fs)) s))) rfl rfl rfl rfl rfl ent_16 (fun w _ => w_refEnd (findF (distinctF [] (fewF fs)) s) hh.s0 hh.s1 hh.a0 hh.a1) (DXs.mk (List.Sublist.refl _) ?_))
                refine DX.takeWG 8 511 (by kernel_rfl) rfl rfl rfl rfl rfl rfl rfl rfl (yw_lss rfl rfl rfl) ?_
                refine DX.takeWG 9 1023 (by kernel_rfl) rfl rfl rfl rfl rfl rfl rfl rfl (yw_pickT rfl rfl rfl) ?_
                refine DX.takeW 10 2047 (by kernel_rfl) rfl rfl rfl rfl rfl (yw_pickF rfl rfl rfl) ?_
                refine DX.takeW 11 4095 (by kernel_rfl) rfl rfl rfl rfl rfl (yw_assign rfl rfl) ?_
                refine DX.done (by kernel_rfl) (XX.next (V' := [(0, .slice y2.1 ((distinctF [] (fewF fs)).length) y2.2), (3, .bool true), (4, .slice y3.1 ((streams (distinctF [] (fewF fs))).length) y3.2), (5, .int .i64 ((i : Nat) : Int)), (6, .pointer (some ⟨gf, 0, none⟩)), (7, .bool true), (8, .bool (decide (f.second < Fct.stop (findF (distinctF [] (fewF fs)) s)))), (9, .int .i64 ((n : Nat) : Int)), (10, .int .i64 ((k : Nat) : Int)), (11, .pointer (some ⟨gs, 0, none⟩)), (14, .bool (earlier (findF (distinctF [] (fewF fs)) s) f))]) ⟨rfl, rfl, rfl, rfl, rfl, rfl, rfl, rfl, rfl, rfl, rfl, trivial⟩ ?_)
                refine CX.seq ?_
                refine CX.region ?_
                refine RX.cons rfl rfl (op_w (yw_move rfl rfl) rfl rfl ?_)
                refine RX.cons rfl rfl (op_w (yw_move rfl rfl) rfl rfl ?_)
                refine RX.split (t := 91) (b := (earlier (findF (distinctF [] (fewF fs)) s) f)) rfl (fun d91 => ?_) (fun d91 => ?_)
                · refine RX.consG rfl rfl rfl rfl rfl (op_w (yw_fieldAddr rfl fld_30_3 rfl) rfl rfl ?_)
                  refine RX.consG rfl rfl rfl rfl rfl (op_yld (y_load (i := 1) rfl rfl one_3 rfl rfl) rfl rfl ?_)
                  refine RX.consG rfl rfl rfl rfl rfl (op_w (yw_fieldAddr rfl fld_33_7 rfl) rfl rfl ?_)
                  refine RX.consG rfl rfl rfl rfl rfl (op_yld (y_load (i := 2) rfl rfl one_3 rfl rfl) rfl rfl ?_)
                  refine RX.consG rfl rfl rfl rfl rfl (op_w (yw_eql rfl rfl rfl) rfl rfl ?_)
                  refine RX.cons rfl rfl (op_w (yw_pickT rfl rfl rfl) rfl rfl ?_)
                  refine RX.nil (XX.next (V' := [(0, .slice y2.1 ((distinctF [] (fewF fs)).length) y2.2), (3, .bool true), (4, .slice y3.1 ((streams (distinctF [] (fewF fs))).length) y3.2), (5, .int .i64 ((i : Nat) : Int)), (6, .pointer (some ⟨gf, 0, none⟩)), (7, .bool true), (8, .bool (decide (f.second < Fct.stop (findF (distinctF [] (fewF fs)) s)))), (9, .int .i64 ((n : Nat) : Int)), (10, .int .i64 ((k : Nat) : Int)), (97, .bool (decide (s.recording = f.recording)))]) ⟨rfl, rfl, rfl, rfl, rfl, rfl, rfl, rfl, rfl, rfl, trivial⟩ ?_)
                  refine CX.condD (p := s.recording = f.recording) rfl (fun c97 => ?_) (fun c97 => ?_)
                  · refine CX.region ?_
                    refine RX.cons rfl rfl (op_w (yw_move rfl rfl) rfl rfl ?_)
                    refine RX.cons rfl rfl (op_w (yw_add rfl rfl rfl (by omega) (by omega)) rfl rfl ?_)
                    refine RX.cons rfl rfl (op_w (yw_assign rfl rfl) rfl rfl ?_)
                    refine RX.nil (XX.inBlock (V' := [(0, .slice y2.1 ((distinctF [] (fewF fs)).length) y2.2), (3, .bool true), (4, .slice y3.1 ((streams (distinctF [] (fewF fs))).length) y3.2), (5, .int .i64 ((i : Nat) : Int)), (6, .pointer (some ⟨gf, 0, none⟩)), (7, .bool true), (8, .bool (decide (f.second < Fct.stop (findF (distinctF [] (fewF fs)) s)))), (9, .int .i64 (((n : Nat) : Int) + 1)), (10, .int .i64 ((k : Nat) : Int))]) ⟨rfl, rfl, rfl, rfl, rfl, rfl, rfl, rfl, rfl, trivial⟩ ?_)
                    refine XX.next (V' := [(0, .slice y2.1 ((distinctF [] (fewF fs)).length) y2.2), (3, .bool true), (4, .slice y3.1 ((streams (distinctF [] (fewF fs))).length) y3.2), (5, .int .i64 ((i : Nat) : Int)), (6, .pointer (some ⟨gf, 0, none⟩)), (7, .bool true), (8, .bool (decide (f.second < Fct.stop (findF (distinctF [] (fewF fs)) s)))), (9, .int .i64 (((n : Nat) : Int) + 1)), (10, .int .i64 ((k : Nat) : Int))]) ⟨rfl, rfl, rfl, rfl, rfl, rfl, rfl, rfl, rfl, trivial⟩ ?_
                    refine CX.region ?_
                    refine RX.cons rfl rfl (op_w (yw_move rfl rfl) rfl rfl ?_)
                    refine RX.cons rfl rfl (op_w (yw_add rfl rfl rfl (by omega) (by omega)) rfl rfl ?_)
                    refine RX.cons rfl rfl (op_w (yw_assign rfl rfl) rfl rfl ?_)
                    refine RX.nil (XX.againP ([.blk gg (.cells (Fct.cells (findF (distinctF [] (fewF fs)) s)) 33 (0, 0)), .blk gs (.cells (Strm.cells s) 30 (0, 0))]) (k + 1, true, decide (f.second < Fct.stop (findF (distinctF [] (fewF fs)) s)), n + 1) (by dsimp only; omega) ⟨by dsimp only; omega, any_yes hs hb1 d47, any_or hs hb2 d80 (overs_eq (by omega) d82), count_yes hs (loops_yes (by omega) d91 c97) hnn⟩ ⟨rfl, rfl, rfl, rfl, rfl, rfl, rfl, rfl, rfl, trivial⟩ ((perm_pick 2 rfl).trans (List.Perm.cons _ ((perm_pick 2 rfl).trans (List.Perm.cons _ ((perm_pick 2 rfl).trans (List.Perm.cons _ ((perm_pick 2 rfl).trans (List.Perm.cons _ (List.Perm.refl _))))))))))
                  · refine CX.skip (XX.inBlock (V' := [(0, .slice y2.1 ((distinctF [] (fewF fs)).length) y2.2), (3, .bool true), (4, .slice y3.1 ((streams (distinctF [] (fewF fs))).length) y3.2), (5, .int .i64 ((i : Nat) : Int)), (6, .pointer (some ⟨gf, 0, none⟩)), (7, .bool true), (8, .bool (decide (f.second < Fct.stop (findF (distinctF [] (fewF fs)) s)))), (9, .int .i64 ((n : Nat) : Int)), (10, .int .i64 ((k : Nat) : Int))]) ⟨rfl, rfl, rfl, rfl, rfl, rfl, rfl, rfl, rfl, trivial⟩ ?_)
                    refine XX.next (V' := [(0, .slice y2.1 ((distinctF [] (fewF fs)).length) y2.2), (3, .bool true), (4, .slice y3.1 ((streams (distinctF [] (fewF fs))).length) y3.2), (5, .int .i64 ((i : Nat) : Int)), (6, .pointer (some ⟨gf, 0, none⟩)), (7, .bool true), (8, .bool (decide (f.second < Fct.stop (findF (distinctF [] (fewF fs)) s)))), (9, .int .i64 ((n : Nat) : Int)), (10, .int .i64 ((k : Nat) : Int))]) ⟨rfl, rfl, rfl, rfl, rfl, rfl, rfl, rfl, rfl, trivial⟩ ?_
                    refine CX.region ?_
                    refine RX.cons rfl rfl (op_w (yw_move rfl rfl) rfl rfl ?_)
                    refine RX.cons rfl rfl (op_w (yw_add rfl rfl rfl (by omega) (by omega)) rfl rfl ?_)
                    refine RX.cons rfl rfl (op_w (yw_assign rfl rfl) rfl rfl ?_)
                    refine RX.nil (XX.againP ([.blk gg (.cells (Fct.cells (findF (distinctF [] (fewF fs)) s)) 33 (0, 0)), .blk gs (.cells (Strm.cells s) 30 (0, 0))]) (k + 1, true, decide (f.second < Fct.stop (findF (distinctF [] (fewF fs)) s)), n) (by dsimp only; omega) ⟨by dsimp only; omega, any_yes hs hb1 d47, any_or hs hb2 d80 (overs_eq (by omega) d82), count_no hs (loops_rec c97) hnn⟩ ⟨rfl, rfl, rfl, rfl, rfl, rfl, rfl, rfl, rfl, trivial⟩ ((perm_pick 2 rfl).trans (List.Perm.cons _ ((perm_pick 2 rfl).trans (List.Perm.cons _ ((perm_pick 2 rfl).trans (List.Perm.cons _ ((perm_pick 2 rfl).trans (List.Perm.cons _ (List.Perm.refl _))))))))))
                · refine RX.skip rfl rfl rfl rfl rfl rfl rfl ?_
                  refine RX.skip rfl rfl rfl rfl rfl rfl rfl ?_
                  refine RX.skip rfl rfl rfl rfl rfl rfl rfl ?_
                  refine RX.skip rfl rfl rfl rfl rfl rfl rfl ?_
                  refine RX.skip rfl rfl rfl rfl rfl rfl rfl ?_
                  refine RX.cons rfl rfl (op_w (yw_pickF rfl rfl rfl) rfl rfl ?_)
                  refine RX.nil (XX.next (V' := [(0, .slice y2.1 ((distinctF [] (fewF fs)).length) y2.2), (3, .bool true), (4, .slice y3.1 ((streams (distinctF [] (fewF fs))).length) y3.2), (5, .int .i64 ((i : Nat) : Int)), (6, .pointer (some ⟨gf, 0, none⟩)), (7, .bool true), (8, .bool (decide (f.second < Fct.stop (findF (distinctF [] (fewF fs)) s)))), (9, .int .i64 ((n : Nat) : Int)), (10, .int .i64 ((k : Nat) : Int)), (97, .bool false)]) ⟨rfl, rfl, rfl, rfl, rfl, rfl, rfl, rfl, rfl, rfl, trivial⟩ ?_)
                  refine CX.condF rfl ?_
                  refine CX.skip (XX.inBlock (V' := [(0, .slice y2.1 ((distinctF [] (fewF fs)).length) y2.2), (3, .bool true), (4, .slice y3.1 ((streams (distinctF [] (fewF fs))).length) y3.2), (5, .int .i64 ((i : Nat) : Int)), (6, .pointer (some ⟨gf, 0, none⟩)), (7, .bool true), (8, .bool (decide (f.second < Fct.stop (findF (distinctF [] (fewF fs)) s)))), (9, .int .i64 ((n : Nat) : Int)), (10, .int .i64 ((k : Nat) : Int))]) ⟨rfl, rfl, rfl, rfl, rfl, rfl, rfl, rfl, rfl, trivial⟩ ?_)
                  refine XX.next (V' := [(0, .slice y2.1 ((distinctF [] (fewF fs)).length) y2.2), (3, .bool true), (4, .slice y3.1 ((streams (distinctF [] (fewF fs))).length) y3.2), (5, .int .i64 ((i : Nat) : Int)), (6, .pointer (some ⟨gf, 0, none⟩)), (7, .bool true), (8, .bool (decide (f.second < Fct.stop (findF (distinctF [] (fewF fs)) s)))), (9, .int .i64 ((n : Nat) : Int)), (10, .int .i64 ((k : Nat) : Int))]) ⟨rfl, rfl, rfl, rfl, rfl, rfl, rfl, rfl, rfl, trivial⟩ ?_
                  refine CX.region ?_
                  refine RX.cons rfl rfl (op_w (yw_move rfl rfl) rfl rfl ?_)
                  refine RX.cons rfl rfl (op_w (yw_add rfl rfl rfl (by omega) (by omega)) rfl rfl ?_)
                  refine RX.cons rfl rfl (op_w (yw_assign rfl rfl) rfl rfl ?_)
                  refine RX.nil (XX.againP ([.blk gg (.cells (Fct.cells (findF (distinctF [] (fewF fs)) s)) 33 (0, 0)), .blk gs (.cells (Strm.cells s) 30 (0, 0))]) (k + 1, true, decide (f.second < Fct.stop (findF (distinctF [] (fewF fs)) s)), n) (by dsimp only; omega) ⟨by dsimp only; omega, any_yes hs hb1 d47, any_or hs hb2 d80 (overs_eq (by omega) d82), count_no hs (loops_no (by omega) d91) hnn⟩ ⟨rfl, rfl, rfl, rfl, rfl, rfl, rfl, rfl, rfl, trivial⟩ ((perm_pick 2 rfl).trans (List.Perm.cons _ ((perm_pick 2 rfl).trans (List.Perm.cons _ ((perm_pick 2 rfl).trans (List.Perm.cons _ ((perm_pick 2 rfl).trans (List.Perm.cons _ (List.Perm.refl _))))))))))
              · refine DX.skip 4 31 (by kernel_rfl) rfl rfl rfl rfl rfl rfl rfl rfl ?_
                refine DX.skip 5 63 (by kernel_rfl) rfl rfl rfl rfl rfl rfl rfl rfl ?_
                refine DX.skip 6 127 (by kernel_rfl) rfl rfl rfl rfl rfl rfl rfl rfl ?_
                refine DX.skip 7 255 (by kernel_rfl) rfl rfl rfl rfl rfl rfl rfl rfl ?_
                refine DX.skip 8 511 (by kernel_rfl) rfl rfl rfl rfl rfl rfl rfl rfl ?_
                refine DX.takeWG 9 1023 (by kernel_rfl) rfl rfl rfl rfl rfl rfl rfl rfl (yw_pickF rfl rfl rfl) ?_
                refine DX.takeW 10 2047 (by kernel_rfl) rfl rfl rfl rfl rfl (yw_pickF rfl rfl rfl) ?_
                refine DX.takeW 11 4095 (by kernel_rfl) rfl rfl rfl rfl rfl (yw_assign rfl rfl) ?_
                refine DX.done (by kernel_rfl) (XX.next (V' := [(0, .slice y2.1 ((distinctF [] (fewF fs)).length) y2.2), (3, .bool true), (4, .slice y3.1 ((streams (distinctF [] (fewF fs))).length) y3.2), (5, .int .i64 ((i : Nat) : Int)), (6, .pointer (some ⟨gf, 0, none⟩)), (7, .bool true), (8, .bool false), (9, .int .i64 ((n : Nat) : Int)), (10, .int .i64 ((k : Nat) : Int)), (11, .pointer (some ⟨gs, 0, none⟩)), (14, .bool (earlier (findF (distinctF [] (fewF fs)) s) f))]) ⟨rfl, rfl, rfl, rfl, rfl, rfl, rfl, rfl, rfl, rfl, rfl, trivial⟩ ?_)
                refine CX.seq ?_
                refine CX.region ?_
                refine RX.cons rfl rfl (op_w (yw_move rfl rfl) rfl rfl ?_)
                refine RX.cons rfl rfl (op_w (yw_move rfl rfl) rfl rfl ?_)
                refine RX.split (t := 91) (b := (earlier (findF (distinctF [] (fewF fs)) s) f)) rfl (fun d91 => ?_) (fun d91 => ?_)
                · refine RX.consG rfl rfl rfl rfl rfl (op_w (yw_fieldAddr rfl fld_30_3 rfl) rfl rfl ?_)
                  refine RX.consG rfl rfl rfl rfl rfl (op_yld (y_load (i := 1) rfl rfl one_3 rfl rfl) rfl rfl ?_)
                  refine RX.consG rfl rfl rfl rfl rfl (op_w (yw_fieldAddr rfl fld_33_7 rfl) rfl rfl ?_)
                  refine RX.consG rfl rfl rfl rfl rfl (op_yld (y_load (i := 2) rfl rfl one_3 rfl rfl) rfl rfl ?_)
                  refine RX.consG rfl rfl rfl rfl rfl (op_w (yw_eql rfl rfl rfl) rfl rfl ?_)
                  refine RX.cons rfl rfl (op_w (yw_pickT rfl rfl rfl) rfl rfl ?_)
                  refine RX.nil (XX.next (V' := [(0, .slice y2.1 ((distinctF [] (fewF fs)).length) y2.2), (3, .bool true), (4, .slice y3.1 ((streams (distinctF [] (fewF fs))).length) y3.2), (5, .int .i64 ((i : Nat) : Int)), (6, .pointer (some ⟨gf, 0, none⟩)), (7, .bool true), (8, .bool false), (9, .int .i64 ((n : Nat) : Int)), (10, .int .i64 ((k : Nat) : Int)), (97, .bool (decide (s.recording = f.recording)))]) ⟨rfl, rfl, rfl, rfl, rfl, rfl, rfl, rfl, rfl, rfl, trivial⟩ ?_)
                  refine CX.condD (p := s.recording = f.recording) rfl (fun c97 => ?_) (fun c97 => ?_)
                  · refine CX.region ?_
                    refine RX.cons rfl rfl (op_w (yw_move rfl rfl) rfl rfl ?_)
                    refine RX.cons rfl rfl (op_w (yw_add rfl rfl rfl (by omega) (by omega)) rfl rfl ?_)
                    refine RX.cons rfl rfl (op_w (yw_assign rfl rfl) rfl rfl ?_)
                    refine RX.nil (XX.inBlock (V' := [(0, .slice y2.1 ((distinctF [] (fewF fs)).length) y2.2), (3, .bool true), (4, .slice y3.1 ((streams (distinctF [] (fewF fs))).length) y3.2), (5, .int .i64 ((i : Nat) : Int)), (6, .pointer (some ⟨gf, 0, none⟩)), (7, .bool true), (8, .bool false), (9, .int .i64 (((n : Nat) : Int) + 1)), (10, .int .i64 ((k : Nat) : Int))]) ⟨rfl, rfl, rfl, rfl, rfl, rfl, rfl, rfl, rfl, trivial⟩ ?_)
                    refine XX.next (V' := [(0, .slice y2.1 ((distinctF [] (fewF fs)).length) y2.2), (3, .bool true), (4, .slice y3.1 ((streams (distinctF [] (fewF fs))).length) y3.2), (5, .int .i64 ((i : Nat) : Int)), (6, .pointer (some ⟨gf, 0, none⟩)), (7, .bool true), (8, .bool false), (9, .int .i64 (((n : Nat) : Int) + 1)), (10, .int .i64 ((k : Nat) : Int))]) ⟨rfl, rfl, rfl, rfl, rfl, rfl, rfl, rfl, rfl, trivial⟩ ?_
                    refine CX.region ?_
                    refine RX.cons rfl rfl (op_w (yw_move rfl rfl) rfl rfl ?_)
                    refine RX.cons rfl rfl (op_w (yw_add rfl rfl rfl (by omega) (by omega)) rfl rfl ?_)
                    refine RX.cons rfl rfl (op_w (yw_assign rfl rfl) rfl rfl ?_)
                    refine RX.nil (XX.againP ([.blk gg (.cells (Fct.cells (findF (distinctF [] (fewF fs)) s)) 33 (0, 0)), .blk gs (.cells (Strm.cells s) 30 (0, 0))]) (k + 1, true, false, n + 1) (by dsimp only; omega) ⟨by dsimp only; omega, any_yes hs hb1 d47, any_or hs hb2 d80 (overs_no (by omega) d82), count_yes hs (loops_yes (by omega) d91 c97) hnn⟩ ⟨rfl, rfl, rfl, rfl, rfl, rfl, rfl, rfl, rfl, trivial⟩ ((perm_pick 2 rfl).trans (List.Perm.cons _ ((perm_pick 2 rfl).trans (List.Perm.cons _ ((perm_pick 2 rfl).trans (List.Perm.cons _ ((perm_pick 2 rfl).trans (List.Perm.cons _ (List.Perm.refl _))))))))))
                  · refine CX.skip (XX.inBlock (V' := [(0, .slice y2.1 ((distinctF [] (fewF fs)).length) y2.2), (3, .bool true), (4, .slice y3.1 ((streams (distinctF [] (fewF fs))).length) y3.2), (5, .int .i64 ((i : Nat) : Int)), (6, .pointer (some ⟨gf, 0, none⟩)), (7, .bool true), (8, .bool false), (9, .int .i64 ((n : Nat) : Int)), (10, .int .i64 ((k : Nat) : Int))]) ⟨rfl, rfl, rfl, rfl, rfl, rfl, rfl, rfl, rfl, trivial⟩ ?_)
                    refine XX.next (V' := [(0, .slice y2.1 ((distinctF [] (fewF fs)).length) y2.2), (3, .bool true), (4, .slice y3.1 ((streams (distinctF [] (fewF fs))).length) y3.2), (5, .int .i64 ((i : Nat) : Int)), (6, .pointer (some ⟨gf, 0, none⟩)), (7, .bool true), (8, .bool false), (9, .int .i64 ((n : Nat) : Int)), (10, .int .i64 ((k : Nat) : Int))]) ⟨rfl, rfl, rfl, rfl, rfl, rfl, rfl, rfl, rfl, trivial⟩ ?_
                    refine CX.region ?_
                    refine RX.cons rfl rfl (op_w (yw_move rfl rfl) rfl rfl ?_)
                    refine RX.cons rfl rfl (op_w (yw_add rfl rfl rfl (by omega) (by omega)) rfl rfl ?_)
                    refine RX.cons rfl rfl (op_w (yw_assign rfl rfl) rfl rfl ?_)
                    refine RX.nil (XX.againP ([.blk gg (.cells (Fct.cells (findF (distinctF [] (fewF fs)) s)) 33 (0, 0)), .blk gs (.cells (Strm.cells s) 30 (0, 0))]) (k + 1, true, false, n) (by dsimp only; omega) ⟨by dsimp only; omega, any_yes hs hb1 d47, any_or hs hb2 d80 (overs_no (by omega) d82), count_no hs (loops_rec c97) hnn⟩ ⟨rfl, rfl, rfl, rfl, rfl, rfl, rfl, rfl, rfl, trivial⟩ ((perm_pick 2 rfl).trans (List.Perm.cons _ ((perm_pick 2 rfl).trans (List.Perm.cons _ ((perm_pick 2 rfl).trans (List.Perm.cons _ ((perm_pick 2 rfl).trans (List.Perm.cons _ (List.Perm.refl _))))))))))
                · refine RX.skip rfl rfl rfl rfl rfl rfl rfl ?_
                  refine RX.skip rfl rfl rfl rfl rfl rfl rfl ?_
                  refine RX.skip rfl rfl rfl rfl rfl rfl rfl ?_
                  refine RX.skip rfl rfl rfl rfl rfl rfl rfl ?_
                  refine RX.skip rfl rfl rfl rfl rfl rfl rfl ?_
                  refine RX.cons rfl rfl (op_w (yw_pickF rfl rfl rfl) rfl rfl ?_)
                  refine RX.nil (XX.next (V' := [(0, .slice y2.1 ((distinctF [] (fewF fs)).length) y2.2), (3, .bool true), (4, .slice y3.1 ((streams (distinctF [] (fewF fs))).length) y3.2), (5, .int .i64 ((i : Nat) : Int)), (6, .pointer (some ⟨gf, 0, none⟩)), (7, .bool true), (8, .bool false), (9, .int .i64 ((n : Nat) : Int)), (10, .int .i64 ((k : Nat) : Int)), (97, .bool false)]) ⟨rfl, rfl, rfl, rfl, rfl, rfl, rfl, rfl, rfl, rfl, trivial⟩ ?_)
                  refine CX.condF rfl ?_
                  refine CX.skip (XX.inBlock (V' := [(0, .slice y2.1 ((distinctF [] (fewF fs)).length) y2.2), (3, .bool true), (4, .slice y3.1 ((streams (distinctF [] (fewF fs))).length) y3.2), (5, .int .i64 ((i : Nat) : Int)), (6, .pointer (some ⟨gf, 0, none⟩)), (7, .bool true), (8, .bool false), (9, .int .i64 ((n : Nat) : Int)), (10, .int .i64 ((k : Nat) : Int))]) ⟨rfl, rfl, rfl, rfl, rfl, rfl, rfl, rfl, rfl, trivial⟩ ?_)
                  refine XX.next (V' := [(0, .slice y2.1 ((distinctF [] (fewF fs)).length) y2.2), (3, .bool true), (4, .slice y3.1 ((streams (distinctF [] (fewF fs))).length) y3.2), (5, .int .i64 ((i : Nat) : Int)), (6, .pointer (some ⟨gf, 0, none⟩)), (7, .bool true), (8, .bool false), (9, .int .i64 ((n : Nat) : Int)), (10, .int .i64 ((k : Nat) : Int))]) ⟨rfl, rfl, rfl, rfl, rfl, rfl, rfl, rfl, rfl, trivial⟩ ?_
                  refine CX.region ?_
                  refine RX.cons rfl rfl (op_w (yw_move rfl rfl) rfl rfl ?_)
                  refine RX.cons rfl rfl (op_w (yw_add rfl rfl rfl (by omega) (by omega)) rfl rfl ?_)
                  refine RX.cons rfl rfl (op_w (yw_assign rfl rfl) rfl rfl ?_)
                  refine RX.nil (XX.againP ([.blk gg (.cells (Fct.cells (findF (distinctF [] (fewF fs)) s)) 33 (0, 0)), .blk gs (.cells (Strm.cells s) 30 (0, 0))]) (k + 1, true, false, n) (by dsimp only; omega) ⟨by dsimp only; omega, any_yes hs hb1 d47, any_or hs hb2 d80 (overs_no (by omega) d82), count_no hs (loops_no (by omega) d91) hnn⟩ ⟨rfl, rfl, rfl, rfl, rfl, rfl, rfl, rfl, rfl, trivial⟩ ((perm_pick 2 rfl).trans (List.Perm.cons _ ((perm_pick 2 rfl).trans (List.Perm.cons _ ((perm_pick 2 rfl).trans (List.Perm.cons _ ((perm_pick 2 rfl).trans (List.Perm.cons _ (List.Perm.refl _))))))))))
          · refine RX.consG rfl rfl rfl rfl rfl (op_w (yw_fieldAddr rfl fld_33_4 rfl) rfl rfl ?_)
            refine RX.consG rfl rfl rfl rfl rfl (op_yld (y_load (i := 0) rfl rfl one_3 rfl rfl) rfl rfl ?_)
            refine RX.consG rfl rfl rfl rfl rfl (op_w (yw_fieldAddr rfl fld_33_4 rfl) rfl rfl ?_)
            refine RX.consG rfl rfl rfl rfl rfl (op_yld (y_load (i := 2) rfl rfl one_3 rfl rfl) rfl rfl ?_)
            refine RX.consG rfl rfl rfl rfl rfl (op_w (yw_eql rfl rfl rfl) rfl rfl ?_)
            refine RX.consG rfl rfl rfl rfl rfl (op_w (yw_move rfl rfl) rfl rfl ?_)
            refine RX.splitD (t := 71) (p := (findF (distinctF [] (fewF fs)) s).second = f.second) rfl (fun d71 => ?_) (fun d71 => ?_)
            · refine RX.consG rfl rfl rfl rfl rfl (op_w (yw_fieldAddr rfl fld_33_1 rfl) rfl rfl ?_)
              refine RX.consG rfl rfl rfl rfl rfl (op_yld (y_load (i := 0) rfl rfl one_3 rfl rfl) rfl rfl ?_)
              refine RX.consG rfl rfl rfl rfl rfl (op_w (yw_fieldAddr rfl fld_33_1 rfl) rfl rfl ?_)
              refine RX.consG rfl rfl rfl rfl rfl (op_yld (y_load (i := 2) rfl rfl one_3 rfl rfl) rfl rfl ?_)
              refine RX.consG rfl rfl rfl rfl rfl (op_w (yw_lss rfl rfl rfl) rfl rfl ?_)
              refine RX.consG rfl rfl rfl rfl rfl (op_w (yw_pickT rfl rfl rfl) rfl rfl ?_)
              refine RX.cons rfl rfl (op_w (yw_pickF rfl rfl rfl) rfl rfl ?_)
              refine RX.cons rfl rfl (op_w (yw_assign rfl rfl) rfl rfl ?_)
              refine RX.know (t := 14) (u := .bool (earlier (findF (distinctF [] (fewF fs)) s) f)) rfl (congrArg Value.bool (earlier_id d65 d71).symm) ?_
              refine RX.nil (XX.next (V' := [(0, .slice y2.1 ((distinctF [] (fewF fs)).length) y2.2), (3, .bool true), (4, .slice y3.1 ((streams (distinctF [] (fewF fs))).length) y3.2), (5, .int .i64 ((i : Nat) : Int)), (6, .pointer (some ⟨gf, 0, none⟩)), (7, .bool true), (8, .bool b2), (9, .int .i64 ((n : Nat) : Int)), (10, .int .i64 ((k : Nat) : Int)), (11, .pointer (some ⟨gs, 0, none⟩)), (12, .pointer (some ⟨gg, 0, none⟩)), (14, .bool (earlier (findF (distinctF [] (fewF fs)) s) f))]) ⟨rfl, rfl, rfl, rfl, rfl, rfl, rfl, rfl, rfl, rfl, rfl, rfl, trivial⟩ ?_)
              refine CX.seq ?_
              refine CX.draw 12 (by kernel_rfl) ?_
              refine DX.takeW 0 1 (by kernel_rfl) rfl rfl rfl rfl rfl (yw_move rfl rfl) ?_
              refine DX.takeW 1 3 (by kernel_rfl) rfl rfl rfl rfl rfl (yw_move rfl rfl) ?_
              refine DX.split (t := 80) (b := b2) rfl (fun d80 => ?_) (fun d80 => ?_)
              · refine DX.skip 2 7 (by kernel_rfl) rfl rfl rfl rfl rfl rfl rfl rfl ?_
                refine DX.skip 3 15 (by kernel_rfl) rfl rfl rfl rfl rfl rfl rfl rfl ?_
                refine DX.skip 4 31 (by kernel_rfl) rfl rfl rfl rfl rfl rfl rfl rfl ?_
                refine DX.skip 5 63 (by kernel_rfl) rfl rfl rfl rfl rfl rfl rfl rfl ?_
                refine DX.skip 6 127 (by kernel_rfl) rfl rfl rfl rfl rfl rfl rfl rfl ?_
                refine DX.skip 7 255 (by kernel_rfl) rfl rfl rfl rfl rfl rfl rfl rfl ?_
                refine DX.skip 8 511 (by kernel_rfl) rfl rfl rfl rfl rfl rfl rfl rfl ?_
                refine DX.skip 9 1023 (by kernel_rfl) rfl rfl rfl rfl rfl rfl rfl rfl ?_
                refine DX.takeW 10 2047 (by kernel_rfl) rfl rfl rfl rfl rfl (yw_pickT rfl rfl rfl) ?_
                refine DX.takeW 11 4095 (by kernel_rfl) rfl rfl rfl rfl rfl (yw_assign rfl rfl) ?_
                refine DX.done (by kernel_rfl) (XX.next (V' := [(0, .slice y2.1 ((distinctF [] (fewF fs)).length) y2.2), (3, .bool true), (4, .slice y3.1 ((streams (distinctF [] (fewF fs))).length) y3.2), (5, .int .i64 ((i : Nat) : Int)), (6, .pointer (some ⟨gf, 0, none⟩)), (7, .bool true), (8, .bool true), (9, .int .i64 ((n : Nat) : Int)), (10, .int .i64 ((k : Nat) : Int)), (11, .pointer (some ⟨gs, 0, none⟩)), (14, .bool (earlier (findF (distinctF [] (fewF fs)) s) f))]) ⟨rfl, rfl, rfl, rfl, rfl, rfl, rfl, rfl, rfl, rfl, rfl, trivial⟩ ?_)
                refine CX.seq ?_
                refine CX.region ?_
                refine RX.cons rfl rfl (op_w (yw_move rfl rfl) rfl rfl ?_)
                refine RX.cons rfl rfl (op_w (yw_move rfl rfl) rfl rfl ?_)
                refine RX.split (t := 91) (b := (earlier (findF (distinctF [] (fewF fs)) s) f)) rfl (fun d91 => ?_) (fun d91 => ?_)
                · refine RX.consG rfl rfl rfl rfl rfl (op_w (yw_fieldAddr rfl fld_30_3 rfl) rfl rfl ?_)
                  refine RX.consG rfl rfl rfl rfl rfl (op_yld (y_load (i := 1) rfl rfl one_3 rfl rfl) rfl rfl ?_)
                  refine RX.consG rfl rfl rfl rfl rfl (op_w (yw_fieldAddr rfl fld_33_7 rfl) rfl rfl ?_)
                  refine RX.consG rfl rfl rfl rfl rfl (op_yld (y_load (i := 2) rfl rfl one_3 rfl rfl) rfl rfl ?_)
                  refine RX.consG rfl rfl rfl rfl rfl (op_w (yw_eql rfl rfl rfl) rfl rfl ?_)
                  refine RX.cons rfl rfl (op_w (yw_pickT rfl rfl rfl) rfl rfl ?_)
                  refine RX.nil (XX.next (V' := [(0, .slice y2.1 ((distinctF [] (fewF fs)).length) y2.2), (3, .bool true), (4, .slice y3.1 ((streams (distinctF [] (fewF fs))).length) y3.2), (5, .int .i64 ((i : Nat) : Int)), (6, .pointer (some ⟨gf, 0, none⟩)), (7, .bool true), (8, .bool true), (9, .int .i64 ((n : Nat) : Int)), (10, .int .i64 ((k : Nat) : Int)), (97, .bool (decide (s.recording = f.recording)))]) ⟨rfl, rfl, rfl, rfl, rfl, rfl, rfl, rfl, rfl, rfl, trivial⟩ ?_)
                  refine CX.condD (p := s.recording = f.recording) rfl (fun c97 => ?_) (fun c97 => ?_)
                  · refine CX.region ?_
                    refine RX.cons rfl rfl (op_w (yw_move rfl rfl) rfl rfl ?_)
                    refine RX.cons rfl rfl (op_w (yw_add rfl rfl rfl (by omega) (by omega)) rfl rfl ?_)
                    refine RX.cons rfl rfl (op_w (yw_assign rfl rfl) rfl rfl ?_)
                    refine RX.nil (XX.inBlock (V' := [(0, .slice y2.1 ((distinctF [] (fewF fs)).length) y2.2), (3, .bool true), (4, .slice y3.1 ((streams (distinctF [] (fewF fs))).length) y3.2), (5, .int .i64 ((i : Nat) : Int)), (6, .pointer (some ⟨gf, 0, none⟩)), (7, .bool true), (8, .bool true), (9, .int .i64 (((n : Nat) : Int) + 1)), (10, .int .i64 ((k : Nat) : Int))]) ⟨rfl, rfl, rfl, rfl, rfl, rfl, rfl, rfl, rfl, trivial⟩ ?_)
                    refine XX.next (V' := [(0, .slice y2.1 ((distinctF [] (fewF fs)).length) y2.2), (3, .bool true), (4, .slice y3.1 ((streams (distinctF [] (fewF fs))).length) y3.2), (5, .int .i64 ((i : Nat) : Int)), (6, .pointer (some ⟨gf, 0, none⟩)), (7, .bool true), (8, .bool true), (9, .int .i64 (((n : Nat) : Int) + 1)), (10, .int .i64 ((k : Nat) : Int))]) ⟨rfl, rfl, rfl, rfl, rfl, rfl, rfl, rfl, rfl, trivial⟩ ?_
                    refine CX.region ?_
                    refine RX.cons rfl rfl (op_w (yw_move rfl rfl) rfl rfl ?_)
                    refine RX.cons rfl rfl (op_w (yw_add rfl rfl rfl (by omega) (by omega)) rfl rfl ?_)
                    refine RX.cons rfl rfl (op_w (yw_assign rfl rfl) rfl rfl ?_)
                    refine RX.nil (XX.againP ([.blk gg (.cells (Fct.cells (findF (distinctF [] (fewF fs)) s)) 33 (0, 0)), .blk gs (.cells (Strm.cells s) 30 (0, 0))]) (k + 1, true, true, n + 1) (by dsimp only; omega) ⟨by dsimp only; omega, any_yes hs hb1 d47, any_yes hs hb2 d80, count_yes hs (loops_yes (by omega) d91 c97) hnn⟩ ⟨rfl, rfl, rfl, rfl, rfl, rfl, rfl, rfl, rfl, trivial⟩ ((perm_pick 2 rfl).trans (List.Perm.cons _ ((perm_pick 2 rfl).trans (List.Perm.cons _ ((perm_pick 2 rfl).trans (List.Perm.cons _ ((perm_pick 2 rfl).trans (List.Perm.cons _ (List.Perm.refl _))))))))))
                  · refine CX.skip (XX.inBlock (V' := [(0, .slice y2.1 ((distinctF [] (fewF fs)).length) y2.2), (3, .bool true), (4, .slice y3.1 ((streams (distinctF [] (fewF fs))).length) y3.2), (5, .int .i64 ((i : Nat) : Int)), (6, .pointer (some ⟨gf, 0, none⟩)), (7, .bool true), (8, .bool true), (9, .int .i64 ((n : Nat) : Int)), (10, .int .i64 ((k : Nat) : Int))]) ⟨rfl, rfl, rfl, rfl, rfl, rfl, rfl, rfl, rfl, trivial⟩ ?_)
                    refine XX.next (V' := [(0, .slice y2.1 ((distinctF [] (fewF fs)).length) y2.2), (3, .bool true), (4, .slice y3.1 ((streams (distinctF [] (fewF fs))).length) y3.2), (5, .int .i64 ((i : Nat) : Int)), (6, .pointer (some ⟨gf, 0, none⟩)), (7, .bool true), (8, .bool true), (9, .int .i64 ((n : Nat) : Int)), (10, .int .i64 ((k : Nat) : Int))]) ⟨rfl, rfl, rfl, rfl, rfl, rfl, rfl, rfl, rfl, trivial⟩ ?_
                    refine CX.region ?_
                    refine RX.cons rfl rfl (op_w (yw_move rfl rfl) rfl rfl ?_)
                    refine RX.cons rfl rfl (op_w (yw_add rfl rfl rfl (by omega) (by omega)) rfl rfl ?_)
                    refine RX.cons rfl rfl (op_w (yw_assign rfl rfl) rfl rfl ?_)
                    refine RX.nil (XX.againP ([.blk gg (.cells (Fct.cells (findF (distinctF [] (fewF fs)) s)) 33 (0, 0)), .blk gs (.cells (Strm.cells s) 30 (0, 0))]) (k + 1, true, true, n) (by dsimp only; omega) ⟨by dsimp only; omega, any_yes hs hb1 d47, any_yes hs hb2 d80, count_no hs (loops_rec c97) hnn⟩ ⟨rfl, rfl, rfl, rfl, rfl, rfl, rfl, rfl, rfl, trivial⟩ ((perm_pick 2 rfl).trans (List.Perm.cons _ ((perm_pick 2 rfl).trans (List.Perm.cons _ ((perm_pick 2 rfl).trans (List.Perm.cons _ ((perm_pick 2 rfl).trans (List.Perm.cons _ (List.Perm.refl _))))))))))
                · refine RX.skip rfl rfl rfl rfl rfl rfl rfl ?_
                  refine RX.skip rfl rfl rfl rfl rfl rfl rfl ?_
                  refine RX.skip rfl rfl rfl rfl rfl rfl rfl ?_
                  refine RX.skip rfl rfl rfl rfl rfl rfl rfl ?_
                  refine RX.skip rfl rfl rfl rfl rfl rfl rfl ?_
                  refine RX.cons rfl rfl (op_w (yw_pickF rfl rfl rfl) rfl rfl ?_)
                  refine RX.nil (XX.next (V' := [(0, .slice y2.1 ((distinctF [] (fewF fs)).length) y2.2), (3, .bool true), (4, .slice y3.1 ((streams (distinctF [] (fewF fs))).length) y3.2), (5, .int .i64 ((i : Nat) : Int)), (6, .pointer (some ⟨gf, 0, none⟩)), (7, .bool true), (8, .bool true), (9, .int .i64 ((n : Nat) : Int)), (10, .int .i64 ((k : Nat) : Int)), (97, .bool false)]) ⟨rfl, rfl, rfl, rfl, rfl, rfl, rfl, rfl, rfl, rfl, trivial⟩ ?_)
                  refine CX.condF rfl ?_
                  refine CX.skip (XX.inBlock (V' := [(0, .slice y2.1 ((distinctF [] (fewF fs)).length) y2.2), (3, .bool true), (4, .slice y3.1 ((streams (distinctF [] (fewF fs))).length) y3.2), (5, .int .i64 ((i : Nat) : Int)), (6, .pointer (some ⟨gf, 0, none⟩)), (7, .bool true), (8, .bool true), (9, .int .i64 ((n : Nat) : Int)), (10, .int .i64 ((k : Nat) : Int))]) ⟨rfl, rfl, rfl, rfl, rfl, rfl, rfl, rfl, rfl, trivial⟩ ?_)
                  refine XX.next (V' := [(0, .slice y2.1 ((distinctF [] (fewF fs)).length) y2.2), (3, .bool true), (4, .slice y3.1 ((streams (distinctF [] (fewF fs))).length) y3.2), (5, .int .i64 ((i : Nat) : Int)), (6, .pointer (some ⟨gf, 0, none⟩)), (7, .bool true), (8, .bool true), (9, .int .i64 ((n : Nat) : Int)), (10, .int .i64 ((k : Nat) : Int))]) ⟨rfl, rfl, rfl, rfl, rfl, rfl, rfl, rfl, rfl, trivial⟩ ?_
                  refine CX.region ?_
                  refine RX.cons rfl rfl (op_w (yw_move rfl rfl) rfl rfl ?_)
                  refine RX.cons rfl rfl (op_w (yw_add rfl rfl rfl (by omega) (by omega)) rfl rfl ?_)
                  refine RX.cons rfl rfl (op_w (yw_assign rfl rfl) rfl rfl ?_)
                  refine RX.nil (XX.againP ([.blk gg (.cells (Fct.cells (findF (distinctF [] (fewF fs)) s)) 33 (0, 0)), .blk gs (.cells (Strm.cells s) 30 (0, 0))]) (k + 1, true, true, n) (by dsimp only; omega) ⟨by dsimp only; omega, any_yes hs hb1 d47, any_yes hs hb2 d80, count_no hs (loops_no (by omega) d91) hnn⟩ ⟨rfl, rfl, rfl, rfl, rfl, rfl, rfl, rfl, rfl, trivial⟩ ((perm_pick 2 rfl).trans (List.Perm.cons _ ((perm_pick 2 rfl).trans (List.Perm.cons _ ((perm_pick 2 rfl).trans (List.Perm.cons _ ((perm_pick 2 rfl).trans (List.Perm.cons _ (List.Perm.refl _))))))))))
              · refine DX.takeWG 2 7 (by kernel_rfl) rfl rfl rfl rfl rfl rfl rfl rfl (yw_move rfl rfl) ?_
                refine DX.takeWG 3 15 (by kernel_rfl) rfl rfl rfl rfl rfl rfl rfl rfl (yw_move rfl rfl) ?_
                refine DX.split (t := 82) (b := (earlier (findF (distinctF [] (fewF fs)) s) f)) rfl (fun d82 => ?_) (fun d82 => ?_)
                · refine DX.takeWG 4 31 (by kernel_rfl) rfl rfl rfl rfl rfl rfl rfl rfl (yw_fieldAddr rfl fld_33_4 rfl) ?_
                  refine DX.takeG 5 63 (by kernel_rfl) rfl rfl rfl rfl rfl rfl rfl rfl (List.Sublist.refl _) (y_load (i := 2) rfl rfl one_3 rfl rfl) ?_
                  refine DX.takeG 6 127 (by kernel_rfl) rfl rfl rfl rfl rfl rfl rfl rfl (List.Sublist.refl _) (y_loadA (i := 0) rfl rfl agg_33 rfl rfl) ?_
                  refine DX.stepG 7 255 (by kernel_rfl) rfl rfl rfl rfl rfl rfl (op_callV (v := .int .i64 (Fct.stop (findF (distinctF [] (fewF fs)) s))) rfl rfl rfl rfl rfl ent_16 (fun w _ => w_refEnd (findF (distinctF [] (fewF fs)) s) hh.s0 hh.s1 hh.a0 hh.a1) (DXs.mk (List.Sublist.refl _) ?_))
                  refine DX.takeWG 8 511 (by kernel_rfl) rfl rfl rfl rfl rfl rfl rfl rfl (yw_lss rfl rfl rfl) ?_
                  refine DX.takeWG 9 1023 (by kernel_rfl) rfl rfl rfl rfl rfl rfl rfl rfl (yw_pickT rfl rfl rfl) ?_
                  refine DX.takeW 10 2047 (by kernel_rfl) rfl rfl rfl rfl rfl (yw_pickF rfl rfl rfl) ?_
                  refine DX.takeW 11 4095 (by kernel_rfl) rfl rfl rfl rfl rfl (yw_assign rfl rfl) ?_
                  refine DX.done (by kernel_rfl) (XX.next (V' := [(0, .slice y2.1 ((distinctF [] (fewF fs)).length) y2.2), (3, .bool true), (4, .slice y3.1 ((streams (distinctF [] (fewF fs))).length) y3.2), (5, .int .i64 ((i : Nat) : Int)), (6, .pointer (some ⟨gf, 0, none⟩)), (7, .bool true), (8, .bool (decide (f.second < Fct.stop (findF (distinctF [] (fewF fs)) s)))), (9, .int .i64 ((n : Nat) : Int)), (10, .int .i64 ((k : Nat) : Int)), (11, .pointer (some ⟨gs, 0, none⟩)), (14, .bool (earlier (findF (distinctF [] (fewF fs)) s) f))]) ⟨rfl, rfl, rfl, rfl, rfl, rfl, rfl, rfl, rfl, rfl, rfl, trivial⟩ ?_)
                  refine CX.seq ?_
                  refine CX.region ?_
                  refine RX.cons rfl rfl (op_w (yw_move rfl rfl) rfl rfl ?_)
                  refine RX.cons rfl rfl (op_w (yw_move rfl rfl) rfl rfl ?_)
                  refine RX.split (t := 91) (b := (earlier (findF (distinctF [] (fewF fs)) s) f)) rfl (fun d91 => ?_) (fun d91 => ?_)
                  · refine RX.consG rfl rfl rfl rfl rfl (op_w (yw_fieldAddr rfl fld_30_3 rfl) rfl rfl ?_)
                    refine RX.consG rfl rfl rfl rfl rfl (op_yld (y_load (i := 1) rfl rfl one_3 rfl rfl) rfl rfl ?_)
                    refine RX.consG rfl rfl rfl rfl rfl (op_w (yw_fieldAddr rfl fld_33_7 rfl) rfl rfl ?_)
                    refine RX.consG rfl rfl rfl rfl rfl (op_yld (y_load (i := 2) rfl rfl one_3 rfl rfl) rfl rfl ?_)
                    refine RX.consG rfl rfl rfl rfl rfl (op_w (yw_eql rfl rfl rfl) rfl rfl ?_)
                    refine RX.cons rfl rfl (op_w (yw_pickT rfl rfl rfl) rfl rfl ?_)
                    refine RX.nil (XX.next (V' := [(0, .slice y2.1 ((distinctF [] (fewF fs)).length) y2.2), (3, .bool true), (4, .slice y3.1 ((streams (distinctF [] (fewF fs))).length) y3.2), (5, .int .i64 ((i : Nat) : Int)), (6, .pointer (some ⟨gf, 0, none⟩)), (7, .bool true), (8, .bool (decide (f.second < Fct.stop (findF (distinctF [] (fewF fs)) s)))), (9, .int .i64 ((n : Nat) : Int)), (10, .int .i64 ((k : Nat) : Int)), (97, .bool (decide (s.recording = f.recording)))]) ⟨rfl, rfl, rfl, rfl, rfl, rfl, rfl, rfl, rfl, rfl, trivial⟩ ?_)
                    refine CX.condD (p := s.recording = f.recording) rfl (fun c97 => ?_) (fun c97 => ?_)
                    · refine CX.region ?_
                      refine RX.cons rfl rfl (op_w (yw_move rfl rfl) rfl rfl ?_)
                      refine RX.cons rfl rfl (op_w (yw_add rfl rfl rfl (by omega) (by omega)) rfl rfl ?_)
                      refine RX.cons rfl rfl (op_w (yw_assign rfl rfl) rfl rfl ?_)
                      refine RX.nil (XX.inBlock (V' := [(0, .slice y2.1 ((distinctF [] (fewF fs)).length) y2.2), (3, .bool true), (4, .slice y3.1 ((streams (distinctF [] (fewF fs))).length) y3.2), (5, .int .i64 ((i : Nat) : Int)), (6, .pointer (some ⟨gf, 0, none⟩)), (7, .bool true), (8, .bool (decide (f.second < Fct.stop (findF (distinctF [] (fewF fs)) s)))), (9, .int .i64 (((n : Nat) : Int) + 1)), (10, .int .i64 ((k : Nat) : Int))]) ⟨rfl, rfl, rfl, rfl, rfl, rfl, rfl, rfl, rfl, trivial⟩ ?_)
                      refine XX.next (V' := [(0, .slice y2.1 ((distinctF [] (fewF fs)).length) y2.2), (3, .bool true), (4, .slice y3.1 ((streams (distinctF [] (fewF fs))).length) y3.2), (5, .int .i64 ((i : Nat) : Int)), (6, .pointer (some ⟨gf, 0, none⟩)), (7, .bool true), (8, .bool (decide (f.second < Fct.stop (findF (distinctF [] (fewF fs)) s)))), (9, .int .i64 (((n : Nat) : Int) + 1)), (10, .int .i64 ((k : Nat) : Int))]) ⟨rfl, rfl, rfl, rfl, rfl, rfl, rfl, rfl, rfl, trivial⟩ ?_
                      refine CX.region ?_
                      refine RX.cons rfl rfl (op_w (yw_move rfl rfl) rfl rfl ?_)
                      refine RX.cons rfl rfl (op_w (yw_add rfl rfl rfl (by omega) (by omega)) rfl rfl ?_)
                      refine RX.cons rfl rfl (op_w (yw_assign rfl rfl) rfl rfl ?_)
                      refine RX.nil (XX.againP ([.blk gg (.cells (Fct.cells (findF (distinctF [] (fewF fs)) s)) 33 (0, 0)), .blk gs (.cells (Strm.cells s) 30 (0, 0))]) (k + 1, true, decide (f.second < Fct.stop (findF (distinctF [] (fewF fs)) s)), n + 1) (by dsimp only; omega) ⟨by dsimp only; omega, any_yes hs hb1 d47, any_or hs hb2 d80 (overs_eq (by omega) d82), count_yes hs (loops_yes (by omega) d91 c97) hnn⟩ ⟨rfl, rfl, rfl, rfl, rfl, rfl, rfl, rfl, rfl, trivial⟩ ((perm_pick 2 rfl).trans (List.Perm.cons _ ((perm_pick 2 rfl).trans (List.Perm.cons _ ((perm_pick 2 rfl).trans (List.Perm.cons _ ((perm_pick 2 rfl).trans (List.Perm.cons _ (List.Perm.refl _))))))))))
                    · refine CX.skip (XX.inBlock (V' := [(0, .slice y2.1 ((distinctF [] (fewF fs)).length) y2.2), (3, .bool true), (4, .slice y3.1 ((streams (distinctF [] (fewF fs))).length) y3.2), (5, .int .i64 ((i : Nat) : Int)), (6, .pointer (some ⟨gf, 0, none⟩)), (7, .bool true), (8, .bool (decide (f.second < Fct.stop (findF (distinctF [] (fewF fs)) s)))), (9, .int .i64 ((n : Nat) : Int)), (10, .int .i64 ((k : Nat) : Int))]) ⟨rfl, rfl, rfl, rfl, rfl, rfl, rfl, rfl, rfl, trivial⟩ ?_)
                      refine XX.next (V' := [(0, .slice y2.1 ((distinctF [] (fewF fs)).length) y2.2), (3, .bool true), (4, .slice y3.1 ((streams (distinctF [] (fewF fs))).length) y3.2), (5, .int .i64 ((i : Nat) : Int)), (6, .pointer (some ⟨gf, 0, none⟩)), (7, .bool true), (8, .bool (decide (f.second < Fct.stop (findF (distinctF [] (fewF fs)) s)))), (9, .int .i64 ((n : Nat) : Int)), (10, .int .i64 ((k : Nat) : Int))]) ⟨rfl, rfl, rfl, rfl, rfl, rfl, rfl, rfl, rfl, trivial⟩ ?_
                      refine CX.region ?_
                      refine RX.cons rfl rfl (op_w (yw_move rfl rfl) rfl rfl ?_)
                      refine RX.cons rfl rfl (op_w (yw_add rfl rfl rfl (by omega) (by omega)) rfl rfl ?_)
                      refine RX.cons rfl rfl (op_w (yw_assign rfl rfl) rfl rfl ?_)
                      refine RX.nil (XX.againP ([.blk gg (.cells (Fct.cells (findF (distinctF [] (fewF fs)) s)) 33 (0, 0)), .blk gs (.cells (Strm.cells s) 30 (0, 0))]) (k + 1, true, decide (f.second < Fct.stop (findF (distinctF [] (fewF fs)) s)), n) (by dsimp only; omega) ⟨by dsimp only; omega, any_yes hs hb1 d47, any_or hs hb2 d80 (overs_eq (by omega) d82), count_no hs (loops_rec c97) hnn⟩ ⟨rfl, rfl, rfl, rfl, rfl, rfl, rfl, rfl, rfl, trivial⟩ ((perm_pick 2 rfl).trans (List.Perm.cons _ ((perm_pick 2 rfl).trans (List.Perm.cons _ ((perm_pick 2 rfl).trans (List.Perm.cons _ ((perm_pick 2 rfl).trans (List.Perm.cons _ (List.Perm.refl _))))))))))
                  · refine RX.skip rfl rfl rfl rfl rfl rfl rfl ?_
                    refine RX.skip rfl rfl rfl rfl rfl rfl rfl ?_
                    refine RX.skip rfl rfl rfl rfl rfl rfl rfl ?_
                    refine RX.skip rfl rfl rfl rfl rfl rfl rfl ?_
                    refine RX.skip rfl rfl rfl rfl rfl rfl rfl ?_
                    refine RX.cons rfl rfl (op_w (yw_pickF rfl rfl rfl) rfl rfl ?_)
                    refine RX.nil (XX.next (V' := [(0, .slice y2.1 ((distinctF [] (fewF fs)).length) y2.2), (3, .bool true), (4, .slice y3.1 ((streams (distinctF [] (fewF fs))).length) y3.2), (5, .int .i64 ((i : Nat) : Int)), (6, .pointer (some ⟨gf, 0, none⟩)), (7, .bool true), (8, .bool (decide (f.second < Fct.stop (findF (distinctF [] (fewF fs)) s)))), (9, .int .i64 ((n : Nat) : Int)), (10, .int .i64 ((k : Nat) : Int)), (97, .bool false)]) ⟨rfl, rfl, rfl, rfl, rfl, rfl, rfl, rfl, rfl, rfl, trivial⟩ ?_)
                    refine CX.condF rfl ?_
                    refine CX.skip (XX.inBlock (V' := [(0, .slice y2.1 ((distinctF [] (fewF fs)).length) y2.2), (3, .bool true), (4, .slice y3.1 ((streams (distinctF [] (fewF fs))).length) y3.2), (5, .int .i64 ((i : Nat) : Int)), (6, .pointer (some ⟨gf, 0, none⟩)), (7, .bool true), (8, .bool (decide (f.second < Fct.stop (findF (distinctF [] (fewF fs)) s)))), (9, .int .i64 ((n : Nat) : Int)), (10, .int .i64 ((k : Nat) : Int))]) ⟨rfl, rfl, rfl, rfl, rfl, rfl, rfl, rfl, rfl, trivial⟩ ?_)
                    refine XX.next (V' := [(0, .slice y2.1 ((distinctF [] (fewF fs)).length) y2.2), (3, .bool true), (4, .slice y3.1 ((streams (distinctF [] (fewF fs))).length) y3.2), (5, .int .i64 ((i : Nat) : Int)), (6, .pointer (some ⟨gf, 0, none⟩)), (7, .bool true), (8, .bool (decide (f.second < Fct.stop (findF (distinctF [] (fewF fs)) s)))), (9, .int .i64 ((n : Nat) : Int)), (10, .int .i64 ((k : Nat) : Int))]) ⟨rfl, rfl, rfl, rfl, rfl, rfl, rfl, rfl, rfl, trivial⟩ ?_
                    refine CX.region ?_
                    refine RX.cons rfl rfl (op_w (yw_move rfl rfl) rfl rfl ?_)
                    refine RX.cons rfl rfl (op_w (yw_add rfl rfl rfl (by omega) (by omega)) rfl rfl ?_)
                    refine RX.cons rfl rfl (op_w (yw_assign rfl rfl) rfl rfl ?_)
                    refine RX.nil (XX.againP ([.blk gg (.cells (Fct.cells (findF (distinctF [] (fewF fs)) s)) 33 (0, 0)), .blk gs (.cells (Strm.cells s) 30 (0, 0))]) (k + 1, true, decide (f.second < Fct.stop (findF (distinctF [] (fewF fs)) s)), n) (by dsimp only; omega) ⟨by dsimp only; omega, any_yes hs hb1 d47, any_or hs hb2 d80 (overs_eq (by omega) d82), count_no hs (loops_no (by omega) d91) hnn⟩ ⟨rfl, rfl, rfl, rfl, rfl, rfl, rfl, rfl, rfl, trivial⟩ ((perm_pick 2 rfl).trans (List.Perm.cons _ ((perm_pick 2 rfl).trans (List.Perm.cons _ ((perm_pick 2 rfl).trans (List.Perm.cons _ ((perm_pick 2 rfl).trans (List.Perm.cons _ (List.Perm.refl _))))))))))
                · refine DX.skip 4 31 (by kernel_rfl) rfl rfl rfl rfl rfl rfl rfl rfl ?_
                  refine DX.skip 5 63 (by kernel_rfl) rfl rfl rfl rfl rfl rfl rfl rfl ?_
                  refine DX.skip 6 127 (by kernel_rfl) rfl rfl rfl rfl rfl rfl rfl rfl ?_
                  refine DX.skip 7 255 (by kernel_rfl) rfl rfl rfl rfl rfl rfl rfl rfl ?_
                  refine DX.skip 8 511 (by kernel_rfl) rfl rfl rfl rfl rfl rfl rfl rfl ?_
                  refine DX.takeWG 9 1023 (by kernel_rfl) rfl rfl rfl rfl rfl rfl rfl rfl (yw_pickF rfl rfl rfl) ?_
                  refine DX.takeW 10 2047 (by kernel_rfl) rfl rfl rfl rfl rfl (yw_pickF rfl rfl rfl) ?_
                  refine DX.takeW 11 4095 (by kernel_rfl) rfl rfl rfl rfl rfl (yw_assign rfl rfl) ?_
                  refine DX.done (by kernel_rfl) (XX.next (V' := [(0, .slice y2.1 ((distinctF [] (fewF fs)).length) y2.2), (3, .bool true), (4, .slice y3.1 ((streams (distinctF [] (fewF fs))).length) y3.2), (5, .int .i64 ((i : Nat) : Int)), (6, .pointer (some ⟨gf, 0, none⟩)), (7, .bool true), (8, .bool false), (9, .int .i64 ((n : Nat) : Int)), (10, .int .i64 ((k : Nat) : Int)), (11, .pointer (some ⟨gs, 0, none⟩)), (14, .bool (earlier (findF (distinctF [] (fewF fs)) s) f))]) ⟨rfl, rfl, rfl, rfl, rfl, rfl, rfl, rfl, rfl, rfl, rfl, trivial⟩ ?_)
                  refine CX.seq ?_
                  refine CX.region ?_
                  refine RX.cons rfl rfl (op_w (yw_move rfl rfl) rfl rfl ?_)
                  refine RX.cons rfl rfl (op_w (yw_move rfl rfl) rfl rfl ?_)
                  refine RX.split (t := 91) (b := (earlier (findF (distinctF [] (fewF fs)) s) f)) rfl (fun d91 => ?_) (fun d91 => ?_)
                  · refine RX.consG rfl rfl rfl rfl rfl (op_w (yw_fieldAddr rfl fld_30_3 rfl) rfl rfl ?_)
                    refine RX.consG rfl rfl rfl rfl rfl (op_yld (y_load (i := 1) rfl rfl one_3 rfl rfl) rfl rfl ?_)
                    refine RX.consG rfl rfl rfl rfl rfl (op_w (yw_fieldAddr rfl fld_33_7 rfl) rfl rfl ?_)
                    refine RX.consG rfl rfl rfl rfl rfl (op_yld (y_load (i := 2) rfl rfl one_3 rfl rfl) rfl rfl ?_)
                    refine RX.consG rfl rfl rfl rfl rfl (op_w (yw_eql rfl rfl rfl) rfl rfl ?_)
                    refine RX.cons rfl rfl (op_w (yw_pickT rfl rfl rfl) rfl rfl ?_)
                    refine RX.nil (XX.next (V' := [(0, .slice y2.1 ((distinctF [] (fewF fs)).length) y2.2), (3, .bool true), (4, .slice y3.1 ((streams (distinctF [] (fewF fs))).length) y3.2), (5, .int .i64 ((i : Nat) : Int)), (6, .pointer (some ⟨gf, 0, none⟩)), (7, .bool true), (8, .bool false), (9, .int .i64 ((n : Nat) : Int)), (10, .int .i64 ((k : Nat) : Int)), (97, .bool (decide (s.recording = f.recording)))]) ⟨rfl, rfl, rfl, rfl, rfl, rfl, rfl, rfl, rfl, rfl, trivial⟩ ?_)
                    refine CX.condD (p := s.recording = f.recording) rfl (fun c97 => ?_) (fun c97 => ?_)
                    · refine CX.region ?_
                      refine RX.cons rfl rfl (op_w (yw_move rfl rfl) rfl rfl ?_)
                      refine RX.cons rfl rfl (op_w (yw_add rfl rfl rfl (by omega) (by omega)) rfl rfl ?_)
                      refine RX.cons rfl rfl (op_w (yw_assign rfl rfl) rfl rfl ?_)
                      refine RX.nil (XX.inBlock (V' := [(0, .slice y2.1 ((distinctF [] (fewF fs)).length) y2.2), (3, .bool true), (4, .slice y3.1 ((streams (distinctF [] (fewF fs))).length) y3.2), (5, .int .i64 ((i : Nat) : Int)), (6, .pointer (some ⟨gf, 0, none⟩)), (7, .bool true), (8, .bool false), (9, .int .i64 (((n : Nat) : Int) + 1)), (10, .int .i64 ((k : Nat) : Int))]) ⟨rfl, rfl, rfl, rfl, rfl, rfl, rfl, rfl, rfl, trivial⟩ ?_)
                      refine XX.next (V' := [(0, .slice y2.1 ((distinctF [] (fewF fs)).length) y2.2), (3, .bool true), (4, .slice y3.1 ((streams (distinctF [] (fewF fs))).length) y3.2), (5, .int .i64 ((i : Nat) : Int)), (6, .pointer (some ⟨gf, 0, none⟩)), (7, .bool true), (8, .bool false), (9, .int .i64 (((n : Nat) : Int) + 1)), (10, .int .i64 ((k : Nat) : Int))]) ⟨rfl, rfl, rfl, rfl, rfl, rfl, rfl, rfl, rfl, trivial⟩ ?_
                      refine CX.region ?_
                      refine RX.cons rfl rfl (op_w (yw_move rfl rfl) rfl rfl ?_)
                      refine RX.cons rfl rfl (op_w (yw_add rfl rfl rfl (by omega) (by omega)) rfl rfl ?_)
                      refine RX.cons rfl rfl (op_w (yw_assign rfl rfl) rfl rfl ?_)
                      refine RX.nil (XX.againP ([.blk gg (.cells (Fct.cells (findF (distinctF [] (fewF fs)) s)) 33 (0, 0)), .blk gs (.cells (Strm.cells s) 30 (0, 0))]) (k + 1, true, false, n + 1) (by dsimp only; omega) ⟨by dsimp only; omega, any_yes hs hb1 d47, any_or hs hb2 d80 (overs_no (by omega) d82), count_yes hs (loops_yes (by omega) d91 c97) hnn⟩ ⟨rfl, rfl, rfl, rfl, rfl, rfl, rfl, rfl, rfl, trivial⟩ ((perm_pick 2 rfl).trans (List.Perm.cons _ ((perm_pick 2 rfl).trans (List.Perm.cons _ ((perm_pick 2 rfl).trans (List.Perm.cons _ ((perm_pick 2 rfl).trans (List.Perm.cons _ (List.Perm.refl _))))))))))
                    · refine CX.skip (XX.inBlock (V' := [(0, .slice y2.1 ((distinctF [] (fewF fs)).length) y2.2), (3, .bool true), (4, .slice y3.1 ((streams (distinctF [] (fewF fs))).length) y3.2), (5, .int .i64 ((i : Nat) : Int)), (6, .pointer (some ⟨gf, 0, none⟩)), (7, .bool true), (8, .bool false), (9, .int .i64 ((n : Nat) : Int)), (10, .int .i64 ((k : Nat) : Int))]) ⟨rfl, rfl, rfl, rfl, rfl, rfl, rfl, rfl, rfl, trivial⟩ ?_)
                      refine XX.next (V' := [(0, .slice y2.1 ((distinctF [] (fewF fs)).length) y2.2), (3, .bool true), (4, .slice y3.1 ((streams (distinctF [] (fewF fs))).length) y3.2), (5, .int .i64 ((i : Nat) : Int)), (6, .pointer (some ⟨gf, 0, none⟩)), (7, .bool true), (8, .bool false), (9, .int .i64 ((n : Nat) : Int)), (10, .int .i64 ((k : Nat) : Int))]) ⟨rfl, rfl, rfl, rfl, rfl, rfl, rfl, rfl, rfl, trivial⟩ ?_
                      refine CX.region ?_
                      refine RX.cons rfl rfl (op_w (yw_move rfl rfl) rfl rfl ?_)
                      refine RX.cons rfl rfl (op_w (yw_add rfl rfl rfl (by omega) (by omega)) rfl rfl ?_)
                      refine RX.cons rfl rfl (op_w (yw_assign rfl rfl) rfl rfl ?_)
                      refine RX.nil (XX.againP ([.blk gg (.cells (Fct.cells (findF (distinctF [] (fewF fs)) s)) 33 (0, 0)), .blk gs (.cells (Strm.cells s) 30 (0, 0))]) (k + 1, true, false, n) (by dsimp only; omega) ⟨by dsimp only; omega, any_yes hs hb1 d47, any_or hs hb2 d80 (overs_no (by omega) d82), count_no hs (loops_rec c97) hnn⟩ ⟨rfl, rfl, rfl, rfl, rfl, rfl, rfl, rfl, rfl, trivial⟩ ((perm_pick 2 rfl).trans (List.Perm.cons _ ((perm_pick 2 rfl).trans (List.Perm.cons _ ((perm_pick 2 rfl).trans (List.Perm.cons _ ((perm_pick 2 rfl).trans (List.Perm.cons _ (List.Perm.refl _))))))))))
                  · refine RX.skip rfl rfl rfl rfl rfl rfl rfl ?_
                    refine RX.skip rfl rfl rfl rfl rfl rfl rfl ?_
                    refine RX.skip rfl rfl rfl rfl rfl rfl rfl ?_
                    refine RX.skip rfl rfl rfl rfl rfl rfl rfl ?_
                    refine RX.skip rfl rfl rfl rfl rfl rfl rfl ?_
                    refine RX.cons rfl rfl (op_w (yw_pickF rfl rfl rfl) rfl rfl ?_)
                    refine RX.nil (XX.next (V' := [(0, .slice y2.1 ((distinctF [] (fewF fs)).length) y2.2), (3, .bool true), (4, .slice y3.1 ((streams (distinctF [] (fewF fs))).length) y3.2), (5, .int .i64 ((i : Nat) : Int)), (6, .pointer (some ⟨gf, 0, none⟩)), (7, .bool true), (8, .bool false), (9, .int .i64 ((n : Nat) : Int)), (10, .int .i64 ((k : Nat) : Int)), (97, .bool false)]) ⟨rfl, rfl, rfl, rfl, rfl, rfl, rfl, rfl, rfl, rfl, trivial⟩ ?_)
                    refine CX.condF rfl ?_
                    refine CX.skip (XX.inBlock (V' := [(0, .slice y2.1 ((distinctF [] (fewF fs)).length) y2.2), (3, .bool true), (4, .slice y3.1 ((streams (distinctF [] (fewF fs))).length) y3.2), (5, .int .i64 ((i : Nat) : Int)), (6, .pointer (some ⟨gf, 0, none⟩)), (7, .bool true), (8, .bool false), (9, .int .i64 ((n : Nat) : Int)), (10, .int .i64 ((k : Nat) : Int))]) ⟨rfl, rfl, rfl, rfl, rfl, rfl, rfl, rfl, rfl, trivial⟩ ?_)
                    refine XX.next (V' := [(0, .slice y2.1 ((distinctF [] (fewF fs)).length) y2.2), (3, .bool true), (4, .slice y3.1 ((streams (distinctF [] (fewF fs))).length) y3.2), (5, .int .i64 ((i : Nat) : Int)), (6, .pointer (some ⟨gf, 0, none⟩)), (7, .bool true), (8, .bool false), (9, .int .i64 ((n : Nat) : Int)), (10, .int .i64 ((k : Nat) : Int))]) ⟨rfl, rfl, rfl, rfl, rfl, rfl, rfl, rfl, rfl, trivial⟩ ?_
                    refine CX.region ?_
                    refine RX.cons rfl rfl (op_w (yw_move rfl rfl) rfl rfl ?_)
                    refine RX.cons rfl rfl (op_w (yw_add rfl rfl rfl (by omega) (by omega)) rfl rfl ?_)
                    refine RX.cons rfl rfl (op_w (yw_assign rfl rfl) rfl rfl ?_)
                    refine RX.nil (XX.againP ([.blk gg (.cells (Fct.cells (findF (distinctF [] (fewF fs)) s)) 33 (0, 0)), .blk gs (.cells (Strm.cells s) 30 (0, 0))]) (k + 1, true, false, n) (by dsimp only; omega) ⟨by dsimp only; omega, any_yes hs hb1 d47, any_or hs hb2 d80 (overs_no (by omega) d82), count_no hs (loops_no (by omega) d91) hnn⟩ ⟨rfl, rfl, rfl, rfl, rfl, rfl, rfl, rfl, rfl, trivial⟩ ((perm_pick 2 rfl).trans (List.Perm.cons _ ((perm_pick 2 rfl).trans (List.Perm.cons _ ((perm_pick 2 rfl).trans (List.Perm.cons _ ((perm_pick 2 rfl).trans (List.Perm.cons _ (List.Perm.refl _))))))))))
            · refine RX.skip rfl rfl rfl rfl rfl rfl rfl ?_
              refine RX.skip rfl rfl rfl rfl rfl rfl rfl ?_
              refine RX.skip rfl rfl rfl rfl rfl rfl rfl ?_
              refine RX.skip rfl rfl rfl rfl rfl rfl rfl ?_
              refine RX.skip rfl rfl rfl rfl rfl rfl rfl ?_
              refine RX.consG rfl rfl rfl rfl rfl (op_w (yw_pickF rfl rfl rfl) rfl rfl ?_)
              refine RX.cons rfl rfl (op_w (yw_pickF rfl rfl rfl) rfl rfl ?_)
              refine RX.cons rfl rfl (op_w (yw_assign rfl rfl) rfl rfl ?_)
              refine RX.know (t := 14) (u := .bool (earlier (findF (distinctF [] (fewF fs)) s) f)) rfl (congrArg Value.bool (earlier_not d65 d71).symm) ?_
              refine RX.nil (XX.next (V' := [(0, .slice y2.1 ((distinctF [] (fewF fs)).length) y2.2), (3, .bool true), (4, .slice y3.1 ((streams (distinctF [] (fewF fs))).length) y3.2), (5, .int .i64 ((i : Nat) : Int)), (6, .pointer (some ⟨gf, 0, none⟩)), (7, .bool true), (8, .bool b2), (9, .int .i64 ((n : Nat) : Int)), (10, .int .i64 ((k : Nat) : Int)), (11, .pointer (some ⟨gs, 0, none⟩)), (12, .pointer (some ⟨gg, 0, none⟩)), (14, .bool (earlier (findF (distinctF [] (fewF fs)) s) f))]) ⟨rfl, rfl, rfl, rfl, rfl, rfl, rfl, rfl, rfl, rfl, rfl, rfl, trivial⟩ ?_)
              refine CX.seq ?_
              refine CX.draw 12 (by kernel_rfl) ?_
              refine DX.takeW 0 1 (by kernel_rfl) rfl rfl rfl rfl rfl (yw_move rfl rfl) ?_
              refine DX.takeW 1 3 (by kernel_rfl) rfl rfl rfl rfl rfl (yw_move rfl rfl) ?_
              refine DX.split (t := 80) (b := b2) rfl (fun d80 => ?_) (fun d80 => ?_)
              · refine DX.skip 2 7 (by kernel_rfl) rfl rfl rfl rfl rfl rfl rfl rfl ?_
                refine DX.skip 3 15 (by kernel_rfl) rfl rfl rfl rfl rfl rfl rfl rfl ?_
                refine DX.skip 4 31 (by kernel_rfl) rfl rfl rfl rfl rfl rfl rfl rfl ?_
                refine DX.skip 5 63 (by kernel_rfl) rfl rfl rfl rfl rfl rfl rfl rfl ?_
                refine DX.skip 6 127 (by kernel_rfl) rfl rfl rfl rfl rfl rfl rfl rfl ?_
                refine DX.skip 7 255 (by kernel_rfl) rfl rfl rfl rfl rfl rfl rfl rfl ?_
                refine DX.skip 8 511 (by kernel_rfl) rfl rfl rfl rfl rfl rfl rfl rfl ?_
                refine DX.skip 9 1023 (by kernel_rfl) rfl rfl rfl rfl rfl rfl rfl rfl ?_
                refine DX.takeW 10 2047 (by kernel_rfl) rfl rfl rfl rfl rfl (yw_pickT rfl rfl rfl) ?_
                refine DX.takeW 11 4095 (by kernel_rfl) rfl rfl rfl rfl rfl (yw_assign rfl rfl) ?_
                refine DX.done (by kernel_rfl) (XX.next (V' := [(0, .slice y2.1 ((distinctF [] (fewF fs)).length) y2.2), (3, .bool true), (4, .slice y3.1 ((streams (distinctF [] (fewF fs))).length) y3.2), (5, .int .i64 ((i : Nat) : Int)), (6, .pointer (some ⟨gf, 0, none⟩)), (7, .bool true), (8, .bool true), (9, .int .i64 ((n : Nat) : Int)), (10, .int .i64 ((k : Nat) : Int)), (11, .pointer (some ⟨gs, 0, none⟩)), (14, .bool (earlier (findF (distinctF [] (fewF fs)) s) f))]) ⟨rfl, rfl, rfl, rfl, rfl, rfl, rfl, rfl, rfl, rfl, rfl, trivial⟩ ?_)
                refine CX.seq ?_
                refine CX.region ?_
                refine RX.cons rfl rfl (op_w (yw_move rfl rfl) rfl rfl ?_)
                refine RX.cons rfl rfl (op_w (yw_move rfl rfl) rfl rfl ?_)
                refine RX.split (t := 91) (b := (earlier (findF (distinctF [] (fewF fs)) s) f)) rfl (fun d91 => ?_) (fun d91 => ?_)
                · refine RX.consG rfl rfl rfl rfl rfl (op_w (yw_fieldAddr rfl fld_30_3 rfl) rfl rfl ?_)
                  refine RX.consG rfl rfl rfl rfl rfl (op_yld (y_load (i := 1) rfl rfl one_3 rfl rfl) rfl rfl ?_)
                  refine RX.consG rfl rfl rfl rfl rfl (op_w (yw_fieldAddr rfl fld_33_7 rfl) rfl rfl ?_)
                  refine RX.consG rfl rfl rfl rfl rfl (op_yld (y_load (i := 2) rfl rfl one_3 rfl rfl) rfl rfl ?_)
                  refine RX.consG rfl rfl rfl rfl rfl (op_w (yw_eql rfl rfl rfl) rfl rfl ?_)
                  refine RX.cons rfl rfl (op_w (yw_pickT rfl rfl rfl) rfl rfl ?_)
                  refine RX.nil (XX.next (V' := [(0, .slice y2.1 ((distinctF [] (fewF fs)).length) y2.2), (3, .bool true), (4, .slice y3.1 ((streams (distinctF [] (fewF fs))).length) y3.2), (5, .int .i64 ((i : Nat) : Int)), (6, .pointer (some ⟨gf, 0, none⟩)), (7, .bool true), (8, .bool true), (9, .int .i64 ((n : Nat) : Int)), (10, .int .i64 ((k : Nat) : Int)), (97, .bool (decide (s.recording = f.recording)))]) ⟨rfl, rfl, rfl, rfl, rfl, rfl, rfl, rfl, rfl, rfl, trivial⟩ ?_)
                  refine CX.condD (p := s.recording = f.recording) rfl (fun c97 => ?_) (fun c97 => ?_)
                  · refine CX.region ?_
                    refine RX.cons rfl rfl (op_w (yw_move rfl rfl) rfl rfl ?_)
                    refine RX.cons rfl rfl (op_w (yw_add rfl rfl rfl (by omega) (by omega)) rfl rfl ?_)
                    refine RX.cons rfl rfl (op_w (yw_assign rfl rfl) rfl rfl ?_)
                    refine RX.nil (XX.inBlock (V' := [(0, .slice y2.1 ((distinctF [] (fewF fs)).length) y2.2), (3, .bool true), (4, .slice y3.1 ((streams (distinctF [] (fewF fs))).length) y3.2), (5, .int .i64 ((i : Nat) : Int)), (6, .pointer (some ⟨gf, 0, none⟩)), (7, .bool true), (8, .bool true), (9, .int .i64 (((n : Nat) : Int) + 1)), (10, .int .i64 ((k : Nat) : Int))]) ⟨rfl, rfl, rfl, rfl, rfl, rfl, rfl, rfl, rfl, trivial⟩ ?_)
                    refine XX.next (V' := [(0, .slice y2.1 ((distinctF [] (fewF fs)).length) y2.2), (3, .bool true), (4, .slice y3.1 ((streams (distinctF [] (fewF fs))).length) y3.2), (5, .int .i64 ((i : Nat) : Int)), (6, .pointer (some ⟨gf, 0, none⟩)), (7, .bool true), (8, .bool true), (9, .int .i64 (((n : Nat) : Int) + 1)), (10, .int .i64 ((k : Nat) : Int))]) ⟨rfl, rfl, rfl, rfl, rfl, rfl, rfl, rfl, rfl, trivial⟩ ?_
                    refine CX.region ?_
                    refine RX.cons rfl rfl (op_w (yw_move rfl rfl) rfl rfl ?_)
                    refine RX.cons rfl rfl (op_w (yw_add rfl rfl rfl (by omega) (by omega)) rfl rfl ?_)
                    refine RX.cons rfl rfl (op_w (yw_assign rfl rfl) rfl rfl ?_)
                    refine RX.nil (XX.againP ([.blk gg (.cells (Fct.cells (findF (distinctF [] (fewF fs)) s)) 33 (0, 0)), .blk gs (.cells (Strm.cells s) 30 (0, 0))]) (k + 1, true, true, n + 1) (by dsimp only; omega) ⟨by dsimp only; omega, any_yes hs hb1 d47, any_yes hs hb2 d80, count_yes hs (loops_yes (by omega) d91 c97) hnn⟩ ⟨rfl, rfl, rfl, rfl, rfl, rfl, rfl, rfl, rfl, trivial⟩ ((perm_pick 2 rfl).trans (List.Perm.cons _ ((perm_pick 2 rfl).trans (List.Perm.cons _ ((perm_pick 2 rfl).trans (List.Perm.cons _ ((perm_pick 2 rfl).trans (List.Perm.cons _ (List.Perm.refl _))))))))))
                  · refine CX.skip (XX.inBlock (V' := [(0, .slice y2.1 ((distinctF [] (fewF fs)).length) y2.2), (3, .bool true), (4, .slice y3.1 ((streams (distinctF [] (fewF fs))).length) y3.2), (5, .int .i64 ((i : Nat) : Int)), (6, .pointer (some ⟨gf, 0, none⟩)), (7, .bool true), (8, .bool true), (9, .int .i64 ((n : Nat) : Int)), (10, .int .i64 ((k : Nat) : Int))]) ⟨rfl, rfl, rfl, rfl, rfl, rfl, rfl, rfl, rfl, trivial⟩ ?_)
                    refine XX.next (V' := [(0, .slice y2.1 ((distinctF [] (fewF fs)).length) y2.2), (3, .bool true), (4, .slice y3.1 ((streams (distinctF [] (fewF fs))).length) y3.2), (5, .int .i64 ((i : Nat) : Int)), (6, .pointer (some ⟨gf, 0, none⟩)), (7, .bool true), (8, .bool true), (9, .int .i64 ((n : Nat) : Int)), (10, .int .i64 ((k : Nat) : Int))]) ⟨rfl, rfl, rfl, rfl, rfl, rfl, rfl, rfl, rfl, trivial⟩ ?_
                    refine CX.region ?_
                    refine RX.cons rfl rfl (op_w (yw_move rfl rfl) rfl rfl ?_)
                    refine RX.cons rfl rfl (op_w (yw_add rfl rfl rfl (by omega) (by omega)) rfl rfl ?_)
                    refine RX.cons rfl rfl (op_w (yw_assign rfl rfl) rfl rfl ?_)
                    refine RX.nil (XX.againP ([.blk gg (.cells (Fct.cells (findF (distinctF [] (fewF fs)) s)) 33 (0, 0)), .blk gs (.cells (Strm.cells s) 30 (0, 0))]) (k + 1, true, true, n) (by dsimp only; omega) ⟨by dsimp only; omega, any_yes hs hb1 d47, any_yes hs hb2 d80, count_no hs (loops_rec c97) hnn⟩ ⟨rfl, rfl, rfl, rfl, rfl, rfl, rfl, rfl, rfl, trivial⟩ ((perm_pick 2 rfl).trans (List.Perm.cons _ ((perm_pick 2 rfl).trans (List.Perm.cons _ ((perm_pick 2 rfl).trans (List.Perm.cons _ ((perm_pick 2 rfl).trans (List.Perm.cons _ (List.Perm.refl _))))))))))
                · refine RX.skip rfl rfl rfl rfl rfl rfl rfl ?_
                  refine RX.skip rfl rfl rfl rfl rfl rfl rfl ?_
                  refine RX.skip rfl rfl rfl rfl rfl rfl rfl ?_
                  refine RX.skip rfl rfl rfl rfl rfl rfl rfl ?_
                  refine RX.skip rfl rfl rfl rfl rfl rfl rfl ?_
                  refine RX.cons rfl rfl (op_w (yw_pickF rfl rfl rfl) rfl rfl ?_)
                  refine RX.nil (XX.next (V' := [(0, .slice y2.1 ((distinctF [] (fewF fs)).length) y2.2), (3, .bool true), (4, .slice y3.1 ((streams (distinctF [] (fewF fs))).length) y3.2), (5, .int .i64 ((i : Nat) : Int)), (6, .pointer (some ⟨gf, 0, none⟩)), (7, .bool true), (8, .bool true), (9, .int .i64 ((n : Nat) : Int)), (10, .int .i64 ((k : Nat) : Int)), (97, .bool false)]) ⟨rfl, rfl, rfl, rfl, rfl, rfl, rfl, rfl, rfl, rfl, trivial⟩ ?_)
                  refine CX.condF rfl ?_
                  refine CX.skip (XX.inBlock (V' := [(0, .slice y2.1 ((distinctF [] (fewF fs)).length) y2.2), (3, .bool true), (4, .slice y3.1 ((streams (distinctF [] (fewF fs))).length) y3.2), (5, .int .i64 ((i : Nat) : Int)), (6, .pointer (some ⟨gf, 0, none⟩)), (7, .bool true), (8, .bool true), (9, .int .i64 ((n : Nat) : Int)), (10, .int .i64 ((k : Nat) : Int))]) ⟨rfl, rfl, rfl, rfl, rfl, rfl, rfl, rfl, rfl, trivial⟩ ?_)
                  refine XX.next (V' := [(0, .slice y2.1 ((distinctF [] (fewF fs)).length) y2.2), (3, .bool true), (4, .slice y3.1 ((streams (distinctF [] (fewF fs))).length) y3.2), (5, .int .i64 ((i : Nat) : Int)), (6, .pointer (some ⟨gf, 0, none⟩)), (7, .bool true), (8, .bool true), (9, .int .i64 ((n : Nat) : Int)), (10, .int .i64 ((k : Nat) : Int))]) ⟨rfl, rfl, rfl, rfl, rfl, rfl, rfl, rfl, rfl, trivial⟩ ?_
                  refine CX.region ?_
                  refine RX.cons rfl rfl (op_w (yw_move rfl rfl) rfl rfl ?_)
                  refine RX.cons rfl rfl (op_w (yw_add rfl rfl rfl (by omega) (by omega)) rfl rfl ?_)
                  refine RX.cons rfl rfl (op_w (yw_assign rfl rfl) rfl rfl ?_)
                  refine RX.nil (XX.againP ([.blk gg (.cells (Fct.cells (findF (distinctF [] (fewF fs)) s)) 33 (0, 0)), .blk gs (.cells (Strm.cells s) 30 (0, 0))]) (k + 1, true, true, n) (by dsimp only; omega) ⟨by dsimp only; omega, any_yes hs hb1 d47, any_yes hs hb2 d80, count_no hs (loops_no (by omega) d91) hnn⟩ ⟨rfl, rfl, rfl, rfl, rfl, rfl, rfl, rfl, rfl, trivial⟩ ((perm_pick 2 rfl).trans (List.Perm.cons _ ((perm_pick 2 rfl).trans (List.Perm.cons _ ((perm_pick 2 rfl).trans (List.Perm.cons _ ((perm_pick 2 rfl).trans (List.Perm.cons _ (List.Perm.refl _))))))))))
              · refine DX.takeWG 2 7 (by kernel_rfl) rfl rfl rfl rfl rfl rfl rfl rfl (yw_move rfl rfl) ?_
                refine DX.takeWG 3 15 (by kernel_rfl) rfl rfl rfl rfl rfl rfl rfl rfl (yw_move rfl rfl) ?_
                refine DX.split (t := 82) (b := (earlier (findF (distinctF [] (fewF fs)) s) f)) rfl (fun d82 => ?_) (fun d82 => ?_)
                · refine DX.takeWG 4 31 (by kernel_rfl) rfl rfl rfl rfl rfl rfl rfl rfl (yw_fieldAddr rfl fld_33_4 rfl) ?_
                  refine DX.takeG 5 63 (by kernel_rfl) rfl rfl rfl rfl rfl rfl rfl rfl (List.Sublist.refl _) (y_load (i := 2) rfl rfl one_3 rfl rfl) ?_
                  refine DX.takeG 6 127 (by kernel_rfl) rfl rfl rfl rfl rfl rfl rfl rfl (List.Sublist.refl _) (y_loadA (i := 0) rfl rfl agg_33 rfl rfl) ?_
                  refine DX.stepG 7 255 (by kernel_rfl) rfl rfl rfl rfl rfl rfl (op_callV (v := .int .i64 (Fct.stop (findF (distinctF [] (fewF fs)) s))) rfl rfl rfl rfl rfl ent_16 (fun w _ => w_refEnd (findF (distinctF [] (fewF fs)) s) hh.s0 hh.s1 hh.a0 hh.a1) (DXs.mk (List.Sublist.refl _) ?_))
                  refine DX.takeWG 8 511 (by kernel_rfl) rfl rfl rfl rfl rfl rfl rfl rfl (yw_lss rfl rfl rfl) ?_
                  refine DX.takeWG 9 1023 (by kernel_rfl) rfl rfl rfl rfl rfl rfl rfl rfl (yw_pickT rfl rfl rfl) ?_
                  refine DX.takeW 10 2047 (by kernel_rfl) rfl rfl rfl rfl rfl (yw_pickF rfl rfl rfl) ?_
                  refine DX.takeW 11 4095 (by kernel_rfl) rfl rfl rfl rfl rfl (yw_assign rfl rfl) ?_
                  refine DX.done (by kernel_rfl) (XX.next (V' := [(0, .slice y2.1 ((distinctF [] (fewF fs)).length) y2.2), (3, .bool true), (4, .slice y3.1 ((streams (distinctF [] (fewF fs))).length) y3.2), (5, .int .i64 ((i : Nat) : Int)), (6, .pointer (some ⟨gf, 0, none⟩)), (7, .bool true), (8, .bool (decide (f.second < Fct.stop (findF (distinctF [] (fewF fs)) s)))), (9, .int .i64 ((n : Nat) : Int)), (10, .int .i64 ((k : Nat) : Int)), (11, .pointer (some ⟨gs, 0, none⟩)), (14, .bool (earlier (findF (distinctF [] (fewF fs)) s) f))]) ⟨rfl, rfl, rfl, rfl, rfl, rfl, rfl, rfl, rfl, rfl, rfl, trivial⟩ ?_)
                  refine CX.seq ?_
                  refine CX.region ?_
                  refine RX.cons rfl rfl (op_w (yw_move rfl rfl) rfl rfl ?_)
                  refine RX.cons rfl rfl (op_w (yw_move rfl rfl) rfl rfl ?_)
                  refine RX.split (t := 91) (b := (earlier (findF (distinctF [] (fewF fs)) s) f)) rfl (fun d91 => ?_) (fun d91 => ?_)
                  · refine RX.consG rfl rfl rfl rfl rfl (op_w (yw_fieldAddr rfl fld_30_3 rfl) rfl rfl ?_)
                    refine RX.consG rfl rfl rfl rfl rfl (op_yld (y_load (i := 1) rfl rfl one_3 rfl rfl) rfl rfl ?_)
                    refine RX.consG rfl rfl rfl rfl rfl (op_w (yw_fieldAddr rfl fld_33_7 rfl) rfl rfl ?_)
                    refine RX.consG rfl rfl rfl rfl rfl (op_yld (y_load (i := 2) rfl rfl one_3 rfl rfl) rfl rfl ?_)
                    refine RX.consG rfl rfl rfl rfl rfl (op_w (yw_eql rfl rfl rfl) rfl rfl ?_)
                    refine RX.cons rfl rfl (op_w (yw_pickT rfl rfl rfl) rfl rfl ?_)
                    refine RX.nil (XX.next (V' := [(0, .slice y2.1 ((distinctF [] (fewF fs)).length) y2.2), (3, .bool true), (4, .slice y3.1 ((streams (distinctF [] (fewF fs))).length) y3.2), (5, .int .i64 ((i : Nat) : Int)), (6, .pointer (some ⟨gf, 0, none⟩)), (7, .bool true), (8, .bool (decide (f.second < Fct.stop (findF (distinctF [] (fewF fs)) s)))), (9, .int .i64 ((n : Nat) : Int)), (10, .int .i64 ((k : Nat) : Int)), (97, .bool (decide (s.recording = f.recording)))]) ⟨rfl, rfl, rfl, rfl, rfl, rfl, rfl, rfl, rfl, rfl, trivial⟩ ?_)
                    refine CX.condD (p := s.recording = f.recording) rfl (fun c97 => ?_) (fun c97 => ?_)
                    · refine CX.region ?_
                      refine RX.cons rfl rfl (op_w (yw_move rfl rfl) rfl rfl ?_)
                      refine RX.cons rfl rfl (op_w (yw_add rfl rfl rfl (by omega) (by omega)) rfl rfl ?_)
                      refine RX.cons rfl rfl (op_w (yw_assign rfl rfl) rfl rfl ?_)
                      refine RX.nil (XX.inBlock (V' := [(0, .slice y2.1 ((distinctF [] (fewF fs)).length) y2.2), (3, .bool true), (4, .slice y3.1 ((streams (distinctF [] (fewF fs))).length) y3.2), (5, .int .i64 ((i : Nat) : Int)), (6, .pointer (some ⟨gf, 0, none⟩)), (7, .bool true), (8, .bool (decide (f.second < Fct.stop (findF (distinctF [] (fewF fs)) s)))), (9, .int .i64 (((n : Nat) : Int) + 1)), (10, .int .i64 ((k : Nat) : Int))]) ⟨rfl, rfl, rfl, rfl, rfl, rfl, rfl, rfl, rfl, trivial⟩ ?_)
                      refine XX.next (V' := [(0, .slice y2.1 ((distinctF [] (fewF fs)).length) y2.2), (3, .bool true), (4, .slice y3.1 ((streams (distinctF [] (fewF fs))).length) y3.2), (5, .int .i64 ((i : Nat) : Int)), (6, .pointer (some ⟨gf, 0, none⟩)), (7, .bool true), (8, .bool (decide (f.second < Fct.stop (findF (distinctF [] (fewF fs)) s)))), (9, .int .i64 (((n : Nat) : Int) + 1)), (10, .int .i64 ((k : Nat) : Int))]) ⟨rfl, rfl, rfl, rfl, rfl, rfl, rfl, rfl, rfl, trivial⟩ ?_
                      refine CX.region ?_
                      refine RX.cons rfl rfl (op_w (yw_move rfl rfl) rfl rfl ?_)
                      refine RX.cons rfl rfl (op_w (yw_add rfl rfl rfl (by omega) (by omega)) rfl rfl ?_)
                      refine RX.cons rfl rfl (op_w (yw_assign rfl rfl) rfl rfl ?_)
                      refine RX.nil (XX.againP ([.blk gg (.cells (Fct.cells (findF (distinctF [] (fewF fs)) s)) 33 (0, 0)), .blk gs (.cells (Strm.cells s) 30 (0, 0))]) (k + 1, true, decide (f.second < Fct.stop (findF (distinctF [] (fewF fs)) s)), n + 1) (by dsimp only; omega) ⟨by dsimp only; omega, any_yes hs hb1 d47, any_or hs hb2 d80 (overs_eq (by omega) d82), count_yes hs (loops_yes (by omega) d91 c97) hnn⟩ ⟨rfl, rfl, rfl, rfl, rfl, rfl, rfl, rfl, rfl, trivial⟩ ((perm_pick 2 rfl).trans (List.Perm.cons _ ((perm_pick 2 rfl).trans (List.Perm.cons _ ((perm_pick 2 rfl).trans (List.Perm.cons _ ((perm_pick 2 rfl).trans (List.Perm.cons _ (List.Perm.refl _))))))))))
                    · refine CX.skip (XX.inBlock (V' := [(0, .slice y2.1 ((distinctF [] (fewF fs)).length) y2.2), (3, .bool true), (4, .slice y3.1 ((streams (distinctF [] (fewF fs))).length) y3.2), (5, .int .i64 ((i : Nat) : Int)), (6, .pointer (some ⟨gf, 0, none⟩)), (7, .bool true), (8, .bool (decide (f.second < Fct.stop (findF (distinctF [] (fewF fs)) s)))), (9, .int .i64 ((n : Nat) : Int)), (10, .int .i64 ((k : Nat) : Int))]) ⟨rfl, rfl, rfl, rfl, rfl, rfl, rfl, rfl, rfl, trivial⟩ ?_)
                      refine XX.next (V' := [(0, .slice y2.1 ((distinctF [] (fewF fs)).length) y2.2), (3, .bool true), (4, .slice y3.1 ((streams (distinctF [] (fewF fs))).length) y3.2), (5, .int .i64 ((i : Nat) : Int)), (6, .pointer (some ⟨gf, 0, none⟩)), (7, .bool true), (8, .bool (decide (f.second < Fct.stop (findF (distinctF [] (fewF fs)) s)))), (9, .int .i64 ((n : Nat) : Int)), (10, .int .i64 ((k : Nat) : Int))]) ⟨rfl, rfl, rfl, rfl, rfl, rfl, rfl, rfl, rfl, trivial⟩ ?_
                      refine CX.region ?_
                      refine RX.cons rfl rfl (op_w (yw_move rfl rfl) rfl rfl ?_)
                      refine RX.cons rfl rfl (op_w (yw_add rfl rfl rfl (by omega) (by omega)) rfl rfl ?_)
                      refine RX.cons rfl rfl (op_w (yw_assign rfl rfl) rfl rfl ?_)
                      refine RX.nil (XX.againP ([.blk gg (.cells (Fct.cells (findF (distinctF [] (fewF fs)) s)) 33 (0, 0)), .blk gs (.cells (Strm.cells s) 30 (0, 0))]) (k + 1, true, decide (f.second < Fct.stop (findF (distinctF [] (fewF fs)) s)), n) (by dsimp only; omega) ⟨by dsimp only; omega, any_yes hs hb1 d47, any_or hs hb2 d80 (overs_eq (by omega) d82), count_no hs (loops_rec c97) hnn⟩ ⟨rfl, rfl, rfl, rfl, rfl, rfl, rfl, rfl, rfl, trivial⟩ ((perm_pick 2 rfl).trans (List.Perm.cons _ ((perm_pick 2 rfl).trans (List.Perm.cons _ ((perm_pick 2 rfl).trans (List.Perm.cons _ ((perm_pick 2 rfl).trans (List.Perm.cons _ (List.Perm.refl _))))))))))
                  · refine RX.skip rfl rfl rfl rfl rfl rfl rfl ?_
                    refine RX.skip rfl rfl rfl rfl rfl rfl rfl ?_
                    refine RX.skip rfl rfl rfl rfl rfl rfl rfl ?_
                    refine RX.skip rfl rfl rfl rfl rfl rfl rfl ?_
                    refine RX.skip rfl rfl rfl rfl rfl rfl rfl ?_
                    refine RX.cons rfl rfl (op_w (yw_pickF rfl rfl rfl) rfl rfl ?_)
                    refine RX.nil (XX.next (V' := [(0, .slice y2.1 ((distinctF [] (fewF fs)).length) y2.2), (3, .bool true), (4, .slice y3.1 ((streams (distinctF [] (fewF fs))).length) y3.2), (5, .int .i64 ((i : Nat) : Int)), (6, .pointer (some ⟨gf, 0, none⟩)), (7, .bool true), (8, .bool (decide (f.second < Fct.stop (findF (distinctF [] (fewF fs)) s)))), (9, .int .i64 ((n : Nat) : Int)), (10, .int .i64 ((k : Nat) : Int)), (97, .bool false)]) ⟨rfl, rfl, rfl, rfl, rfl, rfl, rfl, rfl, rfl, rfl, trivial⟩ ?_)
                    refine CX.condF rfl ?_
                    refine CX.skip (XX.inBlock (V' := [(0, .slice y2.1 ((distinctF [] (fewF fs)).length) y2.2), (3, .bool true), (4, .slice y3.1 ((streams (distinctF [] (fewF fs))).length) y3.2), (5, .int .i64 ((i : Nat) : Int)), (6, .pointer (some ⟨gf, 0, none⟩)), (7, .bool true), (8, .bool (decide (f.second < Fct.stop (findF (distinctF [] (fewF fs)) s)))), (9, .int .i64 ((n : Nat) : Int)), (10, .int .i64 ((k : Nat) : Int))]) ⟨rfl, rfl, rfl, rfl, rfl, rfl, rfl, rfl, rfl, trivial⟩ ?_)
                    refine XX.next (V' := [(0, .slice y2.1 ((distinctF [] (fewF fs)).length) y2.2), (3, .bool true), (4, .slice y3.1 ((streams (distinctF [] (fewF fs))).length) y3.2), (5, .int .i64 ((i : Nat) : Int)), (6, .pointer (some ⟨gf, 0, none⟩)), (7, .bool true), (8, .bool (decide (f.second < Fct.stop (findF (distinctF [] (fewF fs)) s)))), (9, .int .i64 ((n : Nat) : Int)), (10, .int .i64 ((k : Nat) : Int))]) ⟨rfl, rfl, rfl, rfl, rfl, rfl, rfl, rfl, rfl, trivial⟩ ?_
                    refine CX.region ?_
                    refine RX.cons rfl rfl (op_w (yw_move rfl rfl) rfl rfl ?_)
                    refine RX.cons rfl rfl (op_w (yw_add rfl rfl rfl (by omega) (by omega)) rfl rfl ?_)
                    refine RX.cons rfl rfl (op_w (yw_assign rfl rfl) rfl rfl ?_)
                    refine RX.nil (XX.againP ([.blk gg (.cells (Fct.cells (findF (distinctF [] (fewF fs)) s)) 33 (0, 0)), .blk gs (.cells (Strm.cells s) 30 (0, 0))]) (k + 1, true, decide (f.second < Fct.stop (findF (distinctF [] (fewF fs)) s)), n) (by dsimp only; omega) ⟨by dsimp only; omega, any_yes hs hb1 d47, any_or hs hb2 d80 (overs_eq (by omega) d82), count_no hs (loops_no (by omega) d91) hnn⟩ ⟨rfl, rfl, rfl, rfl, rfl, rfl, rfl, rfl, rfl, trivial⟩ ((perm_pick 2 rfl).trans (List.Perm.cons _ ((perm_pick 2 rfl).trans (List.Perm.cons _ ((perm_pick 2 rfl).trans (List.Perm.cons _ ((perm_pick 2 rfl).trans (List.Perm.cons _ (List.Perm.refl _))))))))))
                · refine DX.skip 4 31 (by kernel_rfl) rfl rfl rfl rfl rfl rfl rfl rfl ?_
                  refine DX.skip 5 63 (by kernel_rfl) rfl rfl rfl rfl rfl rfl rfl rfl ?_
                  refine DX.skip 6 127 (by kernel_rfl) rfl rfl rfl rfl rfl rfl rfl rfl ?_
                  refine DX.skip 7 255 (by kernel_rfl) rfl rfl rfl rfl rfl rfl rfl rfl ?_
                  refine DX.skip 8 511 (by kernel_rfl) rfl rfl rfl rfl rfl rfl rfl rfl ?_
                  refine DX.takeWG 9 1023 (by kernel_rfl) rfl rfl rfl rfl rfl rfl rfl rfl (yw_pickF rfl rfl rfl) ?_
                  refine DX.takeW 10 2047 (by kernel_rfl) rfl rfl rfl rfl rfl (yw_pickF rfl rfl rfl) ?_
                  refine DX.takeW 11 4095 (by kernel_rfl) rfl rfl rfl rfl rfl (yw_assign rfl rfl) ?_
                  refine DX.done (by kernel_rfl) (XX.next (V' := [(0, .slice y2.1 ((distinctF [] (fewF fs)).length) y2.2), (3, .bool true), (4, .slice y3.1 ((streams (distinctF [] (fewF fs))).length) y3.2), (5, .int .i64 ((i : Nat) : Int)), (6, .pointer (some ⟨gf, 0, none⟩)), (7, .bool true), (8, .bool false), (9, .int .i64 ((n : Nat) : Int)), (10, .int .i64 ((k : Nat) : Int)), (11, .pointer (some ⟨gs, 0, none⟩)), (14, .bool (earlier (findF (distinctF [] (fewF fs)) s) f))]) ⟨rfl, rfl, rfl, rfl, rfl, rfl, rfl, rfl, rfl, rfl, rfl, trivial⟩ ?_)
                  refine CX.seq ?_
                  refine CX.region ?_
                  refine RX.cons rfl rfl (op_w (yw_move rfl rfl) rfl rfl ?_)
                  refine RX.cons rfl rfl (op_w (yw_move rfl rfl) rfl rfl ?_)
                  refine RX.split (t := 91) (b := (earlier (findF (distinctF [] (fewF fs)) s) f)) rfl (fun d91 => ?_) (fun d91 => ?_)
                  · refine RX.consG rfl rfl rfl rfl rfl (op_w (yw_fieldAddr rfl fld_30_3 rfl) rfl rfl ?_)
                    refine RX.consG rfl rfl rfl rfl rfl (op_yld (y_load (i := 1) rfl rfl one_3 rfl rfl) rfl rfl ?_)
                    refine RX.consG rfl rfl rfl rfl rfl (op_w (yw_fieldAddr rfl fld_33_7 rfl) rfl rfl ?_)
                    refine RX.consG rfl rfl rfl rfl rfl (op_yld (y_load (i := 2) rfl rfl one_3 rfl rfl) rfl rfl ?_)
                    refine RX.consG rfl rfl rfl rfl rfl (op_w (yw_eql rfl rfl rfl) rfl rfl ?_)
                    refine RX.cons rfl rfl (op_w (yw_pickT rfl rfl rfl) rfl rfl ?_)
                    refine RX.nil (XX.next (V' := [(0, .slice y2.1 ((distinctF [] (fewF fs)).length) y2.2), (3, .bool true), (4, .slice y3.1 ((streams (distinctF [] (fewF fs))).length) y3.2), (5, .int .i64 ((i : Nat) : Int)), (6, .pointer (some ⟨gf, 0, none⟩)), (7, .bool true), (8, .bool false), (9, .int .i64 ((n : Nat) : Int)), (10, .int .i64 ((k : Nat) : Int)), (97, .bool (decide (s.recording = f.recording)))]) ⟨rfl, rfl, rfl, rfl, rfl, rfl, rfl, rfl, rfl, rfl, trivial⟩ ?_)
                    refine CX.condD (p := s.recording = f.recording) rfl (fun c97 => ?_) (fun c97 => ?_)
                    · refine CX.region ?_
                      refine RX.cons rfl rfl (op_w (yw_move rfl rfl) rfl rfl ?_)
                      refine RX.cons rfl rfl (op_w (yw_add rfl rfl rfl (by omega) (by omega)) rfl rfl ?_)
                      refine RX.cons rfl rfl (op_w (yw_assign rfl rfl) rfl rfl ?_)
                      refine RX.nil (XX.inBlock (V' := [(0, .slice y2.1 ((distinctF [] (fewF fs)).length) y2.2), (3, .bool true), (4, .slice y3.1 ((streams (distinctF [] (fewF fs))).length) y3.2), (5, .int .i64 ((i : Nat) : Int)), (6, .pointer (some ⟨gf, 0, none⟩)), (7, .bool true), (8, .bool false), (9, .int .i64 (((n : Nat) : Int) + 1)), (10, .int .i64 ((k : Nat) : Int))]) ⟨rfl, rfl, rfl, rfl, rfl, rfl, rfl, rfl, rfl, trivial⟩ ?_)
                      refine XX.next (V' := [(0, .slice y2.1 ((distinctF [] (fewF fs)).length) y2.2), (3, .bool true), (4, .slice y3.1 ((streams (distinctF [] (fewF fs))).length) y3.2), (5, .int .i64 ((i : Nat) : Int)), (6, .pointer (some ⟨gf, 0, none⟩)), (7, .bool true), (8, .bool false), (9, .int .i64 (((n : Nat) : Int) + 1)), (10, .int .i64 ((k : Nat) : Int))]) ⟨rfl, rfl, rfl, rfl, rfl, rfl, rfl, rfl, rfl, trivial⟩ ?_
                      refine CX.region ?_
                      refine RX.cons rfl rfl (op_w (yw_move rfl rfl) rfl rfl ?_)
                      refine RX.cons rfl rfl (op_w (yw_add rfl rfl rfl (by omega) (by omega)) rfl rfl ?_)
                      refine RX.cons rfl rfl (op_w (yw_assign rfl rfl) rfl rfl ?_)
                      refine RX.nil (XX.againP ([.blk gg (.cells (Fct.cells (findF (distinctF [] (fewF fs)) s)) 33 (0, 0)), .blk gs (.cells (Strm.cells s) 30 (0, 0))]) (k + 1, true, false, n + 1) (by dsimp only; omega) ⟨by dsimp only; omega, any_yes hs hb1 d47, any_or hs hb2 d80 (overs_no (by omega) d82), count_yes hs (loops_yes (by omega) d91 c97) hnn⟩ ⟨rfl, rfl, rfl, rfl, rfl, rfl, rfl, rfl, rfl, trivial⟩ ((perm_pick 2 rfl).trans (List.Perm.cons _ ((perm_pick 2 rfl).trans (List.Perm.cons _ ((perm_pick 2 rfl).trans (List.Perm.cons _ ((perm_pick 2 rfl).trans (List.Perm.cons _ (List.Perm.refl _))))))))))
                    · refine CX.skip (XX.inBlock (V' := [(0, .slice y2.1 ((distinctF [] (fewF fs)).length) y2.2), (3, .bool true), (4, .slice y3.1 ((streams (distinctF [] (fewF fs))).length) y3.2), (5, .int .i64 ((i : Nat) : Int)), (6, .pointer (some ⟨gf, 0, none⟩)), (7, .bool true), (8, .bool false), (9, .int .i64 ((n : Nat) : Int)), (10, .int .i64 ((k : Nat) : Int))]) ⟨rfl, rfl, rfl, rfl, rfl, rfl, rfl, rfl, rfl, trivial⟩ ?_)
                      refine XX.next (V' := [(0, .slice y2.1 ((distinctF [] (fewF fs)).length) y2.2), (3, .bool true), (4, .slice y3.1 ((streams (distinctF [] (fewF fs))).length) y3.2), (5, .int .i64 ((i : Nat) : Int)), (6, .pointer (some ⟨gf, 0, none⟩)), (7, .bool true), (8, .bool false), (9, .int .i64 ((n : Nat) : Int)), (10, .int .i64 ((k : Nat) : Int))]) ⟨rfl, rfl, rfl, rfl, rfl, rfl, rfl, rfl, rfl, trivial⟩ ?_
                      refine CX.region ?_
                      refine RX.cons rfl rfl (op_w (yw_move rfl rfl) rfl rfl ?_)
                      refine RX.cons rfl rfl (op_w (yw_add rfl rfl rfl (by omega) (by omega)) rfl rfl ?_)
                      refine RX.cons rfl rfl (op_w (yw_assign rfl rfl) rfl rfl ?_)
                      refine RX.nil (XX.againP ([.blk gg (.cells (Fct.cells (findF (distinctF [] (fewF fs)) s)) 33 (0, 0)), .blk gs (.cells (Strm.cells s) 30 (0, 0))]) (k + 1, true, false, n) (by dsimp only; omega) ⟨by dsimp only; omega, any_yes hs hb1 d47, any_or hs hb2 d80 (overs_no (by omega) d82), count_no hs (loops_rec c97) hnn⟩ ⟨rfl, rfl, rfl, rfl, rfl, rfl, rfl, rfl, rfl, trivial⟩ ((perm_pick 2 rfl).trans (List.Perm.cons _ ((perm_pick 2 rfl).trans (List.Perm.cons _ ((perm_pick 2 rfl).trans (List.Perm.cons _ ((perm_pick 2 rfl).trans (List.Perm.cons _ (List.Perm.refl _))))))))))
                  · refine RX.skip rfl rfl rfl rfl rfl rfl rfl ?_
                    refine RX.skip rfl rfl rfl rfl rfl rfl rfl ?_
                    refine RX.skip rfl rfl rfl rfl rfl rfl rfl ?_
                    refine RX.skip rfl rfl rfl rfl rfl rfl rfl ?_
                    refine RX.skip rfl rfl rfl rfl rfl rfl rfl ?_
                    refine RX.cons rfl rfl (op_w (yw_pickF rfl rfl rfl) rfl rfl ?_)
                    refine RX.nil (XX.next (V' := [(0, .slice y2.1 ((distinctF [] (fewF fs)).length) y2.2), (3, .bool true), (4, .slice y3.1 ((streams (distinctF [] (fewF fs))).length) y3.2), (5, .int .i64 ((i : Nat) : Int)), (6, .pointer (some ⟨gf, 0, none⟩)), (7, .bool true), (8, .bool false), (9, .int .i64 ((n : Nat) : Int)), (10, .int .i64 ((k : Nat) : Int)), (97, .bool false)]) ⟨rfl, rfl, rfl, rfl, rfl, rfl, rfl, rfl, rfl, rfl, trivial⟩ ?_)
                    refine CX.condF rfl ?_
                    refine CX.skip (XX.inBlock (V' := [(0, .slice y2.1 ((distinctF [] (fewF fs)).length) y2.2), (3, .bool true), (4, .slice y3.1 ((streams (distinctF [] (fewF fs))).length) y3.2), (5, .int .i64 ((i : Nat) : Int)), (6, .pointer (some ⟨gf, 0, none⟩)), (7, .bool true), (8, .bool false), (9, .int .i64 ((n : Nat) : Int)), (10, .int .i64 ((k : Nat) : Int))]) ⟨rfl, rfl, rfl, rfl, rfl, rfl, rfl, rfl, rfl, trivial⟩ ?_)
                    refine XX.next (V' := [(0, .slice y2.1 ((distinctF [] (fewF fs)).length) y2.2), (3, .bool true), (4, .slice y3.1 ((streams (distinctF [] (fewF fs))).length) y3.2), (5, .int .i64 ((i : Nat) : Int)), (6, .pointer (some ⟨gf, 0, none⟩)), (7, .bool true), (8, .bool false), (9, .int .i64 ((n : Nat) : Int)), (10, .int .i64 ((k : Nat) : Int))]) ⟨rfl, rfl, rfl, rfl, rfl, rfl, rfl, rfl, rfl, trivial⟩ ?_
                    refine CX.region ?_
                    refine RX.cons rfl rfl (op_w (yw_move rfl rfl) rfl rfl ?_)
                    refine RX.cons rfl rfl (op_w (yw_add rfl rfl rfl (by omega) (by omega)) rfl rfl ?_)
                    refine RX.cons rfl rfl (op_w (yw_assign rfl rfl) rfl rfl ?_)
                    refine RX.nil (XX.againP ([.blk gg (.cells (Fct.cells (findF (distinctF [] (fewF fs)) s)) 33 (0, 0)), .blk gs (.cells (Strm.cells s) 30 (0, 0))]) (k + 1, true, false, n) (by dsimp only; omega) ⟨by dsimp only; omega, any_yes hs hb1 d47, any_or hs hb2 d80 (overs_no (by omega) d82), count_no hs (loops_no (by omega) d91) hnn⟩ ⟨rfl, rfl, rfl, rfl, rfl, rfl, rfl, rfl, rfl, trivial⟩ ((perm_pick 2 rfl).trans (List.Perm.cons _ ((perm_pick 2 rfl).trans (List.Perm.cons _ ((perm_pick 2 rfl).trans (List.Perm.cons _ ((perm_pick 2 rfl).trans (List.Perm.cons _ (List.Perm.refl _))))))))))
        · refine RX.consG rfl rfl rfl rfl rfl (op_w (yw_fieldAddr rfl fld_30_1 rfl) rfl rfl ?_)
          refine RX.consG rfl rfl rfl rfl rfl (op_yld (y_load (i := 0) rfl rfl one_3 rfl rfl) rfl rfl ?_)
          refine RX.consG rfl rfl rfl rfl rfl (op_w (yw_fieldAddr rfl fld_33_1 rfl) rfl rfl ?_)
          refine RX.consG rfl rfl rfl rfl rfl (op_yld (y_load (i := 1) rfl rfl one_3 rfl rfl) rfl rfl ?_)
          refine RX.consG rfl rfl rfl rfl rfl (op_w (yw_eql rfl rfl rfl) rfl rfl ?_)
          refine RX.cons rfl rfl (op_w (yw_pickF rfl rfl rfl) rfl rfl ?_)
          refine RX.cons rfl rfl (op_w (yw_assign rfl rfl) rfl rfl ?_)
          refine RX.nil (XX.next (V' := [(0, .slice y2.1 ((distinctF [] (fewF fs)).length) y2.2), (3, .bool true), (4, .slice y3.1 ((streams (distinctF [] (fewF fs))).length) y3.2), (5, .int .i64 ((i : Nat) : Int)), (6, .pointer (some ⟨gf, 0, none⟩)), (7, .bool (decide (s.id = f.id))), (8, .bool b2), (9, .int .i64 ((n : Nat) : Int)), (10, .int .i64 ((k : Nat) : Int)), (11, .pointer (some ⟨gs, 0, none⟩))]) ⟨rfl, rfl, rfl, rfl, rfl, rfl, rfl, rfl, rfl, rfl, trivial⟩ ?_)
          refine CX.seq ?_
          refine CX.region ?_
          refine RX.cons rfl rfl (op_w (yw_move rfl rfl) rfl rfl ?_)
          refine RX.cons rfl rfl (op_yld (y_loadA (i := 0) rfl rfl agg_30 rfl rfl) rfl rfl ?_)
          refine RX.cons rfl rfl (op_callV (v := .tuple #[.agg (Fct.cells (findF (distinctF [] (fewF fs)) s)), .bool (foundF (distinctF [] (fewF fs)) s)]) rfl rfl rfl rfl rfl ent_15 (fun w hw => w_find (distinctF [] (fewF fs)) s (Ent.rd (hw.ents _ (List.mem_of_getElem? (i := 3) rfl))) (by omega)) ?_)
          refine RX.cons rfl rfl (op_w (yw_move rfl rfl) rfl rfl ?_)
          refine RX.cons rfl rfl (op_w (yw_extract rfl rfl rfl) rfl rfl ?_)
          refine RX.cons rfl rfl (op_w (yw_extract rfl rfl rfl) rfl rfl ?_)
          refine RX.cons rfl rfl (op_alloc rfl rfl rfl zero_33 fun gg => ?_)
          refine RX.cons rfl rfl (op_storeAll (i := 0) rfl rfl rfl rfl szt_33 rfl (plain_of rfl) rfl rfl ?_)
          refine RX.cons rfl rfl (op_w (yw_assign rfl rfl) rfl rfl ?_)
          refine RX.nil (XX.next (V' := [(0, .slice y2.1 ((distinctF [] (fewF fs)).length) y2.2), (3, .bool true), (4, .slice y3.1 ((streams (distinctF [] (fewF fs))).length) y3.2), (5, .int .i64 ((i : Nat) : Int)), (6, .pointer (some ⟨gf, 0, none⟩)), (7, .bool (decide (s.id = f.id))), (8, .bool b2), (9, .int .i64 ((n : Nat) : Int)), (10, .int .i64 ((k : Nat) : Int)), (11, .pointer (some ⟨gs, 0, none⟩)), (12, .pointer (some ⟨gg, 0, none⟩))]) ⟨rfl, rfl, rfl, rfl, rfl, rfl, rfl, rfl, rfl, rfl, rfl, trivial⟩ ?_)
          refine CX.seq ?_
          refine CX.region ?_
          refine RX.cons rfl rfl (op_w (yw_fieldAddr rfl fld_33_4 rfl) rfl rfl ?_)
          refine RX.cons rfl rfl (op_yld (y_load (i := 0) rfl rfl one_3 rfl rfl) rfl rfl ?_)
          refine RX.cons rfl rfl (op_w (yw_fieldAddr rfl fld_33_4 rfl) rfl rfl ?_)
          refine RX.cons rfl rfl (op_yld (y_load (i := 2) rfl rfl one_3 rfl rfl) rfl rfl ?_)
          refine RX.cons rfl rfl (op_w (yw_lss rfl rfl rfl) rfl rfl ?_)
          refine RX.cons rfl rfl (op_w (yw_move rfl rfl) rfl rfl ?_)
          refine RX.splitD (t := 65) (p := (findF (distinctF [] (fewF fs)) s).second < f.second) rfl (fun d65 => ?_) (fun d65 => ?_)
          · refine RX.skip rfl rfl rfl rfl rfl rfl rfl ?_
            refine RX.skip rfl rfl rfl rfl rfl rfl rfl ?_
            refine RX.skip rfl rfl rfl rfl rfl rfl rfl ?_
            refine RX.skip rfl rfl rfl rfl rfl rfl rfl ?_
            refine RX.skip rfl rfl rfl rfl rfl rfl rfl ?_
            refine RX.skip rfl rfl rfl rfl rfl rfl rfl ?_
            refine RX.skip rfl rfl rfl rfl rfl rfl rfl ?_
            refine RX.skip rfl rfl rfl rfl rfl rfl rfl ?_
            refine RX.skip rfl rfl rfl rfl rfl rfl rfl ?_
            refine RX.skip rfl rfl rfl rfl rfl rfl rfl ?_
            refine RX.skip rfl rfl rfl rfl rfl rfl rfl ?_
            refine RX.skip rfl rfl rfl rfl rfl rfl rfl ?_
            refine RX.cons rfl rfl (op_w (yw_pickT rfl rfl rfl) rfl rfl ?_)
            refine RX.cons rfl rfl (op_w (yw_assign rfl rfl) rfl rfl ?_)
            refine RX.know (t := 14) (u := .bool (earlier (findF (distinctF [] (fewF fs)) s) f)) rfl (congrArg Value.bool (earlier_lt d65).symm) ?_
            refine RX.nil (XX.next (V' := [(0, .slice y2.1 ((distinctF [] (fewF fs)).length) y2.2), (3, .bool true), (4, .slice y3.1 ((streams (distinctF [] (fewF fs))).length) y3.2), (5, .int .i64 ((i : Nat) : Int)), (6, .pointer (some ⟨gf, 0, none⟩)), (7, .bool (decide (s.id = f.id))), (8, .bool b2), (9, .int .i64 ((n : Nat) : Int)), (10, .int .i64 ((k : Nat) : Int)), (11, .pointer (some ⟨gs, 0, none⟩)), (12, .pointer (some ⟨gg, 0, none⟩)), (14, .bool (earlier (findF (distinctF [] (fewF fs)) s) f))]) ⟨rfl, rfl, rfl, rfl, rfl, rfl, rfl, rfl, rfl, rfl, rfl, rfl, trivial⟩ ?_)
            refine CX.seq ?_
            refine CX.draw 12 (by kernel_rfl) ?_
            refine DX.takeW 0 1 (by kernel_rfl) rfl rfl rfl rfl rfl (yw_move rfl rfl) ?_
            refine DX.takeW 1 3 (by kernel_rfl) rfl rfl rfl rfl rfl (yw_move rfl rfl) ?_
            refine DX.split (t := 80) (b := b2) rfl (fun d80 => ?_) (fun d80 => ?_)
            · refine DX.skip 2 7 (by kernel_rfl) rfl rfl rfl rfl rfl rfl rfl rfl ?_
              refine DX.skip 3 15 (by kernel_rfl) rfl rfl rfl rfl rfl rfl rfl rfl ?_
              refine DX.skip 4 31 (by kernel_rfl) rfl rfl rfl rfl rfl rfl rfl rfl ?_
              refine DX.skip 5 63 (by kernel_rfl) rfl rfl rfl rfl rfl rfl rfl rfl ?_
              refine DX.skip 6 127 (by kernel_rfl) rfl rfl rfl rfl rfl rfl rfl rfl ?_
              refine DX.skip 7 255 (by kernel_rfl) rfl rfl rfl rfl rfl rfl rfl rfl ?_
              refine DX.skip 8 511 (by kernel_rfl) rfl rfl rfl rfl rfl rfl rfl rfl ?_
              refine DX.skip 9 1023 (by kernel_rfl) rfl rfl rfl rfl rfl rfl rfl rfl ?_
              refine DX.takeW 10 2047 (by kernel_rfl) rfl rfl rfl rfl rfl (yw_pickT rfl rfl rfl) ?_
              refine DX.takeW 11 4095 (by kernel_rfl) rfl rfl rfl rfl rfl (yw_assign rfl rfl) ?_
              refine DX.done (by kernel_rfl) (XX.next (V' := [(0, .slice y2.1 ((distinctF [] (fewF fs)).length) y2.2), (3, .bool true), (4, .slice y3.1 ((streams (distinctF [] (fewF fs))).length) y3.2), (5, .int .i64 ((i : Nat) : Int)), (6, .pointer (some ⟨gf, 0, none⟩)), (7, .bool (decide (s.id = f.id))), (8, .bool true), (9, .int .i64 ((n : Nat) : Int)), (10, .int .i64 ((k : Nat) : Int)), (11, .pointer (some ⟨gs, 0, none⟩)), (14, .bool (earlier (findF (distinctF [] (fewF fs)) s) f))]) ⟨rfl, rfl, rfl, rfl, rfl, rfl, rfl, rfl, rfl, rfl, rfl, trivial⟩ ?_)
              refine CX.seq ?_
              refine CX.region ?_
              refine RX.cons rfl rfl (op_w (yw_move rfl rfl) rfl rfl ?_)
              refine RX.cons rfl rfl (op_w (yw_move rfl rfl) rfl rfl ?_)
              refine RX.split (t := 91) (b := (earlier (findF (distinctF [] (fewF fs)) s) f)) rfl (fun d91 => ?_) (fun d91 => ?_)
              · refine RX.consG rfl rfl rfl rfl rfl (op_w (yw_fieldAddr rfl fld_30_3 rfl) rfl rfl ?_)
                refine RX.consG rfl rfl rfl rfl rfl (op_yld (y_load (i := 1) rfl rfl one_3 rfl rfl) rfl rfl ?_)
                refine RX.consG rfl rfl rfl rfl rfl (op_w (yw_fieldAddr rfl fld_33_7 rfl) rfl rfl ?_)
                refine RX.consG rfl rfl rfl rfl rfl (op_yld (y_load (i := 2) rfl rfl one_3 rfl rfl) rfl rfl ?_)
                refine RX.consG rfl rfl rfl rfl rfl (op_w (yw_eql rfl rfl rfl) rfl rfl ?_)
                refine RX.cons rfl rfl (op_w (yw_pickT rfl rfl rfl) rfl rfl ?_)
                refine RX.nil (XX.next (V' := [(0, .slice y2.1 ((distinctF [] (fewF fs)).length) y2.2), (3, .bool true), (4, .slice y3.1 ((streams (distinctF [] (fewF fs))).length) y3.2), (5, .int .i64 ((i : Nat) : Int)), (6, .pointer (some ⟨gf, 0, none⟩)), (7, .bool (decide (s.id = f.id))), (8, .bool true), (9, .int .i64 ((n : Nat) : Int)), (10, .int .i64 ((k : Nat) : Int)), (97, .bool (decide (s.recording = f.recording)))]) ⟨rfl, rfl, rfl, rfl, rfl, rfl, rfl, rfl, rfl, rfl, trivial⟩ ?_)
                refine CX.condD (p := s.recording = f.recording) rfl (fun c97 => ?_) (fun c97 => ?_)
                · refine CX.region ?_
                  refine RX.cons rfl rfl (op_w (yw_move rfl rfl) rfl rfl ?_)
                  refine RX.cons rfl rfl (op_w (yw_add rfl rfl rfl (by omega) (by omega)) rfl rfl ?_)
                  refine RX.cons rfl rfl (op_w (yw_assign rfl rfl) rfl rfl ?_)
                  refine RX.nil (XX.inBlock (V' := [(0, .slice y2.1 ((distinctF [] (fewF fs)).length) y2.2), (3, .bool true), (4, .slice y3.1 ((streams (distinctF [] (fewF fs))).length) y3.2), (5, .int .i64 ((i : Nat) : Int)), (6, .pointer (some ⟨gf, 0, none⟩)), (7, .bool (decide (s.id = f.id))), (8, .bool true), (9, .int .i64 (((n : Nat) : Int) + 1)), (10, .int .i64 ((k : Nat) : Int))]) ⟨rfl, rfl, rfl, rfl, rfl, rfl, rfl, rfl, rfl, trivial⟩ ?_)
                  refine XX.next (V' := [(0, .slice y2.1 ((distinctF [] (fewF fs)).length) y2.2), (3, .bool true), (4, .slice y3.1 ((streams (distinctF [] (fewF fs))).length) y3.2), (5, .int .i64 ((i : Nat) : Int)), (6, .pointer (some ⟨gf, 0, none⟩)), (7, .bool (decide (s.id = f.id))), (8, .bool true), (9, .int .i64 (((n : Nat) : Int) + 1)), (10, .int .i64 ((k : Nat) : Int))]) ⟨rfl, rfl, rfl, rfl, rfl, rfl, rfl, rfl, rfl, trivial⟩ ?_
                  refine CX.region ?_
                  refine RX.cons rfl rfl (op_w (yw_move rfl rfl) rfl rfl ?_)
                  refine RX.cons rfl rfl (op_w (yw_add rfl rfl rfl (by omega) (by omega)) rfl rfl ?_)
                  refine RX.cons rfl rfl (op_w (yw_assign rfl rfl) rfl rfl ?_)
                  refine RX.nil (XX.againP ([.blk gg (.cells (Fct.cells (findF (distinctF [] (fewF fs)) s)) 33 (0, 0)), .blk gs (.cells (Strm.cells s) 30 (0, 0))]) (k + 1, decide (s.id = f.id), true, n + 1) (by dsimp only; omega) ⟨by dsimp only; omega, any_or hs hb1 d47 (hers_eq (by omega)), any_yes hs hb2 d80, count_yes hs (loops_yes (by omega) d91 c97) hnn⟩ ⟨rfl, rfl, rfl, rfl, rfl, rfl, rfl, rfl, rfl, trivial⟩ ((perm_pick 2 rfl).trans (List.Perm.cons _ ((perm_pick 2 rfl).trans (List.Perm.cons _ ((perm_pick 2 rfl).trans (List.Perm.cons _ ((perm_pick 2 rfl).trans (List.Perm.cons _ (List.Perm.refl _))))))))))
                · refine CX.skip (XX.inBlock (V' := [(0, .slice y2.1 ((distinctF [] (fewF fs)).length) y2.2), (3, .bool true), (4, .slice y3.1 ((streams (distinctF [] (fewF fs))).length) y3.2), (5, .int .i64 ((i : Nat) : Int)), (6, .pointer (some ⟨gf, 0, none⟩)), (7, .bool (decide (s.id = f.id))), (8, .bool true), (9, .int .i64 ((n : Nat) : Int)), (10, .int .i64 ((k : Nat) : Int))]) ⟨rfl, rfl, rfl, rfl, rfl, rfl, rfl, rfl, rfl, trivial⟩ ?_)
                  refine XX.next (V' := [(0, .slice y2.1 ((distinctF [] (fewF fs)).length) y2.2), (3, .bool true), (4, .slice y3.1 ((streams (distinctF [] (fewF fs))).length) y3.2), (5, .int .i64 ((i : Nat) : Int)), (6, .pointer (some ⟨gf, 0, none⟩)), (7, .bool (decide (s.id = f.id))), (8, .bool true), (9, .int .i64 ((n : Nat) : Int)), (10, .int .i64 ((k : Nat) : Int))]) ⟨rfl, rfl, rfl, rfl, rfl, rfl, rfl, rfl, rfl, trivial⟩ ?_
                  refine CX.region ?_
                  refine RX.cons rfl rfl (op_w (yw_move rfl rfl) rfl rfl ?_)
                  refine RX.cons rfl rfl (op_w (yw_add rfl rfl rfl (by omega) (by omega)) rfl rfl ?_)
                  refine RX.cons rfl rfl (op_w (yw_assign rfl rfl) rfl rfl ?_)
                  refine RX.nil (XX.againP ([.blk gg (.cells (Fct.cells (findF (distinctF [] (fewF fs)) s)) 33 (0, 0)), .blk gs (.cells (Strm.cells s) 30 (0, 0))]) (k + 1, decide (s.id = f.id), true, n) (by dsimp only; omega) ⟨by dsimp only; omega, any_or hs hb1 d47 (hers_eq (by omega)), any_yes hs hb2 d80, count_no hs (loops_rec c97) hnn⟩ ⟨rfl, rfl, rfl, rfl, rfl, rfl, rfl, rfl, rfl, trivial⟩ ((perm_pick 2 rfl).trans (List.Perm.cons _ ((perm_pick 2 rfl).trans (List.Perm.cons _ ((perm_pick 2 rfl).trans (List.Perm.cons _ ((perm_pick 2 rfl).trans (List.Perm.cons _ (List.Perm.refl _))))))))))
              · refine RX.skip rfl rfl rfl rfl rfl rfl rfl ?_
                refine RX.skip rfl rfl rfl rfl rfl rfl rfl ?_
                refine RX.skip rfl rfl rfl rfl rfl rfl rfl ?_
                refine RX.skip rfl rfl rfl rfl rfl rfl rfl ?_
                refine RX.skip rfl rfl rfl rfl rfl rfl rfl ?_
                refine RX.cons rfl rfl (op_w (yw_pickF rfl rfl rfl) rfl rfl ?_)
                refine RX.nil (XX.next (V' := [(0, .slice y2.1 ((distinctF [] (fewF fs)).length) y2.2), (3, .bool true), (4, .slice y3.1 ((streams (distinctF [] (fewF fs))).length) y3.2), (5, .int .i64 ((i : Nat) : Int)), (6, .pointer (some ⟨gf, 0, none⟩)), (7, .bool (decide (s.id = f.id))), (8, .bool true), (9, .int .i64 ((n : Nat) : Int)), (10, .int .i64 ((k : Nat) : Int)), (97, .bool false)]) ⟨rfl, rfl, rfl, rfl, rfl, rfl, rfl, rfl, rfl, rfl, trivial⟩ ?_)
                refine CX.condF rfl ?_
                refine CX.skip (XX.inBlock (V' := [(0, .slice y2.1 ((distinctF [] (fewF fs)).length) y2.2), (3, .bool true), (4, .slice y3.1 ((streams (distinctF [] (fewF fs))).length) y3.2), (5, .int .i64 ((i : Nat) : Int)), (6, .pointer (some ⟨gf, 0, none⟩)), (7, .bool (decide (s.id = f.id))), (8, .bool true), (9, .int .i64 ((n : Nat) : Int)), (10, .int .i64 ((k : Nat) : Int))]) ⟨rfl, rfl, rfl, rfl, rfl, rfl, rfl, rfl, rfl, trivial⟩ ?_)
                refine XX.next (V' := [(0, .slice y2.1 ((distinctF [] (fewF fs)).length) y2.2), (3, .bool true), (4, .slice y3.1 ((streams (distinctF [] (fewF fs))).length) y3.2), (5, .int .i64 ((i : Nat) : Int)), (6, .pointer (some ⟨gf, 0, none⟩)), (7, .bool (decide (s.id = f.id))), (8, .bool true), (9, .int .i64 ((n : Nat) : Int)), (10, .int .i64 ((k : Nat) : Int))]) ⟨rfl, rfl, rfl, rfl, rfl, rfl, rfl, rfl, rfl, trivial⟩ ?_
                refine CX.region ?_
                refine RX.cons rfl rfl (op_w (yw_move rfl rfl) rfl rfl ?_)
                refine RX.cons rfl rfl (op_w (yw_add rfl rfl rfl (by omega) (by omega)) rfl rfl ?_)
                refine RX.cons rfl rfl (op_w (yw_assign rfl rfl) rfl rfl ?_)
                refine RX.nil (XX.againP ([.blk gg (.cells (Fct.cells (findF (distinctF [] (fewF fs)) s)) 33 (0, 0)), .blk gs (.cells (Strm.cells s) 30 (0, 0))]) (k + 1, decide (s.id = f.id), true, n) (by dsimp only; omega) ⟨by dsimp only; omega, any_or hs hb1 d47 (hers_eq (by omega)), any_yes hs hb2 d80, count_no hs (loops_no (by omega) d91) hnn⟩ ⟨rfl, rfl, rfl, rfl, rfl, rfl, rfl, rfl, rfl, trivial⟩ ((perm_pick 2 rfl).trans (List.Perm.cons _ ((perm_pick 2 rfl).trans (List.Perm.cons _ ((perm_pick 2 rfl).trans (List.Perm.cons _ ((perm_pick 2 rfl).trans (List.Perm.cons _ (List.Perm.refl _))))))))))
            · refine DX.takeWG 2 7 (by kernel_rfl) rfl rfl rfl rfl rfl rfl rfl rfl (yw_move rfl rfl) ?_
              refine DX.takeWG 3 15 (by kernel_rfl) rfl rfl rfl rfl rfl rfl rfl rfl (yw_move rfl rfl) ?_
              refine DX.split (t := 82) (b := (earlier (findF (distinctF [] (fewF fs)) s) f)) rfl (fun d82 => ?_) (fun d82 => ?_)
              · refine DX.takeWG 4 31 (by kernel_rfl) rfl rfl rfl rfl rfl rfl rfl rfl (yw_fieldAddr rfl fld_33_4 rfl) ?_
                refine DX.takeG 5 63 (by kernel_rfl) rfl rfl rfl rfl rfl rfl rfl rfl (List.Sublist.refl _) (y_load (i := 2) rfl rfl one_3 rfl rfl) ?_
                refine DX.takeG 6 127 (by kernel_rfl) rfl rfl rfl rfl rfl rfl rfl rfl (List.Sublist.refl _) (y_loadA (i := 0) rfl rfl agg_33 rfl rfl) ?_
                refine DX.stepG 7 255 (by kernel_rfl) rfl rfl rfl rfl rfl rfl (op_callV (v := .int .i64 (Fct.stop (findF (distinctF [] (fewF fs)) s))) rfl rfl rfl rfl rfl ent_16 (fun w _ => w_refEnd (findF (distinctF [] (fewF fs)) s) hh.s0 hh.s1 hh.a0 hh.a1) (DXs.mk (List.Sublist.refl _) ?_))
                refine DX.takeWG 8 511 (by kernel_rfl) rfl rfl rfl rfl rfl rfl rfl rfl (yw_lss rfl rfl rfl) ?_
                refine DX.takeWG 9 1023 (by kernel_rfl) rfl rfl rfl rfl rfl rfl rfl rfl (yw_pickT rfl rfl rfl) ?_
                refine DX.takeW 10 2047 (by kernel_rfl) rfl rfl rfl rfl rfl (yw_pickF rfl rfl rfl) ?_
                refine DX.takeW 11 4095 (by kernel_rfl) rfl rfl rfl rfl rfl (yw_assign rfl rfl) ?_
                refine DX.done (by kernel_rfl) (XX.next (V' := [(0, .slice y2.1 ((distinctF [] (fewF fs)).length) y2.2), (3, .bool true), (4, .slice y3.1 ((streams (distinctF [] (fewF fs))).length) y3.2), (5, .int .i64 ((i : Nat) : Int)), (6, .pointer (some ⟨gf, 0, none⟩)), (7, .bool (decide (s.id = f.id))), (8, .bool (decide (f.second < Fct.stop (findF (distinctF [] (fewF fs)) s)))), (9, .int .i64 ((n : Nat) : Int)), (10, .int .i64 ((k : Nat) : Int)), (11, .pointer (some ⟨gs, 0, none⟩)), (14, .bool (earlier (findF (distinctF [] (fewF fs)) s) f))]) ⟨rfl, rfl, rfl, rfl, rfl, rfl, rfl, rfl, rfl, rfl, rfl, trivial⟩ ?_)
                refine CX.seq ?_
                refine CX.region ?_
                refine RX.cons rfl rfl (op_w (yw_move rfl rfl) rfl rfl ?_)
                refine RX.cons rfl rfl (op_w (yw_move rfl rfl) rfl rfl ?_)
                refine RX.split (t := 91) (b := (earlier (findF (distinctF [] (fewF fs)) s) f)) rfl (fun d91 => ?_) (fun d91 => ?_)
                · refine RX.consG rfl rfl rfl rfl rfl (op_w (yw_fieldAddr rfl fld_30_3 rfl) rfl rfl ?_)
                  refine RX.consG rfl rfl rfl rfl rfl (op_yld (y_load (i := 1) rfl rfl one_3 rfl rfl) rfl rfl ?_)
                  refine RX.consG rfl rfl rfl rfl rfl (op_w (yw_fieldAddr rfl fld_33_7 rfl) rfl rfl ?_)
                  refine RX.consG rfl rfl rfl rfl rfl (op_yld (y_load (i := 2) rfl rfl one_3 rfl rfl) rfl rfl ?_)
                  refine RX.consG rfl rfl rfl rfl rfl (op_w (yw_eql rfl rfl rfl) rfl rfl ?_)
                  refine RX.cons rfl rfl (op_w (yw_pickT rfl rfl rfl) rfl rfl ?_)
                  refine RX.nil (XX.next (V' := [(0, .slice y2.1 ((distinctF [] (fewF fs)).length) y2.2), (3, .bool true), (4, .slice y3.1 ((streams (distinctF [] (fewF fs))).length) y3.2), (5, .int .i64 ((i : Nat) : Int)), (6, .pointer (some ⟨gf, 0, none⟩)), (7, .bool (decide (s.id = f.id))), (8, .bool (decide (f.second < Fct.stop (findF (distinctF [] (fewF fs)) s)))), (9, .int .i64 ((n : Nat) : Int)), (10, .int .i64 ((k : Nat) : Int)), (97, .bool (decide (s.recording = f.recording)))]) ⟨rfl, rfl, rfl, rfl, rfl, rfl, rfl, rfl, rfl, rfl, trivial⟩ ?_)
                  refine CX.condD (p := s.recording = f.recording) rfl (fun c97 => ?_) (fun c97 => ?_)
                  · refine CX.region ?_
                    refine RX.cons rfl rfl (op_w (yw_move rfl rfl) rfl rfl ?_)
                    refine RX.cons rfl rfl (op_w (yw_add rfl rfl rfl (by omega) (by omega)) rfl rfl ?_)
                    refine RX.cons rfl rfl (op_w (yw_assign rfl rfl) rfl rfl ?_)
                    refine RX.nil (XX.inBlock (V' := [(0, .slice y2.1 ((distinctF [] (fewF fs)).length) y2.2), (3, .bool true), (4, .slice y3.1 ((streams (distinctF [] (fewF fs))).length) y3.2), (5, .int .i64 ((i : Nat) : Int)), (6, .pointer (some ⟨gf, 0, none⟩)), (7, .bool (decide (s.id = f.id))), (8, .bool (decide (f.second < Fct.stop (findF (distinctF [] (fewF fs)) s)))), (9, .int .i64 (((n : Nat) : Int) + 1)), (10, .int .i64 ((k : Nat) : Int))]) ⟨rfl, rfl, rfl, rfl, rfl, rfl, rfl, rfl, rfl, trivial⟩ ?_)
                    refine XX.next (V' := [(0, .slice y2.1 ((distinctF [] (fewF fs)).length) y2.2), (3, .bool true), (4, .slice y3.1 ((streams (distinctF [] (fewF fs))).length) y3.2), (5, .int .i64 ((i : Nat) : Int)), (6, .pointer (some ⟨gf, 0, none⟩)), (7, .bool (decide (s.id = f.id))), (8, .bool (decide (f.second < Fct.stop (findF (distinctF [] (fewF fs)) s)))), (9, .int .i64 (((n : Nat) : Int) + 1)), (10, .int .i64 ((k : Nat) : Int))]) ⟨rfl, rfl, rfl, rfl, rfl, rfl, rfl, rfl, rfl, trivial⟩ ?_
                    refine CX.region ?_
                    refine RX.cons rfl rfl (op_w (yw_move rfl rfl) rfl rfl ?_)
                    refine RX.cons rfl rfl (op_w (yw_add rfl rfl rfl (by omega) (by omega)) rfl rfl ?_)
                    refine RX.cons rfl rfl (op_w (yw_assign rfl rfl) rfl rfl ?_)
                    refine RX.nil (XX.againP ([.blk gg (.cells (Fct.cells (findF (distinctF [] (fewF fs)) s)) 33 (0, 0)), .blk gs (.cells (Strm.cells s) 30 (0, 0))]) (k + 1, decide (s.id = f.id), decide (f.second < Fct.stop (findF (distinctF [] (fewF fs)) s)), n + 1) (by dsimp only; omega) ⟨by dsimp only; omega, any_or hs hb1 d47 (hers_eq (by omega)), any_or hs hb2 d80 (overs_eq (by omega) d82), count_yes hs (loops_yes (by omega) d91 c97) hnn⟩ ⟨rfl, rfl, rfl, rfl, rfl, rfl, rfl, rfl, rfl, trivial⟩ ((perm_pick 2 rfl).trans (List.Perm.cons _ ((perm_pick 2 rfl).trans (List.Perm.cons _ ((perm_pick 2 rfl).trans (List.Perm.cons _ ((perm_pick 2 rfl).trans (List.Perm.cons _ (List.Perm.refl _))))))))))
                  · refine CX.skip (XX.inBlock (V' := [(0, .slice y2.1 ((distinctF [] (fewF fs)).length) y2.2), (3, .bool true), (4, .slice y3.1 ((streams (distinctF [] (fewF fs))).length) y3.2), (5, .int .i64 ((i : Nat) : Int)), (6, .pointer (some ⟨gf, 0, none⟩)), (7, .bool (decide (s.id = f.id))), (8, .bool (decide (f.second < Fct.stop (findF (distinctF [] (fewF fs)) s)))), (9, .int .i64 ((n : Nat) : Int)), (10, .int .i64 ((k : Nat) : Int))]) ⟨rfl, rfl, rfl, rfl, rfl, rfl, rfl, rfl, rfl, trivial⟩ ?_)
                    refine XX.next (V' := [(0, .slice y2.1 ((distinctF [] (fewF fs)).length) y2.2), (3, .bool true), (4, .slice y3.1 ((streams (distinctF [] (fewF fs))).length) y3.2), (5, .int .i64 ((i : Nat) : Int)), (6, .pointer (some ⟨gf, 0, none⟩)), (7, .bool (decide (s.id = f.id))), (8, .bool (decide (f.second < Fct.stop (findF (distinctF [] (fewF fs)) s)))), (9, .int .i64 ((n : Nat) : Int)), (10, .int .i64 ((k : Nat) : Int))]) ⟨rfl, rfl, rfl, rfl, rfl, rfl, rfl, rfl, rfl, trivial⟩ ?_
                    refine CX.region ?_
                    refine RX.cons rfl rfl (op_w (yw_move rfl rfl) rfl rfl ?_)
                    refine RX.cons rfl rfl (op_w (yw_add rfl rfl rfl (by omega) (by omega)) rfl rfl ?_)
                    refine RX.cons rfl rfl (op_w (yw_assign rfl rfl) rfl rfl ?_)
                    refine RX.nil (XX.againP ([.blk gg (.cells (Fct.cells (findF (distinctF [] (fewF fs)) s)) 33 (0, 0)), .blk gs (.cells (Strm.cells s) 30 (0, 0))]) (k + 1, decide (s.id = f.id), decide (f.second < Fct.stop (findF (distinctF [] (fewF fs)) s)), n) (by dsimp only; omega) ⟨by dsimp only; omega, any_or hs hb1 d47 (hers_eq (by omega)), any_or hs hb2 d80 (overs_eq (by omega) d82), count_no hs (loops_rec c97) hnn⟩ ⟨rfl, rfl, rfl, rfl, rfl, rfl, rfl, rfl, rfl, trivial⟩ ((perm_pick 2 rfl).trans (List.Perm.cons _ ((perm_pick 2 rfl).trans (List.Perm.cons _ ((perm_pick 2 rfl).trans (List.Perm.cons _ ((perm_pick 2 rfl).trans (List.Perm.cons _ (List.Perm.refl _))))))))))
                · refine RX.skip rfl rfl rfl rfl rfl rfl rfl ?_
                  refine RX.skip rfl rfl rfl rfl rfl rfl rfl ?_
                  refine RX.skip rfl rfl rfl rfl rfl rfl rfl ?_
                  refine RX.skip rfl rfl rfl rfl rfl rfl rfl ?_
                  refine RX.skip rfl rfl rfl rfl rfl rfl rfl ?_
                  refine RX.cons rfl rfl (op_w (yw_pickF rfl rfl rfl) rfl rfl ?_)
                  refine RX.nil (XX.next (V' := [(0, .slice y2.1 ((distinctF [] (fewF fs)).length) y2.2), (3, .bool true), (4, .slice y3.1 ((streams (distinctF [] (fewF fs))).length) y3.2), (5, .int .i64 ((i : Nat) : Int)), (6, .pointer (some ⟨gf, 0, none⟩)), (7, .bool (decide (s.id = f.id))), (8, .bool (decide (f.second < Fct.stop (findF (distinctF [] (fewF fs)) s)))), (9, .int .i64 ((n : Nat) : Int)), (10, .int .i64 ((k : Nat) : Int)), (97, .bool false)]) ⟨rfl, rfl, rfl, rfl, rfl, rfl, rfl, rfl, rfl, rfl, trivial⟩ ?_)
                  refine CX.condF rfl ?_
                  refine CX.skip (XX.inBlock (V' := [(0, .slice y2.1 ((distinctF [] (fewF fs)).length) y2.2), (3, .bool true), (4, .slice y3.1 ((streams (distinctF [] (fewF fs))).length) y3.2), (5, .int .i64 ((i : Nat) : Int)), (6, .pointer (some ⟨gf, 0, none⟩)), (7, .bool (decide (s.id = f.id))), (8, .bool (decide (f.second < Fct.stop (findF (distinctF [] (fewF fs)) s)))), (9, .int .i64 ((n : Nat) : Int)), (10, .int .i64 ((k : Nat) : Int))]) ⟨rfl, rfl, rfl, rfl, rfl, rfl, rfl, rfl, rfl, trivial⟩ ?_)
                  refine XX.next (V' := [(0, .slice y2.1 ((distinctF [] (fewF fs)).length) y2.2), (3, .bool true), (4, .slice y3.1 ((streams (distinctF [] (fewF fs))).length) y3.2), (5, .int .i64 ((i : Nat) : Int)), (6, .pointer (some ⟨gf, 0, none⟩)), (7, .bool (decide (s.id = f.id))), (8, .bool (decide (f.second < Fct.stop (findF (distinctF [] (fewF fs)) s)))), (9, .int .i64 ((n : Nat) : Int)), (10, .int .i64 ((k : Nat) : Int))]) ⟨rfl, rfl, rfl, rfl, rfl, rfl, rfl, rfl, rfl, trivial⟩ ?_
                  refine CX.region ?_
                  refine RX.cons rfl rfl (op_w (yw_move rfl rfl) rfl rfl ?_)
                  refine RX.cons rfl rfl (op_w (yw_add rfl rfl rfl (by omega) (by omega)) rfl rfl ?_)
                  refine RX.cons rfl rfl (op_w (yw_assign rfl rfl) rfl rfl ?_)
                  refine RX.nil (XX.againP ([.blk gg (.cells (Fct.cells (findF (distinctF [] (fewF fs)) s)) 33 (0, 0)), .blk gs (.cells (Strm.cells s) 30 (0, 0))]) (k + 1, decide (s.id = f.id), decide (f.second < Fct.stop (findF (distinctF [] (fewF fs)) s)), n) (by dsimp only; omega) ⟨by dsimp only; omega, any_or hs hb1 d47 (hers_eq (by omega)), any_or hs hb2 d80 (overs_eq (by omega) d82), count_no hs (loops_no (by omega) d91) hnn⟩ ⟨rfl, rfl, rfl, rfl, rfl, rfl, rfl, rfl, rfl, trivial⟩ ((perm_pick 2 rfl).trans (List.Perm.cons _ ((perm_pick 2 rfl).trans (List.Perm.cons _ ((perm_pick 2 rfl).trans (List.Perm.cons _ ((perm_pick 2 rfl).trans (List.Perm.cons _ (List.Perm.refl _))))))))))
              · refine DX.skip 4 31 (by kernel_rfl) rfl rfl rfl rfl rfl rfl rfl rfl ?_
                refine DX.skip 5 63 (by kernel_rfl) rfl rfl rfl rfl rfl rfl rfl rfl ?_
                refine DX.skip 6 127 (by kernel_rfl) rfl rfl rfl rfl rfl rfl rfl rfl ?_
                refine DX.skip 7 255 (by kernel_rfl) rfl rfl rfl rfl rfl rfl rfl rfl ?_
                refine DX.skip 8 511 (by kernel_rfl) rfl rfl rfl rfl rfl rfl rfl rfl ?_
                refine DX.takeWG 9 1023 (by kernel_rfl) rfl rfl rfl rfl rfl rfl rfl rfl (yw_pickF rfl rfl rfl) ?_
                refine DX.takeW 10 2047 (by kernel_rfl) rfl rfl rfl rfl rfl (yw_pickF rfl rfl rfl) ?_
                refine DX.takeW 11 4095 (by kernel_rfl) rfl rfl rfl rfl rfl (yw_assign rfl rfl) ?_
                refine DX.done (by kernel_rfl) (XX.next (V' := [(0, .slice y2.1 ((distinctF [] (fewF fs)).length) y2.2), (3, .bool true), (4, .slice y3.1 ((streams (distinctF [] (fewF fs))).length) y3.2), (5, .int .i64 ((i : Nat) : Int)), (6, .pointer (some ⟨gf, 0, none⟩)), (7, .bool (decide (s.id = f.id))), (8, .bool false), (9, .int .i64 ((n : Nat) : Int)), (10, .int .i64 ((k : Nat) : Int)), (11, .pointer (some ⟨gs, 0, none⟩)), (14, .bool (earlier (findF (distinctF [] (fewF fs)) s) f))]) ⟨rfl, rfl, rfl, rfl, rfl, rfl, rfl, rfl, rfl, rfl, rfl, trivial⟩ ?_)
                refine CX.seq ?_
                refine CX.region ?_
                refine RX.cons rfl rfl (op_w (yw_move rfl rfl) rfl rfl ?_)
                refine RX.cons rfl rfl (op_w (yw_move rfl rfl) rfl rfl ?_)
                refine RX.split (t := 91) (b := (earlier (findF (distinctF [] (fewF fs)) s) f)) rfl (fun d91 => ?_) (fun d91 => ?_)
                · refine RX.consG rfl rfl rfl rfl rfl (op_w (yw_fieldAddr rfl fld_30_3 rfl) rfl rfl ?_)
                  refine RX.consG rfl rfl rfl rfl rfl (op_yld (y_load (i := 1) rfl rfl one_3 rfl rfl) rfl rfl ?_)
                  refine RX.consG rfl rfl rfl rfl rfl (op_w (yw_fieldAddr rfl fld_33_7 rfl) rfl rfl ?_)
                  refine RX.consG rfl rfl rfl rfl rfl (op_yld (y_load (i := 2) rfl rfl one_3 rfl rfl) rfl rfl ?_)
                  refine RX.consG rfl rfl rfl rfl rfl (op_w (yw_eql rfl rfl rfl) rfl rfl ?_)
                  refine RX.cons rfl rfl (op_w (yw_pickT rfl rfl rfl) rfl rfl ?_)
                  refine RX.nil (XX.next (V' := [(0, .slice y2.1 ((distinctF [] (fewF fs)).length) y2.2), (3, .bool true), (4, .slice y3.1 ((streams (distinctF [] (fewF fs))).length) y3.2), (5, .int .i64 ((i : Nat) : Int)), (6, .pointer (some ⟨gf, 0, none⟩)), (7, .bool (decide (s.id = f.id))), (8, .bool false), (9, .int .i64 ((n : Nat) : Int)), (10, .int .i64 ((k : Nat) : Int)), (97, .bool (decide (s.recording = f.recording)))]) ⟨rfl, rfl, rfl, rfl, rfl, rfl, rfl, rfl, rfl, rfl, trivial⟩ ?_)
                  refine CX.condD (p := s.recording = f.recording) rfl (fun c97 => ?_) (fun c97 => ?_)
                  · refine CX.region ?_
                    refine RX.cons rfl rfl (op_w (yw_move rfl rfl) rfl rfl ?_)
                    refine RX.cons rfl rfl (op_w (yw_add rfl rfl rfl (by omega) (by omega)) rfl rfl ?_)
                    refine RX.cons rfl rfl (op_w (yw_assign rfl rfl) rfl rfl ?_)
                    refine RX.nil (XX.inBlock (V' := [(0, .slice y2.1 ((distinctF [] (fewF fs)).length) y2.2), (3, .bool true), (4, .slice y3.1 ((streams (distinctF [] (fewF fs))).length) y3.2), (5, .int .i64 ((i : Nat) : Int)), (6, .pointer (some ⟨gf, 0, none⟩)), (7, .bool (decide (s.id = f.id))), (8, .bool false), (9, .int .i64 (((n : Nat) : Int) + 1)), (10, .int .i64 ((k : Nat) : Int))]) ⟨rfl, rfl, rfl, rfl, rfl, rfl, rfl, rfl, rfl, trivial⟩ ?_)
                    refine XX.next (V' := [(0, .slice y2.1 ((distinctF [] (fewF fs)).length) y2.2), (3, .bool true), (4, .slice y3.1 ((streams (distinctF [] (fewF fs))).length) y3.2), (5, .int .i64 ((i : Nat) : Int)), (6, .pointer (some ⟨gf, 0, none⟩)), (7, .bool (decide (s.id = f.id))), (8, .bool false), (9, .int .i64 (((n : Nat) : Int) + 1)), (10, .int .i64 ((k : Nat) : Int))]) ⟨rfl, rfl, rfl, rfl, rfl, rfl, rfl, rfl, rfl, trivial⟩ ?_
                    refine CX.region ?_
                    refine RX.cons rfl rfl (op_w (yw_move rfl rfl) rfl rfl ?_)
                    refine RX.cons rfl rfl (op_w (yw_add rfl rfl rfl (by omega) (by omega)) rfl rfl ?_)
                    refine RX.cons rfl rfl (op_w (yw_assign rfl rfl) rfl rfl ?_)
                    refine RX.nil (XX.againP ([.blk gg (.cells (Fct.cells (findF (distinctF [] (fewF fs)) s)) 33 (0, 0)), .blk gs (.cells (Strm.cells s) 30 (0, 0))]) (k + 1, decide (s.id = f.id), false, n + 1) (by dsimp only; omega) ⟨by dsimp only; omega, any_or hs hb1 d47 (hers_eq (by omega)), any_or hs hb2 d80 (overs_no (by omega) d82), count_yes hs (loops_yes (by omega) d91 c97) hnn⟩ ⟨rfl, rfl, rfl, rfl, rfl, rfl, rfl, rfl, rfl, trivial⟩ ((perm_pick 2 rfl).trans (List.Perm.cons _ ((perm_pick 2 rfl).trans (List.Perm.cons _ ((perm_pick 2 rfl).trans (List.Perm.cons _ ((perm_pick 2 rfl).trans (List.Perm.cons _ (List.Perm.refl _))))))))))
                  · refine CX.skip (XX.inBlock (V' := [(0, .slice y2.1 ((distinctF [] (fewF fs)).length) y2.2), (3, .bool true), (4, .slice y3.1 ((streams (distinctF [] (fewF fs))).length) y3.2), (5, .int .i64 ((i : Nat) : Int)), (6, .pointer (some ⟨gf, 0, none⟩)), (7, .bool (decide (s.id = f.id))), (8, .bool false), (9, .int .i64 ((n : Nat) : Int)), (10, .int .i64 ((k : Nat) : Int))]) ⟨rfl, rfl, rfl, rfl, rfl, rfl, rfl, rfl, rfl, trivial⟩ ?_)
                    refine XX.next (V' := [(0, .slice y2.1 ((distinctF [] (fewF fs)).length) y2.2), (3, .bool true), (4, .slice y3.1 ((streams (distinctF [] (fewF fs))).length) y3.2), (5, .int .i64 ((i : Nat) : Int)), (6, .pointer (some ⟨gf, 0, none⟩)), (7, .bool (decide (s.id = f.id))), (8, .bool false), (9, .int .i64 ((n : Nat) : Int)), (10, .int .i64 ((k : Nat) : Int))]) ⟨rfl, rfl, rfl, rfl, rfl, rfl, rfl, rfl, rfl, trivial⟩ ?_
                    refine CX.region ?_
                    refine RX.cons rfl rfl (op_w (yw_move rfl rfl) rfl rfl ?_)
                    refine RX.cons rfl rfl (op_w (yw_add rfl rfl rfl (by omega) (by omega)) rfl rfl ?_)
                    refine RX.cons rfl rfl (op_w (yw_assign rfl rfl) rfl rfl ?_)
                    refine RX.nil (XX.againP ([.blk gg (.cells (Fct.cells (findF (distinctF [] (fewF fs)) s)) 33 (0, 0)), .blk gs (.cells (Strm.cells s) 30 (0, 0))]) (k + 1, decide (s.id = f.id), false, n) (by dsimp only; omega) ⟨by dsimp only; omega, any_or hs hb1 d47 (hers_eq (by omega)), any_or hs hb2 d80 (overs_no (by omega) d82), count_no hs (loops_rec c97) hnn⟩ ⟨rfl, rfl, rfl, rfl, rfl, rfl, rfl, rfl, rfl, trivial⟩ ((perm_pick 2 rfl).trans (List.Perm.cons _ ((perm_pick 2 rfl).trans (List.Perm.cons _ ((perm_pick 2 rfl).trans (List.Perm.cons _ ((perm_pick 2 rfl).trans (List.Perm.cons _ (List.Perm.refl _))))))))))
                · refine RX.skip rfl rfl rfl rfl rfl rfl rfl ?_
                  refine RX.skip rfl rfl rfl rfl rfl rfl rfl ?_
                  refine RX.skip rfl rfl rfl rfl rfl rfl rfl ?_
                  refine RX.skip rfl rfl rfl rfl rfl rfl rfl ?_
                  refine RX.skip rfl rfl rfl rfl rfl rfl rfl ?_
                  refine RX.cons rfl rfl (op_w (yw_pickF rfl rfl rfl) rfl rfl ?_)
                  refine RX.nil (XX.next (V' := [(0, .slice y2.1 ((distinctF [] (fewF fs)).length) y2.2), (3, .bool true), (4, .slice y3.1 ((streams (distinctF [] (fewF fs))).length) y3.2), (5, .int .i64 ((i : Nat) : Int)), (6, .pointer (some ⟨gf, 0, none⟩)), (7, .bool (decide (s.id = f.id))), (8, .bool false), (9, .int .i64 ((n : Nat) : Int)), (10, .int .i64 ((k : Nat) : Int)), (97, .bool false)]) ⟨rfl, rfl, rfl, rfl, rfl, rfl, rfl, rfl, rfl, rfl, trivial⟩ ?_)
                  refine CX.condF rfl ?_
                  refine CX.skip (XX.inBlock (V' := [(0, .slice y2.1 ((distinctF [] (fewF fs)).length) y2.2), (3, .bool true), (4, .slice y3.1 ((streams (distinctF [] (fewF fs))).length) y3.2), (5, .int .i64 ((i : Nat) : Int)), (6, .pointer (some ⟨gf, 0, none⟩)), (7, .bool (decide (s.id = f.id))), (8, .bool false), (9, .int .i64 ((n : Nat) : Int)), (10, .int .i64 ((k : Nat) : Int))]) ⟨rfl, rfl, rfl, rfl, rfl, rfl, rfl, rfl, rfl, trivial⟩ ?_)
                  refine XX.next (V' := [(0, .slice y2.1 ((distinctF [] (fewF fs)).length) y2.2), (3, .bool true), (4, .slice y3.1 ((streams (distinctF [] (fewF fs))).length) y3.2), (5, .int .i64 ((i : Nat) : Int)), (6, .pointer (some ⟨gf, 0, none⟩)), (7, .bool (decide (s.id = f.id))), (8, .bool false), (9, .int .i64 ((n : Nat) : Int)), (10, .int .i64 ((k : Nat) : Int))]) ⟨rfl, rfl, rfl, rfl, rfl, rfl, rfl, rfl, rfl, trivial⟩ ?_
                  refine CX.region ?_
                  refine RX.cons rfl rfl (op_w (yw_move rfl rfl) rfl rfl ?_)
                  refine RX.cons rfl rfl (op_w (yw_add rfl rfl rfl (by omega) (by omega)) rfl rfl ?_)
                  refine RX.cons rfl rfl (op_w (yw_assign rfl rfl) rfl rfl ?_)
                  refine RX.nil (XX.againP ([.blk gg (.cells (Fct.cells (findF (distinctF [] (fewF fs)) s)) 33 (0, 0)), .blk gs (.cells (Strm.cells s) 30 (0, 0))]) (k + 1, decide (s.id = f.id), false, n) (by dsimp only; omega) ⟨by dsimp only; omega, any_or hs hb1 d47 (hers_eq (by omega)), any_or hs hb2 d80 (overs_no (by omega) d82), count_no hs (loops_no (by omega) d91) hnn⟩ ⟨rfl, rfl, rfl, rfl, rfl, rfl, rfl, rfl, rfl, trivial⟩ ((perm_pick 2 rfl).trans (List.Perm.cons _ ((perm_pick 2 rfl).trans (List.Perm.cons _ ((perm_pick 2 rfl).trans (List.Perm.cons _ ((perm_pick 2 rfl).trans (List.Perm.cons _ (List.Perm.refl _))))))))))
          · refine RX.consG rfl rfl rfl rfl rfl (op_w (yw_fieldAddr rfl fld_33_4 rfl) rfl rfl ?_)
            refine RX.consG rfl rfl rfl rfl rfl (op_yld (y_load (i := 0) rfl rfl one_3 rfl rfl) rfl rfl ?_)
            refine RX.consG rfl rfl rfl rfl rfl (op_w (yw_fieldAddr rfl fld_33_4 rfl) rfl rfl ?_)
            refine RX.consG rfl rfl rfl rfl rfl (op_yld (y_load (i := 2) rfl rfl one_3 rfl rfl) rfl rfl ?_)
            refine RX.consG rfl rfl rfl rfl rfl (op_w (yw_eql rfl rfl rfl) rfl rfl ?_)
            refine RX.consG rfl rfl rfl rfl rfl (op_w (yw_move rfl rfl) rfl rfl ?_)
            refine RX.splitD (t := 71) (p := (findF (distinctF [] (fewF fs)) s).second = f.second) rfl (fun d71 => ?_) (fun d71 => ?_)
            · refine RX.consG rfl rfl rfl rfl rfl (op_w (yw_fieldAddr rfl fld_33_1 rfl) rfl rfl ?_)
              refine RX.consG rfl rfl rfl rfl rfl (op_yld (y_load (i := 0) rfl rfl one_3 rfl rfl) rfl rfl ?_)
              refine RX.consG rfl rfl rfl rfl rfl (op_w (yw_fieldAddr rfl fld_33_1 rfl) rfl rfl ?_)
              refine RX.consG rfl rfl rfl rfl rfl (op_yld (y_load (i := 2) rfl rfl one_3 rfl rfl) rfl rfl ?_)
              refine RX.consG rfl rfl rfl rfl rfl (op_w (yw_lss rfl rfl rfl) rfl rfl ?_)
              refine RX.consG rfl rfl rfl rfl rfl (op_w (yw_pickT rfl rfl rfl) rfl rfl ?_)
              refine RX.cons rfl rfl (op_w (yw_pickF rfl rfl rfl) rfl rfl ?_)
              refine RX.cons rfl rfl (op_w (yw_assign rfl rfl) rfl rfl ?_)
              refine RX.know (t := 14) (u := .bool (earlier (findF (distinctF [] (fewF fs)) s) f)) rfl (congrArg Value.bool (earlier_id d65 d71).symm) ?_
              refine RX.nil (XX.next (V' := [(0, .slice y2.1 ((distinctF [] (fewF fs)).length) y2.2), (3, .bool true), (4, .slice y3.1 ((streams (distinctF [] (fewF fs))).length) y3.2), (5, .int .i64 ((i : Nat) : Int)), (6, .pointer (some ⟨gf, 0, none⟩)), (7, .bool (decide (s.id = f.id))), (8, .bool b2), (9, .int .i64 ((n : Nat) : Int)), (10, .int .i64 ((k : Nat) : Int)), (11, .pointer (some ⟨gs, 0, none⟩)), (12, .pointer (some ⟨gg, 0, none⟩)), (14, .bool (earlier (findF (distinctF [] (fewF fs)) s) f))]) ⟨rfl, rfl, rfl, rfl, rfl, rfl, rfl, rfl, rfl, rfl, rfl, rfl, trivial⟩ ?_)
              refine CX.seq ?_
              refine CX.draw 12 (by kernel_rfl) ?_
              refine DX.takeW 0 1 (by kernel_rfl) rfl rfl rfl rfl rfl (yw_move rfl rfl) ?_
              refine DX.takeW 1 3 (by kernel_rfl) rfl rfl rfl rfl rfl (yw_move rfl rfl) ?_
              refine DX.split (t := 80) (b := b2) rfl (fun d80 => ?_) (fun d80 => ?_)
              · refine DX.skip 2 7 (by kernel_rfl) rfl rfl rfl rfl rfl rfl rfl rfl ?_
                refine DX.skip 3 15 (by kernel_rfl) rfl rfl rfl rfl rfl rfl rfl rfl ?_
                refine DX.skip 4 31 (by kernel_rfl) rfl rfl rfl rfl rfl rfl rfl rfl ?_
                refine DX.skip 5 63 (by kernel_rfl) rfl rfl rfl rfl rfl rfl rfl rfl ?_
                refine DX.skip 6 127 (by kernel_rfl) rfl rfl rfl rfl rfl rfl rfl rfl ?_
                refine DX.skip 7 255 (by kernel_rfl) rfl rfl rfl rfl rfl rfl rfl rfl ?_
                refine DX.skip 8 511 (by kernel_rfl) rfl rfl rfl rfl rfl rfl rfl rfl ?_
                refine DX.skip 9 1023 (by kernel_rfl) rfl rfl rfl rfl rfl rfl rfl rfl ?_
                refine DX.takeW 10 2047 (by kernel_rfl) rfl rfl rfl rfl rfl (yw_pickT rfl rfl rfl) ?_
                refine DX.takeW 11 4095 (by kernel_rfl) rfl rfl rfl rfl rfl (yw_assign rfl rfl) ?_
                refine DX.done (by kernel_rfl) (XX.next (V' := [(0, .slice y2.1 ((distinctF [] (fewF fs)).length) y2.2), (3, .bool true), (4, .slice y3.1 ((streams (distinctF [] (fewF fs))).length) y3.2), (5, .int .i64 ((i : Nat) : Int)), (6, .pointer (some ⟨gf, 0, none⟩)), (7, .bool (decide (s.id = f.id))), (8, .bool true), (9, .int .i64 ((n : Nat) : Int)), (10, .int .i64 ((k : Nat) : Int)), (11, .pointer (some ⟨gs, 0, none⟩)), (14, .bool (earlier (findF (distinctF [] (fewF fs)) s) f))]) ⟨rfl, rfl, rfl, rfl, rfl, rfl, rfl, rfl, rfl, rfl, rfl, trivial⟩ ?_)
                refine CX.seq ?_
                refine CX.region ?_
                refine RX.cons rfl rfl (op_w (yw_move rfl rfl) rfl rfl ?_)
                refine RX.cons rfl rfl (op_w (yw_move rfl rfl) rfl rfl ?_)
                refine RX.split (t := 91) (b := (earlier (findF (distinctF [] (fewF fs)) s) f)) rfl (fun d91 => ?_) (fun d91 => ?_)
                · refine RX.consG rfl rfl rfl rfl rfl (op_w (yw_fieldAddr rfl fld_30_3 rfl) rfl rfl ?_)
                  refine RX.consG rfl rfl rfl rfl rfl (op_yld (y_load (i := 1) rfl rfl one_3 rfl rfl) rfl rfl ?_)
                  refine RX.consG rfl rfl rfl rfl rfl (op_w (yw_fieldAddr rfl fld_33_7 rfl) rfl rfl ?_)
                  refine RX.consG rfl rfl rfl rfl rfl (op_yld (y_load (i := 2) rfl rfl one_3 rfl rfl) rfl rfl ?_)
                  refine RX.consG rfl rfl rfl rfl rfl (op_w (yw_eql rfl rfl rfl) rfl rfl ?_)
                  refine RX.cons rfl rfl (op_w (yw_pickT rfl rfl rfl) rfl rfl ?_)
                  refine RX.nil (XX.next (V' := [(0, .slice y2.1 ((distinctF [] (fewF fs)).length) y2.2), (3, .bool true), (4, .slice y3.1 ((streams (distinctF [] (fewF fs))).length) y3.2), (5, .int .i64 ((i : Nat) : Int)), (6, .pointer (some ⟨gf, 0, none⟩)), (7, .bool (decide (s.id = f.id))), (8, .bool true), (9, .int .i64 ((n : Nat) : Int)), (10, .int .i64 ((k : Nat) : Int)), (97, .bool (decide (s.recording = f.recording)))]) ⟨rfl, rfl, rfl, rfl, rfl, rfl, rfl, rfl, rfl, rfl, trivial⟩ ?_)
                  refine CX.condD (p := s.recording = f.recording) rfl (fun c97 => ?_) (fun c97 => ?_)
                  · refine CX.region ?_
                    refine RX.cons rfl rfl (op_w (yw_move rfl rfl) rfl rfl ?_)
                    refine RX.cons rfl rfl (op_w (yw_add rfl rfl rfl (by omega) (by omega)) rfl rfl ?_)
                    refine RX.cons rfl rfl (op_w (yw_assign rfl rfl) rfl rfl ?_)
                    refine RX.nil (XX.inBlock (V' := [(0, .slice y2.1 ((distinctF [] (fewF fs)).length) y2.2), (3, .bool true), (4, .slice y3.1 ((streams (distinctF [] (fewF fs))).length) y3.2), (5, .int .i64 ((i : Nat) : Int)), (6, .pointer (some ⟨gf, 0, none⟩)), (7, .bool (decide (s.id = f.id))), (8, .bool true), (9, .int .i64 (((n : Nat) : Int) + 1)), (10, .int .i64 ((k : Nat) : Int))]) ⟨rfl, rfl, rfl, rfl, rfl, rfl, rfl, rfl, rfl, trivial⟩ ?_)
                    refine XX.next (V' := [(0, .slice y2.1 ((distinctF [] (fewF fs)).length) y2.2), (3, .bool true), (4, .slice y3.1 ((streams (distinctF [] (fewF fs))).length) y3.2), (5, .int .i64 ((i : Nat) : Int)), (6, .pointer (some ⟨gf, 0, none⟩)), (7, .bool (decide (s.id = f.id))), (8, .bool true), (9, .int .i64 (((n : Nat) : Int) + 1)), (10, .int .i64 ((k : Nat) : Int))]) ⟨rfl, rfl, rfl, rfl, rfl, rfl, rfl, rfl, rfl, trivial⟩ ?_
                    refine CX.region ?_
                    refine RX.cons rfl rfl (op_w (yw_move rfl rfl) rfl rfl ?_)
                    refine RX.cons rfl rfl (op_w (yw_add rfl rfl rfl (by omega) (by omega)) rfl rfl ?_)
                    refine RX.cons rfl rfl (op_w (yw_assign rfl rfl) rfl rfl ?_)
                    refine RX.nil (XX.againP ([.blk gg (.cells (Fct.cells (findF (distinctF [] (fewF fs)) s)) 33 (0, 0)), .blk gs (.cells (Strm.cells s) 30 (0, 0))]) (k + 1, decide (s.id = f.id), true, n + 1) (by dsimp only; omega) ⟨by dsimp only; omega, any_or hs hb1 d47 (hers_eq (by omega)), any_yes hs hb2 d80, count_yes hs (loops_yes (by omega) d91 c97) hnn⟩ ⟨rfl, rfl, rfl, rfl, rfl, rfl, rfl, rfl, rfl, trivial⟩ ((perm_pick 2 rfl).trans (List.Perm.cons _ ((perm_pick 2 rfl).trans (List.Perm.cons _ ((perm_pick 2 rfl).trans (List.Perm.cons _ ((perm_pick 2 rfl).trans (List.Perm.cons _ (List.Perm.refl _))))))))))
                  · refine CX.skip (XX.inBlock (V' := [(0, .slice y2.1 ((distinctF [] (fewF fs)).length) y2.2), (3, .bool true), (4, .slice y3.1 ((streams (distinctF [] (fewF fs))).length) y3.2), (5, .int .i64 ((i : Nat) : Int)), (6, .pointer (some ⟨gf, 0, none⟩)), (7, .bool (decide (s.id = f.id))), (8, .bool true), (9, .int .i64 ((n : Nat) : Int)), (10, .int .i64 ((k : Nat) : Int))]) ⟨rfl, rfl, rfl, rfl, rfl, rfl, rfl, rfl, rfl, trivial⟩ ?_)
                    refine XX.next (V' := [(0, .slice y2.1 ((distinctF [] (fewF fs)).length) y2.2), (3, .bool true), (4, .slice y3.1 ((streams (distinctF [] (fewF fs))).length) y3.2), (5, .int .i64 ((i : Nat) : Int)), (6, .pointer (some ⟨gf, 0, none⟩)), (7, .bool (decide (s.id = f.id))), (8, .bool true), (9, .int .i64 ((n : Nat) : Int)), (10, .int .i64 ((k : Nat) : Int))]) ⟨rfl, rfl, rfl, rfl, rfl, rfl, rfl, rfl, rfl, trivial⟩ ?_
                    refine CX.region ?_
                    refine RX.cons rfl rfl (op_w (yw_move rfl rfl) rfl rfl ?_)
                    refine RX.cons rfl rfl (op_w (yw_add rfl rfl rfl (by omega) (by omega)) rfl rfl ?_)
                    refine RX.cons rfl rfl (op_w (yw_assign rfl rfl) rfl rfl ?_)
                    refine RX.nil (XX.againP ([.blk gg (.cells (Fct.cells (findF (distinctF [] (fewF fs)) s)) 33 (0, 0)), .blk gs (.cells (Strm.cells s) 30 (0, 0))]) (k + 1, decide (s.id = f.id), true, n) (by dsimp only; omega) ⟨by dsimp only; omega, any_or hs hb1 d47 (hers_eq (by omega)), any_yes hs hb2 d80, count_no hs (loops_rec c97) hnn⟩ ⟨rfl, rfl, rfl, rfl, rfl, rfl, rfl, rfl, rfl, trivial⟩ ((perm_pick 2 rfl).trans (List.Perm.cons _ ((perm_pick 2 rfl).trans (List.Perm.cons _ ((perm_pick 2 rfl).trans (List.Perm.cons _ ((perm_pick 2 rfl).trans (List.Perm.cons _ (List.Perm.refl _))))))))))
                · refine RX.skip rfl rfl rfl rfl rfl rfl rfl ?_
                  refine RX.skip rfl rfl rfl rfl rfl rfl rfl ?_
                  refine RX.skip rfl rfl rfl rfl rfl rfl rfl ?_
                  refine RX.skip rfl rfl rfl rfl rfl rfl rfl ?_
                  refine RX.skip rfl rfl rfl rfl rfl rfl rfl ?_
                  refine RX.cons rfl rfl (op_w (yw_pickF rfl rfl rfl) rfl rfl ?_)
                  refine RX.nil (XX.next (V' := [(0, .slice y2.1 ((distinctF [] (fewF fs)).length) y2.2), (3, .bool true), (4, .slice y3.1 ((streams (distinctF [] (fewF fs))).length) y3.2), (5, .int .i64 ((i : Nat) : Int)), (6, .pointer (some ⟨gf, 0, none⟩)), (7, .bool (decide (s.id = f.id))), (8, .bool true), (9, .int .i64 ((n : Nat) : Int)), (10, .int .i64 ((k : Nat) : Int)), (97, .bool false)]) ⟨rfl, rfl, rfl, rfl, rfl, rfl, rfl, rfl, rfl, rfl, trivial⟩ ?_)
                  refine CX.condF rfl ?_
                  refine CX.skip (XX.inBlock (V' := [(0, .slice y2.1 ((distinctF [] (fewF fs)).length) y2.2), (3, .bool true), (4, .slice y3.1 ((streams (distinctF [] (fewF fs))).length) y3.2), (5, .int .i64 ((i : Nat) : Int)), (6, .pointer (some ⟨gf, 0, none⟩)), (7, .bool (decide (s.id = f.id))), (8, .bool true), (9, .int .i64 ((n : Nat) : Int)), (10, .int .i64 ((k : Nat) : Int))]) ⟨rfl, rfl, rfl, rfl, rfl, rfl, rfl, rfl, rfl, trivial⟩ ?_)
                  refine XX.next (V' := [(0, .slice y2.1 ((distinctF [] (fewF fs)).length) y2.2), (3, .bool true), (4, .slice y3.1 ((streams (distinctF [] (fewF fs))).length) y3.2), (5, .int .i64 ((i : Nat) : Int)), (6, .pointer (some ⟨gf, 0, none⟩)), (7, .bool (decide (s.id = f.id))), (8, .bool true), (9, .int .i64 ((n : Nat) : Int)), (10, .int .i64 ((k : Nat) : Int))]) ⟨rfl, rfl, rfl, rfl, rfl, rfl, rfl, rfl, rfl, trivial⟩ ?_
                  refine CX.region ?_
                  refine RX.cons rfl rfl (op_w (yw_move rfl rfl) rfl rfl ?_)
                  refine RX.cons rfl rfl (op_w (yw_add rfl rfl rfl (by omega) (by omega)) rfl rfl ?_)
                  refine RX.cons rfl rfl (op_w (yw_assign rfl rfl) rfl rfl ?_)
                  refine RX.nil (XX.againP ([.blk gg (.cells (Fct.cells (findF (distinctF [] (fewF fs)) s)) 33 (0, 0)), .blk gs (.cells (Strm.cells s) 30 (0, 0))]) (k + 1, decide (s.id = f.id), true, n) (by dsimp only; omega) ⟨by dsimp only; omega, any_or hs hb1 d47 (hers_eq (by omega)), any_yes hs hb2 d80, count_no hs (loops_no (by omega) d91) hnn⟩ ⟨rfl, rfl, rfl, rfl, rfl, rfl, rfl, rfl, rfl, trivial⟩ ((perm_pick 2 rfl).trans (List.Perm.cons _ ((perm_pick 2 rfl).trans (List.Perm.cons _ ((perm_pick 2 rfl).trans (List.Perm.cons _ ((perm_pick 2 rfl).trans (List.Perm.cons _ (List.Perm.refl _))))))))))
              · refine DX.takeWG 2 7 (by kernel_rfl) rfl rfl rfl rfl rfl rfl rfl rfl (yw_move rfl rfl) ?_
                refine DX.takeWG 3 15 (by kernel_rfl) rfl rfl rfl rfl rfl rfl rfl rfl (yw_move rfl rfl) ?_
                refine DX.split (t := 82) (b := (earlier (findF (distinctF [] (fewF fs)) s) f)) rfl (fun d82 => ?_) (fun d82 => ?_)
                · refine DX.takeWG 4 31 (by kernel_rfl) rfl rfl rfl rfl rfl rfl rfl rfl (yw_fieldAddr rfl fld_33_4 rfl) ?_
                  refine DX.takeG 5 63 (by kernel_rfl) rfl rfl rfl rfl rfl rfl rfl rfl (List.Sublist.refl _) (y_load (i := 2) rfl rfl one_3 rfl rfl) ?_
                  refine DX.takeG 6 127 (by kernel_rfl) rfl rfl rfl rfl rfl rfl rfl rfl (List.Sublist.refl _) (y_loadA (i := 0) rfl rfl agg_33 rfl rfl) ?_
                  refine DX.stepG 7 255 (by kernel_rfl) rfl rfl rfl rfl rfl rfl (op_callV (v := .int .i64 (Fct.stop (findF (distinctF [] (fewF fs)) s))) rfl rfl rfl rfl rfl ent_16 (fun w _ => w_refEnd (findF (distinctF [] (fewF fs)) s) hh.s0 hh.s1 hh.a0 hh.a1) (DXs.mk (List.Sublist.refl _) ?_))
                  refine DX.takeWG 8 511 (by kernel_rfl) rfl rfl rfl rfl rfl rfl rfl rfl (yw_lss rfl rfl rfl) ?_
                  refine DX.takeWG 9 1023 (by kernel_rfl) rfl rfl rfl rfl rfl rfl rfl rfl (yw_pickT rfl rfl rfl) ?_
                  refine DX.takeW 10 2047 (by kernel_rfl) rfl rfl rfl rfl rfl (yw_pickF rfl rfl rfl) ?_
                  refine DX.takeW 11 4095 (by kernel_rfl) rfl rfl rfl rfl rfl (yw_assign rfl rfl) ?_
                  refine DX.done (by kernel_rfl) (XX.next (V' := [(0, .slice y2.1 ((distinctF [] (fewF fs)).length) y2.2), (3, .bool true), (4, .slice y3.1 ((streams (distinctF [] (fewF fs))).length) y3.2), (5, .int .i64 ((i : Nat) : Int)), (6, .pointer (some ⟨gf, 0, none⟩)), (7, .bool (decide (s.id = f.id))), (8, .bool (decide (f.second < Fct.stop (findF (distinctF [] (fewF fs)) s)))), (9, .int .i64 ((n : Nat) : Int)), (10, .int .i64 ((k : Nat) : Int)), (11, .pointer (some ⟨gs, 0, none⟩)), (14, .bool (earlier (findF (distinctF [] (fewF fs)) s) f))]) ⟨rfl, rfl, rfl, rfl, rfl, rfl, rfl, rfl, rfl, rfl, rfl, trivial⟩ ?_)
                  refine CX.seq ?_
                  refine CX.region ?_
                  refine RX.cons rfl rfl (op_w (yw_move rfl rfl) rfl rfl ?_)
                  refine RX.cons rfl rfl (op_w (yw_move rfl rfl) rfl rfl ?_)
                  refine RX.split (t := 91) (b := (earlier (findF (distinctF [] (fewF fs)) s) f)) rfl (fun d91 => ?_) (fun d91 => ?_)
                  · refine RX.consG rfl rfl rfl rfl rfl (op_w (yw_fieldAddr rfl fld_30_3 rfl) rfl rfl ?_)
                    refine RX.consG rfl rfl rfl rfl rfl (op_yld (y_load (i := 1) rfl rfl one_3 rfl rfl) rfl rfl ?_)
                    refine RX.consG rfl rfl rfl rfl rfl (op_w (yw_fieldAddr rfl fld_33_7 rfl) rfl rfl ?_)
                    refine RX.consG rfl rfl rfl rfl rfl (op_yld (y_load (i := 2) rfl rfl one_3 rfl rfl) rfl rfl ?_)
                    refine RX.consG rfl rfl rfl rfl rfl (op_w (yw_eql rfl rfl rfl) rfl rfl ?_)
                    refine RX.cons rfl rfl (op_w (yw_pickT rfl rfl rfl) rfl rfl ?_)
                    refine RX.nil (XX.next (V' := [(0, .slice y2.1 ((distinctF [] (fewF fs)).length) y2.2), (3, .bool true), (4, .slice y3.1 ((streams (distinctF [] (fewF fs))).length) y3.2), (5, .int .i64 ((i : Nat) : Int)), (6, .pointer (some ⟨gf, 0, none⟩)), (7, .bool (decide (s.id = f.id))), (8, .bool (decide (f.second < Fct.stop (findF (distinctF [] (fewF fs)) s)))), (9, .int .i64 ((n : Nat) : Int)), (10, .int .i64 ((k : Nat) : Int)), (97, .bool (decide (s.recording = f.recording)))]) ⟨rfl, rfl, rfl, rfl, rfl, rfl, rfl, rfl, rfl, rfl, trivial⟩ ?_)
                    refine CX.condD (p := s.recording = f.recording) rfl (fun c97 => ?_) (fun c97 => ?_)
                    · refine CX.region ?_
                      refine RX.cons rfl rfl (op_w (yw_move rfl rfl) rfl rfl ?_)
                      refine RX.cons rfl rfl (op_w (yw_add rfl rfl rfl (by omega) (by omega)) rfl rfl ?_)
                      refine RX.cons rfl rfl (op_w (yw_assign rfl rfl) rfl rfl ?_)
                      refine RX.nil (XX.inBlock (V' := [(0, .slice y2.1 ((distinctF [] (fewF fs)).length) y2.2), (3, .bool true), (4, .slice y3.1 ((streams (distinctF [] (fewF fs))).length) y3.2), (5, .int .i64 ((i : Nat) : Int)), (6, .pointer (some ⟨gf, 0, none⟩)), (7, .bool (decide (s.id = f.id))), (8, .bool (decide (f.second < Fct.stop (findF (distinctF [] (fewF fs)) s)))), (9, .int .i64 (((n : Nat) : Int) + 1)), (10, .int .i64 ((k : Nat) : Int))]) ⟨rfl, rfl, rfl, rfl, rfl, rfl, rfl, rfl, rfl, trivial⟩ ?_)
                      refine XX.next (V' := [(0, .slice y2.1 ((distinctF [] (fewF fs)).length) y2.2), (3, .bool true), (4, .slice y3.1 ((streams (distinctF [] (fewF fs))).length) y3.2), (5, .int .i64 ((i : Nat) : Int)), (6, .pointer (some ⟨gf, 0, none⟩)), (7, .bool (decide (s.id = f.id))), (8, .bool (decide (f.second < Fct.stop (findF (distinctF [] (fewF fs)) s)))), (9, .int .i64 (((n : Nat) : Int) + 1)), (10, .int .i64 ((k : Nat) : Int))]) ⟨rfl, rfl, rfl, rfl, rfl, rfl, rfl, rfl, rfl, trivial⟩ ?_
                      refine CX.region ?_
                      refine RX.cons rfl rfl (op_w (yw_move rfl rfl) rfl rfl ?_)
                      refine RX.cons rfl rfl (op_w (yw_add rfl rfl rfl (by omega) (by omega)) rfl rfl ?_)
                      refine RX.cons rfl rfl (op_w (yw_assign rfl rfl) rfl rfl ?_)
                      refine RX.nil (XX.againP ([.blk gg (.cells (Fct.cells (findF (distinctF [] (fewF fs)) s)) 33 (0, 0)), .blk gs (.cells (Strm.cells s) 30 (0, 0))]) (k + 1, decide (s.id = f.id), decide (f.second < Fct.stop (findF (distinctF [] (fewF fs)) s)), n + 1) (by dsimp only; omega) ⟨by dsimp only; omega, any_or hs hb1 d47 (hers_eq (by omega)), any_or hs hb2 d80 (overs_eq (by omega) d82), count_yes hs (loops_yes (by omega) d91 c97) hnn⟩ ⟨rfl, rfl, rfl, rfl, rfl, rfl, rfl, rfl, rfl, trivial⟩ ((perm_pick 2 rfl).trans (List.Perm.cons _ ((perm_pick 2 rfl).trans (List.Perm.cons _ ((perm_pick 2 rfl).trans (List.Perm.cons _ ((perm_pick 2 rfl).trans (List.Perm.cons _ (List.Perm.refl _))))))))))
                    · refine CX.skip (XX.inBlock (V' := [(0, .slice y2.1 ((distinctF [] (fewF fs)).length) y2.2), (3, .bool true), (4, .slice y3.1 ((streams (distinctF [] (fewF fs))).length) y3.2), (5, .int .i64 ((i : Nat) : Int)), (6, .pointer (some ⟨gf, 0, none⟩)), (7, .bool (decide (s.id = f.id))), (8, .bool (decide (f.second < Fct.stop (findF (distinctF [] (fewF fs)) s)))), (9, .int .i64 ((n : Nat) : Int)), (10, .int .i64 ((k : Nat) : Int))]) ⟨rfl, rfl, rfl, rfl, rfl, rfl, rfl, rfl, rfl, trivial⟩ ?_)
                      refine XX.next (V' := [(0, .slice y2.1 ((distinctF [] (fewF fs)).length) y2.2), (3, .bool true), (4, .slice y3.1 ((streams (distinctF [] (fewF fs))).length) y3.2), (5, .int .i64 ((i : Nat) : Int)), (6, .pointer (some ⟨gf, 0, none⟩)), (7, .bool (decide (s.id = f.id))), (8, .bool (decide (f.second < Fct.stop (findF (distinctF [] (fewF fs)) s)))), (9, .int .i64 ((n : Nat) : Int)), (10, .int .i64 ((k : Nat) : Int))]) ⟨rfl, rfl, rfl, rfl, rfl, rfl, rfl, rfl, rfl, trivial⟩ ?_
                      refine CX.region ?_
                      refine RX.cons rfl rfl (op_w (yw_move rfl rfl) rfl rfl ?_)
                      refine RX.cons rfl rfl (op_w (yw_add rfl rfl rfl (by omega) (by omega)) rfl rfl ?_)
                      refine RX.cons rfl rfl (op_w (yw_assign rfl rfl) rfl rfl ?_)
                      refine RX.nil (XX.againP ([.blk gg (.cells (Fct.cells (findF (distinctF [] (fewF fs)) s)) 33 (0, 0)), .blk gs (.cells (Strm.cells s) 30 (0, 0))]) (k + 1, decide (s.id = f.id), decide (f.second < Fct.stop (findF (distinctF [] (fewF fs)) s)), n) (by dsimp only; omega) ⟨by dsimp only; omega, any_or hs hb1 d47 (hers_eq (by omega)), any_or hs hb2 d80 (overs_eq (by omega) d82), count_no hs (loops_rec c97) hnn⟩ ⟨rfl, rfl, rfl, rfl, rfl, rfl, rfl, rfl, rfl, trivial⟩ ((perm_pick 2 rfl).trans (List.Perm.cons _ ((perm_pick 2 rfl).trans (List.Perm.cons _ ((perm_pick 2 rfl).trans (List.Perm.cons _ ((perm_pick 2 rfl).trans (List.Perm.cons _ (List.Perm.refl _))))))))))
                  · refine RX.skip rfl rfl rfl rfl rfl rfl rfl ?_
                    refine RX.skip rfl rfl rfl rfl rfl rfl rfl ?_
                    refine RX.skip rfl rfl rfl rfl rfl rfl rfl ?_
                    refine RX.skip rfl rfl rfl rfl rfl rfl rfl ?_
                    refine RX.skip rfl rfl rfl rfl rfl rfl rfl ?_
                    refine RX.cons rfl rfl (op_w (yw_pickF rfl rfl rfl) rfl rfl ?_)
                    refine RX.nil (XX.next (V' := [(0, .slice y2.1 ((distinctF [] (fewF fs)).length) y2.2), (3, .bool true), (4, .slice y3.1 ((streams (distinctF [] (fewF fs))).length) y3.2), (5, .int .i64 ((i : Nat) : Int)), (6, .pointer (some ⟨gf, 0, none⟩)), (7, .bool (decide (s.id = f.id))), (8, .bool (decide (f.second < Fct.stop (findF (distinctF [] (fewF fs)) s)))), (9, .int .i64 ((n : Nat) : Int)), (10, .int .i64 ((k : Nat) : Int)), (97, .bool false)]) ⟨rfl, rfl, rfl, rfl, rfl, rfl, rfl, rfl, rfl, rfl, trivial⟩ ?_)
                    refine CX.condF rfl ?_
                    refine CX.skip (XX.inBlock (V' := [(0, .slice y2.1 ((distinctF [] (fewF fs)).length) y2.2), (3, .bool true), (4, .slice y3.1 ((streams (distinctF [] (fewF fs))).length) y3.2), (5, .int .i64 ((i : Nat) : Int)), (6, .pointer (some ⟨gf, 0, none⟩)), (7, .bool (decide (s.id = f.id))), (8, .bool (decide (f.second < Fct.stop (findF (distinctF [] (fewF fs)) s)))), (9, .int .i64 ((n : Nat) : Int)), (10, .int .i64 ((k : Nat) : Int))]) ⟨rfl, rfl, rfl, rfl, rfl, rfl, rfl, rfl, rfl, trivial⟩ ?_)
                    refine XX.next (V' := [(0, .slice y2.1 ((distinctF [] (fewF fs)).length) y2.2), (3, .bool true), (4, .slice y3.1 ((streams (distinctF [] (fewF fs))).length) y3.2), (5, .int .i64 ((i : Nat) : Int)), (6, .pointer (some ⟨gf, 0, none⟩)), (7, .bool (decide (s.id = f.id))), (8, .bool (decide (f.second < Fct.stop (findF (distinctF [] (fewF fs)) s)))), (9, .int .i64 ((n : Nat) : Int)), (10, .int .i64 ((k : Nat) : Int))]) ⟨rfl, rfl, rfl, rfl, rfl, rfl, rfl, rfl, rfl, trivial⟩ ?_
                    refine CX.region ?_
                    refine RX.cons rfl rfl (op_w (yw_move rfl rfl) rfl rfl ?_)
                    refine RX.cons rfl rfl (op_w (yw_add rfl rfl rfl (by omega) (by omega)) rfl rfl ?_)
                    refine RX.cons rfl rfl (op_w (yw_assign rfl rfl) rfl rfl ?_)
                    refine RX.nil (XX.againP ([.blk gg (.cells (Fct.cells (findF (distinctF [] (fewF fs)) s)) 33 (0, 0)), .blk gs (.cells (Strm.cells s) 30 (0, 0))]) (k + 1, decide (s.id = f.id), decide (f.second < Fct.stop (findF (distinctF [] (fewF fs)) s)), n) (by dsimp only; omega) ⟨by dsimp only; omega, any_or hs hb1 d47 (hers_eq (by omega)), any_or hs hb2 d80 (overs_eq (by omega) d82), count_no hs (loops_no (by omega) d91) hnn⟩ ⟨rfl, rfl, rfl, rfl, rfl, rfl, rfl, rfl, rfl, trivial⟩ ((perm_pick 2 rfl).trans (List.Perm.cons _ ((perm_pick 2 rfl).trans (List.Perm.cons _ ((perm_pick 2 rfl).trans (List.Perm.cons _ ((perm_pick 2 rfl).trans (List.Perm.cons _ (List.Perm.refl _))))))))))
                · refine DX.skip 4 31 (by kernel_rfl) rfl rfl rfl rfl rfl rfl rfl rfl ?_
                  refine DX.skip 5 63 (by kernel_rfl) rfl rfl rfl rfl rfl rfl rfl rfl ?_
                  refine DX.skip 6 127 (by kernel_rfl) rfl rfl rfl rfl rfl rfl rfl rfl ?_
                  refine DX.skip 7 255 (by kernel_rfl) rfl rfl rfl rfl rfl rfl rfl rfl ?_
                  refine DX.skip 8 511 (by kernel_rfl) rfl rfl rfl rfl rfl rfl rfl rfl ?_
                  refine DX.takeWG 9 1023 (by kernel_rfl) rfl rfl rfl rfl rfl rfl rfl rfl (yw_pickF rfl rfl rfl) ?_
                  refine DX.takeW 10 2047 (by kernel_rfl) rfl rfl rfl rfl rfl (yw_pickF rfl rfl rfl) ?_
                  refine DX.takeW 11 4095 (by kernel_rfl) rfl rfl rfl rfl rfl (yw_assign rfl rfl) ?_
                  refine DX.done (by kernel_rfl) (XX.next (V' := [(0, .slice y2.1 ((distinctF [] (fewF fs)).length) y2.2), (3, .bool true), (4, .slice y3.1 ((streams (distinctF [] (fewF fs))).length) y3.2), (5, .int .i64 ((i : Nat) : Int)), (6, .pointer (some ⟨gf, 0, none⟩)), (7, .bool (decide (s.id = f.id))), (8, .bool false), (9, .int .i64 ((n : Nat) : Int)), (10, .int .i64 ((k : Nat) : Int)), (11, .pointer (some ⟨gs, 0, none⟩)), (14, .bool (earlier (findF (distinctF [] (fewF fs)) s) f))]) ⟨rfl, rfl, rfl, rfl, rfl, rfl, rfl, rfl, rfl, rfl, rfl, trivial⟩ ?_)
                  refine CX.seq ?_
                  refine CX.region ?_
                  refine RX.cons rfl rfl (op_w (yw_move rfl rfl) rfl rfl ?_)
                  refine RX.cons rfl rfl (op_w (yw_move rfl rfl) rfl rfl ?_)
                  refine RX.split (t := 91) (b := (earlier (findF (distinctF [] (fewF fs)) s) f)) rfl (fun d91 => ?_) (fun d91 => ?_)
                  · refine RX.consG rfl rfl rfl rfl rfl (op_w (yw_fieldAddr rfl fld_30_3 rfl) rfl rfl ?_)
                    refine RX.consG rfl rfl rfl rfl rfl (op_yld (y_load (i := 1) rfl rfl one_3 rfl rfl) rfl rfl ?_)
                    refine RX.consG rfl rfl rfl rfl rfl (op_w (yw_fieldAddr rfl fld_33_7 rfl) rfl rfl ?_)
                    refine RX.consG rfl rfl rfl rfl rfl (op_yld (y_load (i := 2) rfl rfl one_3 rfl rfl) rfl rfl ?_)
                    refine RX.consG rfl rfl rfl rfl rfl (op_w (yw_eql rfl rfl rfl) rfl rfl ?_)
                    refine RX.cons rfl rfl (op_w (yw_pickT rfl rfl rfl) rfl rfl ?_)
                    refine RX.nil (XX.next (V' := [(0, .slice y2.1 ((distinctF [] (fewF fs)).length) y2.2), (3, .bool true), (4, .slice y3.1 ((streams (distinctF [] (fewF fs))).length) y3.2), (5, .int .i64 ((i : Nat) : Int)), (6, .pointer (some ⟨gf, 0, none⟩)), (7, .bool (decide (s.id = f.id))), (8, .bool false), (9, .int .i64 ((n : Nat) : Int)), (10, .int .i64 ((k : Nat) : Int)), (97, .bool (decide (s.recording = f.recording)))]) ⟨rfl, rfl, rfl, rfl, rfl, rfl, rfl, rfl, rfl, rfl, trivial⟩ ?_)
                    refine CX.condD (p := s.recording = f.recording) rfl (fun c97 => ?_) (fun c97 => ?_)
                    · refine CX.region ?_
                      refine RX.cons rfl rfl (op_w (yw_move rfl rfl) rfl rfl ?_)
                      refine RX.cons rfl rfl (op_w (yw_add rfl rfl rfl (by omega) (by omega)) rfl rfl ?_)
                      refine RX.cons rfl rfl (op_w (yw_assign rfl rfl) rfl rfl ?_)
                      refine RX.nil (XX.inBlock (V' := [(0, .slice y2.1 ((distinctF [] (fewF fs)).length) y2.2), (3, .bool true), (4, .slice y3.1 ((streams (distinctF [] (fewF fs))).length) y3.2), (5, .int .i64 ((i : Nat) : Int)), (6, .pointer (some ⟨gf, 0, none⟩)), (7, .bool (decide (s.id = f.id))), (8, .bool false), (9, .int .i64 (((n : Nat) : Int) + 1)), (10, .int .i64 ((k : Nat) : Int))]) ⟨rfl, rfl, rfl, rfl, rfl, rfl, rfl, rfl, rfl, trivial⟩ ?_)
                      refine XX.next (V' := [(0, .slice y2.1 ((distinctF [] (fewF fs)).length) y2.2), (3, .bool true), (4, .slice y3.1 ((streams (distinctF [] (fewF fs))).length) y3.2), (5, .int .i64 ((i : Nat) : Int)), (6, .pointer (some ⟨gf, 0, none⟩)), (7, .bool (decide (s.id = f.id))), (8, .bool false), (9, .int .i64 (((n : Nat) : Int) + 1)), (10, .int .i64 ((k : Nat) : Int))]) ⟨rfl, rfl, rfl, rfl, rfl, rfl, rfl, rfl, rfl, trivial⟩ ?_
                      refine CX.region ?_
                      refine RX.cons rfl rfl (op_w (yw_move rfl rfl) rfl rfl ?_)
                      refine RX.cons rfl rfl (op_w (yw_add rfl rfl rfl (by omega) (by omega)) rfl rfl ?_)
                      refine RX.cons rfl rfl (op_w (yw_assign rfl rfl) rfl rfl ?_)
                      refine RX.nil (XX.againP ([.blk gg (.cells (Fct.cells (findF (distinctF [] (fewF fs)) s)) 33 (0, 0)), .blk gs (.cells (Strm.cells s) 30 (0, 0))]) (k + 1, decide (s.id = f.id), false, n + 1) (by dsimp only; omega) ⟨by dsimp only; omega, any_or hs hb1 d47 (hers_eq (by omega)), any_or hs hb2 d80 (overs_no (by omega) d82), count_yes hs (loops_yes (by omega) d91 c97) hnn⟩ ⟨rfl, rfl, rfl, rfl, rfl, rfl, rfl, rfl, rfl, trivial⟩ ((perm_pick 2 rfl).trans (List.Perm.cons _ ((perm_pick 2 rfl).trans (List.Perm.cons _ ((perm_pick 2 rfl).trans (List.Perm.cons _ ((perm_pick 2 rfl).trans (List.Perm.cons _ (List.Perm.refl _))))))))))
                    · refine CX.skip (XX.inBlock (V' := [(0, .slice y2.1 ((distinctF [] (fewF fs)).length) y2.2), (3, .bool true), (4, .slice y3.1 ((streams (distinctF [] (fewF fs))).length) y3.2), (5, .int .i64 ((i : Nat) : Int)), (6, .pointer (some ⟨gf, 0, none⟩)), (7, .bool (decide (s.id = f.id))), (8, .bool false), (9, .int .i64 ((n : Nat) : Int)), (10, .int .i64 ((k : Nat) : Int))]) ⟨rfl, rfl, rfl, rfl, rfl, rfl, rfl, rfl, rfl, trivial⟩ ?_)
                      refine XX.next (V' := [(0, .slice y2.1 ((distinctF [] (fewF fs)).length) y2.2), (3, .bool true), (4, .slice y3.1 ((streams (distinctF [] (fewF fs))).length) y3.2), (5, .int .i64 ((i : Nat) : Int)), (6, .pointer (some ⟨gf, 0, none⟩)), (7, .bool (decide (s.id = f.id))), (8, .bool false), (9, .int .i64 ((n : Nat) : Int)), (10, .int .i64 ((k : Nat) : Int))]) ⟨rfl, rfl, rfl, rfl, rfl, rfl, rfl, rfl, rfl, trivial⟩ ?_
                      refine CX.region ?_
                      refine RX.cons rfl rfl (op_w (yw_move rfl rfl) rfl rfl ?_)
                      refine RX.cons rfl rfl (op_w (yw_add rfl rfl rfl (by omega) (by omega)) rfl rfl ?_)
                      refine RX.cons rfl rfl (op_w (yw_assign rfl rfl) rfl rfl ?_)
                      refine RX.nil (XX.againP ([.blk gg (.cells (Fct.cells (findF (distinctF [] (fewF fs)) s)) 33 (0, 0)), .blk gs (.cells (Strm.cells s) 30 (0, 0))]) (k + 1, decide (s.id = f.id), false, n) (by dsimp only; omega) ⟨by dsimp only; omega, any_or hs hb1 d47 (hers_eq (by omega)), any_or hs hb2 d80 (overs_no (by omega) d82), count_no hs (loops_rec c97) hnn⟩ ⟨rfl, rfl, rfl, rfl, rfl, rfl, rfl, rfl, rfl, trivial⟩ ((perm_pick 2 rfl).trans (List.Perm.cons _ ((perm_pick 2 rfl).trans (List.Perm.cons _ ((perm_pick 2 rfl).trans (List.Perm.cons _ ((perm_pick 2 rfl).trans (List.Perm.cons _ (List.Perm.refl _))))))))))
                  · refine RX.skip rfl rfl rfl rfl rfl rfl rfl ?_
                    refine RX.skip rfl rfl rfl rfl rfl rfl rfl ?_
                    refine RX.skip rfl rfl rfl rfl rfl rfl rfl ?_
                    refine RX.skip rfl rfl rfl rfl rfl rfl rfl ?_
                    refine RX.skip rfl rfl rfl rfl rfl rfl rfl ?_
                    refine RX.cons rfl rfl (op_w (yw_pickF rfl rfl rfl) rfl rfl ?_)
                    refine RX.nil (XX.next (V' := [(0, .slice y2.1 ((distinctF [] (fewF fs)).length) y2.2), (3, .bool true), (4, .slice y3.1 ((streams (distinctF [] (fewF fs))).length) y3.2), (5, .int .i64 ((i : Nat) : Int)), (6, .pointer (some ⟨gf, 0, none⟩)), (7, .bool (decide (s.id = f.id))), (8, .bool false), (9, .int .i64 ((n : Nat) : Int)), (10, .int .i64 ((k : Nat) : Int)), (97, .bool false)]) ⟨rfl, rfl, rfl, rfl, rfl, rfl, rfl, rfl, rfl, rfl, trivial⟩ ?_)
                    refine CX.condF rfl ?_
                    refine CX.skip (XX.inBlock (V' := [(0, .slice y2.1 ((distinctF [] (fewF fs)).length) y2.2), (3, .bool true), (4, .slice y3.1 ((streams (distinctF [] (fewF fs))).length) y3.2), (5, .int .i64 ((i : Nat) : Int)), (6, .pointer (some ⟨gf, 0, none⟩)), (7, .bool (decide (s.id = f.id))), (8, .bool false), (9, .int .i64 ((n : Nat) : Int)), (10, .int .i64 ((k : Nat) : Int))]) ⟨rfl, rfl, rfl, rfl, rfl, rfl, rfl, rfl, rfl, trivial⟩ ?_)
                    refine XX.next (V' := [(0, .slice y2.1 ((distinctF [] (fewF fs)).length) y2.2), (3, .bool true), (4, .slice y3.1 ((streams (distinctF [] (fewF fs))).length) y3.2), (5, .int .i64 ((i : Nat) : Int)), (6, .pointer (some ⟨gf, 0, none⟩)), (7, .bool (decide (s.id = f.id))), (8, .bool false), (9, .int .i64 ((n : Nat) : Int)), (10, .int .i64 ((k : Nat) : Int))]) ⟨rfl, rfl, rfl, rfl, rfl, rfl, rfl, rfl, rfl, trivial⟩ ?_
                    refine CX.region ?_
                    refine RX.cons rfl rfl (op_w (yw_move rfl rfl) rfl rfl ?_)
                    refine RX.cons rfl rfl (op_w (yw_add rfl rfl rfl (by omega) (by omega)) rfl rfl ?_)
                    refine RX.cons rfl rfl (op_w (yw_assign rfl rfl) rfl rfl ?_)
                    refine RX.nil (XX.againP ([.blk gg (.cells (Fct.cells (findF (distinctF [] (fewF fs)) s)) 33 (0, 0)), .blk gs (.cells (Strm.cells s) 30 (0, 0))]) (k + 1, decide (s.id = f.id), false, n) (by dsimp only; omega) ⟨by dsimp only; omega, any_or hs hb1 d47 (hers_eq (by omega)), any_or hs hb2 d80 (overs_no (by omega) d82), count_no hs (loops_no (by omega) d91) hnn⟩ ⟨rfl, rfl, rfl, rfl, rfl, rfl, rfl, rfl, rfl, trivial⟩ ((perm_pick 2 rfl).trans (List.Perm.cons _ ((perm_pick 2 rfl).trans (List.Perm.cons _ ((perm_pick 2 rfl).trans (List.Perm.cons _ ((perm_pick 2 rfl).trans (List.Perm.cons _ (List.Perm.refl _))))))))))
            · refine RX.skip rfl rfl rfl rfl rfl rfl rfl ?_
              refine RX.skip rfl rfl rfl rfl rfl rfl rfl ?_
              refine RX.skip rfl rfl rfl rfl rfl rfl rfl ?_
              refine RX.skip rfl rfl rfl rfl rfl rfl rfl ?_
              refine RX.skip rfl rfl rfl rfl rfl rfl rfl ?_
              refine RX.consG rfl rfl rfl rfl rfl (op_w (yw_pickF rfl rfl rfl) rfl rfl ?_)
              refine RX.cons rfl rfl (op_w (yw_pickF rfl rfl rfl) rfl rfl ?_)
              refine RX.cons rfl rfl (op_w (yw_assign rfl rfl) rfl rfl ?_)
              refine RX.know (t := 14) (u := .bool (earlier (findF (distinctF [] (fewF fs)) s) f)) rfl (congrArg Value.bool (earlier_not d65 d71).symm) ?_
              refine RX.nil (XX.next (V' := [(0, .slice y2.1 ((distinctF [] (fewF fs)).length) y2.2), (3, .bool true), (4, .slice y3.1 ((streams (distinctF [] (fewF fs))).length) y3.2), (5, .int .i64 ((i : Nat) : Int)), (6, .pointer (some ⟨gf, 0, none⟩)), (7, .bool (decide (s.id = f.id))), (8, .bool b2), (9, .int .i64 ((n : Nat) : Int)), (10, .int .i64 ((k : Nat) : Int)), (11, .pointer (some ⟨gs, 0, none⟩)), (12, .pointer (some ⟨gg, 0, none⟩)), (14, .bool (earlier (findF (distinctF [] (fewF fs)) s) f))]) ⟨rfl, rfl, rfl, rfl, rfl, rfl, rfl, rfl, rfl, rfl, rfl, rfl, trivial⟩ ?_)
              refine CX.seq ?_
              refine CX.draw 12 (by kernel_rfl) ?_
              refine DX.takeW 0 1 (by kernel_rfl) rfl rfl rfl rfl rfl (yw_move rfl rfl) ?_
              refine DX.takeW 1 3 (by kernel_rfl) rfl rfl rfl rfl rfl (yw_move rfl rfl) ?_
              refine DX.split (t := 80) (b := b2) rfl (fun d80 => ?_) (fun d80 => ?_)
              · refine DX.skip 2 7 (by kernel_rfl) rfl rfl rfl rfl rfl rfl rfl rfl ?_
                refine DX.skip 3 15 (by kernel_rfl) rfl rfl rfl rfl rfl rfl rfl rfl ?_
                refine DX.skip 4 31 (by kernel_rfl) rfl rfl rfl rfl rfl rfl rfl rfl ?_
                refine DX.skip 5 63 (by kernel_rfl) rfl rfl rfl rfl rfl rfl rfl rfl ?_
                refine DX.skip 6 127 (by kernel_rfl) rfl rfl rfl rfl rfl rfl rfl rfl ?_
                refine DX.skip 7 255 (by kernel_rfl) rfl rfl rfl rfl rfl rfl rfl rfl ?_
                refine DX.skip 8 511 (by kernel_rfl) rfl rfl rfl rfl rfl rfl rfl rfl ?_
                refine DX.skip 9 1023 (by kernel_rfl) rfl rfl rfl rfl rfl rfl rfl rfl ?_
                refine DX.takeW 10 2047 (by kernel_rfl) rfl rfl rfl rfl rfl (yw_pickT rfl rfl rfl) ?_
                refine DX.takeW 11 4095 (by kernel_rfl) rfl rfl rfl rfl rfl (yw_assign rfl rfl) ?_
                refine DX.done (by kernel_rfl) (XX.next (V' := [(0, .slice y2.1 ((distinctF [] (fewF fs)).length) y2.2), (3, .bool true), (4, .slice y3.1 ((streams (distinctF [] (fewF fs))).length) y3.2), (5, .int .i64 ((i : Nat) : Int)), (6, .pointer (some ⟨gf, 0, none⟩)), (7, .bool (decide (s.id = f.id))), (8, .bool true), (9, .int .i64 ((n : Nat) : Int)), (10, .int .i64 ((k : Nat) : Int)), (11, .pointer (some ⟨gs, 0, none⟩)), (14, .bool (earlier (findF (distinctF [] (fewF fs)) s) f))]) ⟨rfl, rfl, rfl, rfl, rfl, rfl, rfl, rfl, rfl, rfl, rfl, trivial⟩ ?_)
                refine CX.seq ?_
                refine CX.region ?_
                refine RX.cons rfl rfl (op_w (yw_move rfl rfl) rfl rfl ?_)
                refine RX.cons rfl rfl (op_w (yw_move rfl rfl) rfl rfl ?_)
                refine RX.split (t := 91) (b := (earlier (findF (distinctF [] (fewF fs)) s) f)) rfl (fun d91 => ?_) (fun d91 => ?_)
                · refine RX.consG rfl rfl rfl rfl rfl (op_w (yw_fieldAddr rfl fld_30_3 rfl) rfl rfl ?_)
                  refine RX.consG rfl rfl rfl rfl rfl (op_yld (y_load (i := 1) rfl rfl one_3 rfl rfl) rfl rfl ?_)
                  refine RX.consG rfl rfl rfl rfl rfl (op_w (yw_fieldAddr rfl fld_33_7 rfl) rfl rfl ?_)
                  refine RX.consG rfl rfl rfl rfl rfl (op_yld (y_load (i := 2) rfl rfl one_3 rfl rfl) rfl rfl ?_)
                  refine RX.consG rfl rfl rfl rfl rfl (op_w (yw_eql rfl rfl rfl) rfl rfl ?_)
                  refine RX.cons rfl rfl (op_w (yw_pickT rfl rfl rfl) rfl rfl ?_)
                  refine RX.nil (XX.next (V' := [(0, .slice y2.1 ((distinctF [] (fewF fs)).length) y2.2), (3, .bool true), (4, .slice y3.1 ((streams (distinctF [] (fewF fs))).length) y3.2), (5, .int .i64 ((i : Nat) : Int)), (6, .pointer (some ⟨gf, 0, none⟩)), (7, .bool (decide (s.id = f.id))), (8, .bool true), (9, .int .i64 ((n : Nat) : Int)), (10, .int .i64 ((k : Nat) : Int)), (97, .bool (decide (s.recording = f.recording)))]) ⟨rfl, rfl, rfl, rfl, rfl, rfl, rfl, rfl, rfl, rfl, trivial⟩ ?_)
                  refine CX.condD (p := s.recording = f.recording) rfl (fun c97 => ?_) (fun c97 => ?_)
                  · refine CX.region ?_
                    refine RX.cons rfl rfl (op_w (yw_move rfl rfl) rfl rfl ?_)
                    refine RX.cons rfl rfl (op_w (yw_add rfl rfl rfl (by omega) (by omega)) rfl rfl ?_)
                    refine RX.cons rfl rfl (op_w (yw_assign rfl rfl) rfl rfl ?_)
                    refine RX.nil (XX.inBlock (V' := [(0, .slice y2.1 ((distinctF [] (fewF fs)).length) y2.2), (3, .bool true), (4, .slice y3.1 ((streams (distinctF [] (fewF fs))).length) y3.2), (5, .int .i64 ((i : Nat) : Int)), (6, .pointer (some ⟨gf, 0, none⟩)), (7, .bool (decide (s.id = f.id))), (8, .bool true), (9, .int .i64 (((n : Nat) : Int) + 1)), (10, .int .i64 ((k : Nat) : Int))]) ⟨rfl, rfl, rfl, rfl, rfl, rfl, rfl, rfl, rfl, trivial⟩ ?_)
                    refine XX.next (V' := [(0, .slice y2.1 ((distinctF [] (fewF fs)).length) y2.2), (3, .bool true), (4, .slice y3.1 ((streams (distinctF [] (fewF fs))).length) y3.2), (5, .int .i64 ((i : Nat) : Int)), (6, .pointer (some ⟨gf, 0, none⟩)), (7, .bool (decide (s.id = f.id))), (8, .bool true), (9, .int .i64 (((n : Nat) : Int) + 1)), (10, .int .i64 ((k : Nat) : Int))]) ⟨rfl, rfl, rfl, rfl, rfl, rfl, rfl, rfl, rfl, trivial⟩ ?_
                    refine CX.region ?_
                    refine RX.cons rfl rfl (op_w (yw_move rfl rfl) rfl rfl ?_)
                    refine RX.cons rfl rfl (op_w (yw_add rfl rfl rfl (by omega) (by omega)) rfl rfl ?_)
                    refine RX.cons rfl rfl (op_w (yw_assign rfl rfl) rfl rfl ?_)
                    refine RX.nil (XX.againP ([.blk gg (.cells (Fct.cells (findF (distinctF [] (fewF fs)) s)) 33 (0, 0)), .blk gs (.cells (Strm.cells s) 30 (0, 0))]) (k + 1, decide (s.id = f.id), true, n + 1) (by dsimp only; omega) ⟨by dsimp only; omega, any_or hs hb1 d47 (hers_eq (by omega)), any_yes hs hb2 d80, count_yes hs (loops_yes (by omega) d91 c97) hnn⟩ ⟨rfl, rfl, rfl, rfl, rfl, rfl, rfl, rfl, rfl, trivial⟩ ((perm_pick 2 rfl).trans (List.Perm.cons _ ((perm_pick 2 rfl).trans (List.Perm.cons _ ((perm_pick 2 rfl).trans (List.Perm.cons _ ((perm_pick 2 rfl).trans (List.Perm.cons _ (List.Perm.refl _))))))))))
                  · refine CX.skip (XX.inBlock (V' := [(0, .slice y2.1 ((distinctF [] (fewF fs)).length) y2.2), (3, .bool true), (4, .slice y3.1 ((streams (distinctF [] (fewF fs))).length) y3.2), (5, .int .i64 ((i : Nat) : Int)), (6, .pointer (some ⟨gf, 0, none⟩)), (7, .bool (decide (s.id = f.id))), (8, .bool true), (9, .int .i64 ((n : Nat) : Int)), (10, .int .i64 ((k : Nat) : Int))]) ⟨rfl, rfl, rfl, rfl, rfl, rfl, rfl, rfl, rfl, trivial⟩ ?_)
                    refine XX.next (V' := [(0, .slice y2.1 ((distinctF [] (fewF fs)).length) y2.2), (3, .bool true), (4, .slice y3.1 ((streams (distinctF [] (fewF fs))).length) y3.2), (5, .int .i64 ((i : Nat) : Int)), (6, .pointer (some ⟨gf, 0, none⟩)), (7, .bool (decide (s.id = f.id))), (8, .bool true), (9, .int .i64 ((n : Nat) : Int)), (10, .int .i64 ((k : Nat) : Int))]) ⟨rfl, rfl, rfl, rfl, rfl, rfl, rfl, rfl, rfl, trivial⟩ ?_
                    refine CX.region ?_
                    refine RX.cons rfl rfl (op_w (yw_move rfl rfl) rfl rfl ?_)
                    refine RX.cons rfl rfl (op_w (yw_add rfl rfl rfl (by omega) (by omega)) rfl rfl ?_)
                    refine RX.cons rfl rfl (op_w (yw_assign rfl rfl) rfl rfl ?_)
                    refine RX.nil (XX.againP ([.blk gg (.cells (Fct.cells (findF (distinctF [] (fewF fs)) s)) 33 (0, 0)), .blk gs (.cells (Strm.cells s) 30 (0, 0))]) (k + 1, decide (s.id = f.id), true, n) (by dsimp only; omega) ⟨by dsimp only; omega, any_or hs hb1 d47 (hers_eq (by omega)), any_yes hs hb2 d80, count_no hs (loops_rec c97) hnn⟩ ⟨rfl, rfl, rfl, rfl, rfl, rfl, rfl, rfl, rfl, trivial⟩ ((perm_pick 2 rfl).trans (List.Perm.cons _ ((perm_pick 2 rfl).trans (List.Perm.cons _ ((perm_pick 2 rfl).trans (List.Perm.cons _ ((perm_pick 2 rfl).trans (List.Perm.cons _ (List.Perm.refl _))))))))))
                · refine RX.skip rfl rfl rfl rfl rfl rfl rfl ?_
                  refine RX.skip rfl rfl rfl rfl rfl rfl rfl ?_
                  refine RX.skip rfl rfl rfl rfl rfl rfl rfl ?_
                  refine RX.skip rfl rfl rfl rfl rfl rfl rfl ?_
                  refine RX.skip rfl rfl rfl rfl rfl rfl rfl ?_
                  refine RX.cons rfl rfl (op_w (yw_pickF rfl rfl rfl) rfl rfl ?_)
                  refine RX.nil (XX.next (V' := [(0, .slice y2.1 ((distinctF [] (fewF fs)).length) y2.2), (3, .bool true), (4, .slice y3.1 ((streams (distinctF [] (fewF fs))).length) y3.2), (5, .int .i64 ((i : Nat) : Int)), (6, .pointer (some ⟨gf, 0, none⟩)), (7, .bool (decide (s.id = f.id))), (8, .bool true), (9, .int .i64 ((n : Nat) : Int)), (10, .int .i64 ((k : Nat) : Int)), (97, .bool false)]) ⟨rfl, rfl, rfl, rfl, rfl, rfl, rfl, rfl, rfl, rfl, trivial⟩ ?_)
                  refine CX.condF rfl ?_
                  refine CX.skip (XX.inBlock (V' := [(0, .slice y2.1 ((distinctF [] (fewF fs)).length) y2.2), (3, .bool true), (4, .slice y3.1 ((streams (distinctF [] (fewF fs))).length) y3.2), (5, .int .i64 ((i : Nat) : Int)), (6, .pointer (some ⟨gf, 0, none⟩)), (7, .bool (decide (s.id = f.id))), (8, .bool true), (9, .int .i64 ((n : Nat) : Int)), (10, .int .i64 ((k : Nat) : Int))]) ⟨rfl, rfl, rfl, rfl, rfl, rfl, rfl, rfl, rfl, trivial⟩ ?_)
                  refine XX.next (V' := [(0, .slice y2.1 ((distinctF [] (fewF fs)).length) y2.2), (3, .bool true), (4, .slice y3.1 ((streams (distinctF [] (fewF fs))).length) y3.2), (5, .int .i64 ((i : Nat) : Int)), (6, .pointer (some ⟨gf, 0, none⟩)), (7, .bool (decide (s.id = f.id))), (8, .bool true), (9, .int .i64 ((n : Nat) : Int)), (10, .int .i64 ((k : Nat) : Int))]) ⟨rfl, rfl, rfl, rfl, rfl, rfl, rfl, rfl, rfl, trivial⟩ ?_
                  refine CX.region ?_
                  refine RX.cons rfl rfl (op_w (yw_move rfl rfl) rfl rfl ?_)
                  refine RX.cons rfl rfl (op_w (yw_add rfl rfl rfl (by omega) (by omega)) rfl rfl ?_)
                  refine RX.cons rfl rfl (op_w (yw_assign rfl rfl) rfl rfl ?_)
                  refine RX.nil (XX.againP ([.blk gg (.cells (Fct.cells (findF (distinctF [] (fewF fs)) s)) 33 (0, 0)), .blk gs (.cells (Strm.cells s) 30 (0, 0))]) (k + 1, decide (s.id = f.id), true, n) (by dsimp only; omega) ⟨by dsimp only; omega, any_or hs hb1 d47 (hers_eq (by omega)), any_yes hs hb2 d80, count_no hs (loops_no (by omega) d91) hnn⟩ ⟨rfl, rfl, rfl, rfl, rfl, rfl, rfl, rfl, rfl, trivial⟩ ((perm_pick 2 rfl).trans (List.Perm.cons _ ((perm_pick 2 rfl).trans (List.Perm.cons _ ((perm_pick 2 rfl).trans (List.Perm.cons _ ((perm_pick 2 rfl).trans (List.Perm.cons _ (List.Perm.refl _))))))))))
              · refine DX.takeWG 2 7 (by kernel_rfl) rfl rfl rfl rfl rfl rfl rfl rfl (yw_move rfl rfl) ?_
                refine DX.takeWG 3 15 (by kernel_rfl) rfl rfl rfl rfl rfl rfl rfl rfl (yw_move rfl rfl) ?_
                refine DX.split (t := 82) (b := (earlier (findF (distinctF [] (fewF fs)) s) f)) rfl (fun d82 => ?_) (fun d82 => ?_)
                · refine DX.takeWG 4 31 (by kernel_rfl) rfl rfl rfl rfl rfl rfl rfl rfl (yw_fieldAddr rfl fld_33_4 rfl) ?_
                  refine DX.takeG 5 63 (by kernel_rfl) rfl rfl rfl rfl rfl rfl rfl rfl (List.Sublist.refl _) (y_load (i := 2) rfl rfl one_3 rfl rfl) ?_
                  refine DX.takeG 6 127 (by kernel_rfl) rfl rfl rfl rfl rfl rfl rfl rfl (List.Sublist.refl _) (y_loadA (i := 0) rfl rfl agg_33 rfl rfl) ?_
                  refine DX.stepG 7 255 (by kernel_rfl) rfl rfl rfl rfl rfl rfl (op_callV (v := .int .i64 (Fct.stop (findF (distinctF [] (fewF fs)) s))) rfl rfl rfl rfl rfl ent_16 (fun w _ => w_refEnd (findF (distinctF [] (fewF fs)) s) hh.s0 hh.s1 hh.a0 hh.a1) (DXs.mk (List.Sublist.refl _) ?_))
                  refine DX.takeWG 8 511 (by kernel_rfl) rfl rfl rfl rfl rfl rfl rfl rfl (yw_lss rfl rfl rfl) ?_
                  refine DX.takeWG 9 1023 (by kernel_rfl) rfl rfl rfl rfl rfl rfl rfl rfl (yw_pickT rfl rfl rfl) ?_
                  refine DX.takeW 10 2047 (by kernel_rfl) rfl rfl rfl rfl rfl (yw_pickF rfl rfl rfl) ?_
                  refine DX.takeW 11 4095 (by kernel_rfl) rfl rfl rfl rfl rfl (yw_assign rfl rfl) ?_
                  refine DX.done (by kernel_rfl) (XX.next (V' := [(0, .slice y2.1 ((distinctF [] (fewF fs)).length) y2.2), (3, .bool true), (4, .slice y3.1 ((streams (distinctF [] (fewF fs))).length) y3.2), (5, .int .i64 ((i : Nat) : Int)), (6, .pointer (some ⟨gf, 0, none⟩)), (7, .bool (decide (s.id = f.id))), (8, .bool (decide (f.second < Fct.stop (findF (distinctF [] (fewF fs)) s)))), (9, .int .i64 ((n : Nat) : Int)), (10, .int .i64 ((k : Nat) : Int)), (11, .pointer (some ⟨gs, 0, none⟩)), (14, .bool (earlier (findF (distinctF [] (fewF fs)) s) f))]) ⟨rfl, rfl, rfl, rfl, rfl, rfl, rfl, rfl, rfl, rfl, rfl, trivial⟩ ?_)
                  refine CX.seq ?_
                  refine CX.region ?_
                  refine RX.cons rfl rfl (op_w (yw_move rfl rfl) rfl rfl ?_)
                  refine RX.cons rfl rfl (op_w (yw_move rfl rfl) rfl rfl ?_)
                  refine RX.split (t := 91) (b := (earlier (findF (distinctF [] (fewF fs)) s) f)) rfl (fun d91 => ?_) (fun d91 => ?_)
                  · refine RX.consG rfl rfl rfl rfl rfl (op_w (yw_fieldAddr rfl fld_30_3 rfl) rfl rfl ?_)
                    refine RX.consG rfl rfl rfl rfl rfl (op_yld (y_load (i := 1) rfl rfl one_3 rfl rfl) rfl rfl ?_)
                    refine RX.consG rfl rfl rfl rfl rfl (op_w (yw_fieldAddr rfl fld_33_7 rfl) rfl rfl ?_)
                    refine RX.consG rfl rfl rfl rfl rfl (op_yld (y_load (i := 2) rfl rfl one_3 rfl rfl) rfl rfl ?_)
                    refine RX.consG rfl rfl rfl rfl rfl (op_w (yw_eql rfl rfl rfl) rfl rfl ?_)
                    refine RX.cons rfl rfl (op_w (yw_pickT rfl rfl rfl) rfl rfl ?_)
                    refine RX.nil (XX.next (V' := [(0, .slice y2.1 ((distinctF [] (fewF fs)).length) y2.2), (3, .bool true), (4, .slice y3.1 ((streams (distinctF [] (fewF fs))).length) y3.2), (5, .int .i64 ((i : Nat) : Int)), (6, .pointer (some ⟨gf, 0, none⟩)), (7, .bool (decide (s.id = f.id))), (8, .bool (decide (f.second < Fct.stop (findF (distinctF [] (fewF fs)) s)))), (9, .int .i64 ((n : Nat) : Int)), (10, .int .i64 ((k : Nat) : Int)), (97, .bool (decide (s.recording = f.recording)))]) ⟨rfl, rfl, rfl, rfl, rfl, rfl, rfl, rfl, rfl, rfl, trivial⟩ ?_)
                    refine CX.condD (p := s.recording = f.recording) rfl (fun c97 => ?_) (fun c97 => ?_)
                    · refine CX.region ?_
                      refine RX.cons rfl rfl (op_w (yw_move rfl rfl) rfl rfl ?_)
                      refine RX.cons rfl rfl (op_w (yw_add rfl rfl rfl (by omega) (by omega)) rfl rfl ?_)
                      refine RX.cons rfl rfl (op_w (yw_assign rfl rfl) rfl rfl ?_)
                      refine RX.nil (XX.inBlock (V' := [(0, .slice y2.1 ((distinctF [] (fewF fs)).length) y2.2), (3, .bool true), (4, .slice y3.1 ((streams (distinctF [] (fewF fs))).length) y3.2), (5, .int .i64 ((i : Nat) : Int)), (6, .pointer (some ⟨gf, 0, none⟩)), (7, .bool (decide (s.id = f.id))), (8, .bool (decide (f.second < Fct.stop (findF (distinctF [] (fewF fs)) s)))), (9, .int .i64 (((n : Nat) : Int) + 1)), (10, .int .i64 ((k : Nat) : Int))]) ⟨rfl, rfl, rfl, rfl, rfl, rfl, rfl, rfl, rfl, trivial⟩ ?_)
                      refine XX.next (V' := [(0, .slice y2.1 ((distinctF [] (fewF fs)).length) y2.2), (3, .bool true), (4, .slice y3.1 ((streams (distinctF [] (fewF fs))).length) y3.2), (5, .int .i64 ((i : Nat) : Int)), (6, .pointer (some ⟨gf, 0, none⟩)), (7, .bool (decide (s.id = f.id))), (8, .bool (decide (f.second < Fct.stop (findF (distinctF [] (fewF fs)) s)))), (9, .int .i64 (((n : Nat) : Int) + 1)), (10, .int .i64 ((k : Nat) : Int))]) ⟨rfl, rfl, rfl, rfl, rfl, rfl, rfl, rfl, rfl, trivial⟩ ?_
                      refine CX.region ?_
                      refine RX.cons rfl rfl (op_w (yw_move rfl rfl) rfl rfl ?_)
                      refine RX.cons rfl rfl (op_w (yw_add rfl rfl rfl (by omega) (by omega)) rfl rfl ?_)
                      refine RX.cons rfl rfl (op_w (yw_assign rfl rfl) rfl rfl ?_)
                      refine RX.nil (XX.againP ([.blk gg (.cells (Fct.cells (findF (distinctF [] (fewF fs)) s)) 33 (0, 0)), .blk gs (.cells (Strm.cells s) 30 (0, 0))]) (k + 1, decide (s.id = f.id), decide (f.second < Fct.stop (findF (distinctF [] (fewF fs)) s)), n + 1) (by dsimp only; omega) ⟨by dsimp only; omega, any_or hs hb1 d47 (hers_eq (by omega)), any_or hs hb2 d80 (overs_eq (by omega) d82), count_yes hs (loops_yes (by omega) d91 c97) hnn⟩ ⟨rfl, rfl, rfl, rfl, rfl, rfl, rfl, rfl, rfl, trivial⟩ ((perm_pick 2 rfl).trans (List.Perm.cons _ ((perm_pick 2 rfl).trans (List.Perm.cons _ ((perm_pick 2 rfl).trans (List.Perm.cons _ ((perm_pick 2 rfl).trans (List.Perm.cons _ (List.Perm.refl _))))))))))
                    · refine CX.skip (XX.inBlock (V' := [(0, .slice y2.1 ((distinctF [] (fewF fs)).length) y2.2), (3, .bool true), (4, .slice y3.1 ((streams (distinctF [] (fewF fs))).length) y3.2), (5, .int .i64 ((i : Nat) : Int)), (6, .pointer (some ⟨gf, 0, none⟩)), (7, .bool (decide (s.id = f.id))), (8, .bool (decide (f.second < Fct.stop (findF (distinctF [] (fewF fs)) s)))), (9, .int .i64 ((n : Nat) : Int)), (10, .int .i64 ((k : Nat) : Int))]) ⟨rfl, rfl, rfl, rfl, rfl, rfl, rfl, rfl, rfl, trivial⟩ ?_)
                      refine XX.next (V' := [(0, .slice y2.1 ((distinctF [] (fewF fs)).length) y2.2), (3, .bool true), (4, .slice y3.1 ((streams (distinctF [] (fewF fs))).length) y3.2), (5, .int .i64 ((i : Nat) : Int)), (6, .pointer (some ⟨gf, 0, none⟩)), (7, .bool (decide (s.id = f.id))), (8, .bool (decide (f.second < Fct.stop (findF (distinctF [] (fewF fs)) s)))), (9, .int .i64 ((n : Nat) : Int)), (10, .int .i64 ((k : Nat) : Int))]) ⟨rfl, rfl, rfl, rfl, rfl, rfl, rfl, rfl, rfl, trivial⟩ ?_
                      refine CX.region ?_
                      refine RX.cons rfl rfl (op_w (yw_move rfl rfl) rfl rfl ?_)
                      refine RX.cons rfl rfl (op_w (yw_add rfl rfl rfl (by omega) (by omega)) rfl rfl ?_)
                      refine RX.cons rfl rfl (op_w (yw_assign rfl rfl) rfl rfl ?_)
                      refine RX.nil (XX.againP ([.blk gg (.cells (Fct.cells (findF (distinctF [] (fewF fs)) s)) 33 (0, 0)), .blk gs (.cells (Strm.cells s) 30 (0, 0))]) (k + 1, decide (s.id = f.id), decide (f.second < Fct.stop (findF (distinctF [] (fewF fs)) s)), n) (by dsimp only; omega) ⟨by dsimp only; omega, any_or hs hb1 d47 (hers_eq (by omega)), any_or hs hb2 d80 (overs_eq (by omega) d82), count_no hs (loops_rec c97) hnn⟩ ⟨rfl, rfl, rfl, rfl, rfl, rfl, rfl, rfl, rfl, trivial⟩ ((perm_pick 2 rfl).trans (List.Perm.cons _ ((perm_pick 2 rfl).trans (List.Perm.cons _ ((perm_pick 2 rfl).trans (List.Perm.cons _ ((perm_pick 2 rfl).trans (List.Perm.cons _ (List.Perm.refl _))))))))))
                  · refine RX.skip rfl rfl rfl rfl rfl rfl rfl ?_
                    refine RX.skip rfl rfl rfl rfl rfl rfl rfl ?_
                    refine RX.skip rfl rfl rfl rfl rfl rfl rfl ?_
                    refine RX.skip rfl rfl rfl rfl rfl rfl rfl ?_
                    refine RX.skip rfl rfl rfl rfl rfl rfl rfl ?_
                    refine RX.cons rfl rfl (op_w (yw_pickF rfl rfl rfl) rfl rfl ?_)
                    refine RX.nil (XX.next (V' := [(0, .slice y2.1 ((distinctF [] (fewF fs)).length) y2.2), (3, .bool true), (4, .slice y3.1 ((streams (distinctF [] (fewF fs))).length) y3.2), (5, .int .i64 ((i : Nat) : Int)), (6, .pointer (some ⟨gf, 0, none⟩)), (7, .bool (decide (s.id = f.id))), (8, .bool (decide (f.second < Fct.stop (findF (distinctF [] (fewF fs)) s)))), (9, .int .i64 ((n : Nat) : Int)), (10, .int .i64 ((k : Nat) : Int)), (97, .bool false)]) ⟨rfl, rfl, rfl, rfl, rfl, rfl, rfl, rfl, rfl, rfl, trivial⟩ ?_)
                    refine CX.condF rfl ?_
                    refine CX.skip (XX.inBlock (V' := [(0, .slice y2.1 ((distinctF [] (fewF fs)).length) y2.2), (3, .bool true), (4, .slice y3.1 ((streams (distinctF [] (fewF fs))).length) y3.2), (5, .int .i64 ((i : Nat) : Int)), (6, .pointer (some ⟨gf, 0, none⟩)), (7, .bool (decide (s.id = f.id))), (8, .bool (decide (f.second < Fct.stop (findF (distinctF [] (fewF fs)) s)))), (9, .int .i64 ((n : Nat) : Int)), (10, .int .i64 ((k : Nat) : Int))]) ⟨rfl, rfl, rfl, rfl, rfl, rfl, rfl, rfl, rfl, trivial⟩ ?_)
                    refine XX.next (V' := [(0, .slice y2.1 ((distinctF [] (fewF fs)).length) y2.2), (3, .bool true), (4, .slice y3.1 ((streams (distinctF [] (fewF fs))).length) y3.2), (5, .int .i64 ((i : Nat) : Int)), (6, .pointer (some ⟨gf, 0, none⟩)), (7, .bool (decide (s.id = f.id))), (8, .bool (decide (f.second < Fct.stop (findF (distinctF [] (fewF fs)) s)))), (9, .int .i64 ((n : Nat) : Int)), (10, .int .i64 ((k : Nat) : Int))]) ⟨rfl, rfl, rfl, rfl, rfl, rfl, rfl, rfl, rfl, trivial⟩ ?_
                    refine CX.region ?_
                    refine RX.cons rfl rfl (op_w (yw_move rfl rfl) rfl rfl ?_)
                    refine RX.cons rfl rfl (op_w (yw_add rfl rfl rfl (by omega) (by omega)) rfl rfl ?_)
                    refine RX.cons rfl rfl (op_w (yw_assign rfl rfl) rfl rfl ?_)
                    refine RX.nil (XX.againP ([.blk gg (.cells (Fct.cells (findF (distinctF [] (fewF fs)) s)) 33 (0, 0)), .blk gs (.cells (Strm.cells s) 30 (0, 0))]) (k + 1, decide (s.id = f.id), decide (f.second < Fct.stop (findF (distinctF [] (fewF fs)) s)), n) (by dsimp only; omega) ⟨by dsimp only; omega, any_or hs hb1 d47 (hers_eq (by omega)), any_or hs hb2 d80 (overs_eq (by omega) d82), count_no hs (loops_no (by omega) d91) hnn⟩ ⟨rfl, rfl, rfl, rfl, rfl, rfl, rfl, rfl, rfl, trivial⟩ ((perm_pick 2 rfl).trans (List.Perm.cons _ ((perm_pick 2 rfl).trans (List.Perm.cons _ ((perm_pick 2 rfl).trans (List.Perm.cons _ ((perm_pick 2 rfl).trans (List.Perm.cons _ (List.Perm.refl _))))))))))
                · refine DX.skip 4 31 (by kernel_rfl) rfl rfl rfl rfl rfl rfl rfl rfl ?_
                  refine DX.skip 5 63 (by kernel_rfl) rfl rfl rfl rfl rfl rfl rfl rfl ?_
                  refine DX.skip 6 127 (by kernel_rfl) rfl rfl rfl rfl rfl rfl rfl rfl ?_
                  refine DX.skip 7 255 (by kernel_rfl) rfl rfl rfl rfl rfl rfl rfl rfl ?_
                  refine DX.skip 8 511 (by kernel_rfl) rfl rfl rfl rfl rfl rfl rfl rfl ?_
                  refine DX.takeWG 9 1023 (by kernel_rfl) rfl rfl rfl rfl rfl rfl rfl rfl (yw_pickF rfl rfl rfl) ?_
                  refine DX.takeW 10 2047 (by kernel_rfl) rfl rfl rfl rfl rfl (yw_pickF rfl rfl rfl) ?_
                  refine DX.takeW 11 4095 (by kernel_rfl) rfl rfl rfl rfl rfl (yw_assign rfl rfl) ?_
                  refine DX.done (by kernel_rfl) (XX.next (V' := [(0, .slice y2.1 ((distinctF [] (fewF fs)).length) y2.2), (3, .bool true), (4, .slice y3.1 ((streams (distinctF [] (fewF fs))).length) y3.2), (5, .int .i64 ((i : Nat) : Int)), (6, .pointer (some ⟨gf, 0, none⟩)), (7, .bool (decide (s.id = f.id))), (8, .bool false), (9, .int .i64 ((n : Nat) : Int)), (10, .int .i64 ((k : Nat) : Int)), (11, .pointer (some ⟨gs, 0, none⟩)), (14, .bool (earlier (findF (distinctF [] (fewF fs)) s) f))]) ⟨rfl, rfl, rfl, rfl, rfl, rfl, rfl, rfl, rfl, rfl, rfl, trivial⟩ ?_)
                  refine CX.seq ?_
                  refine CX.region ?_
                  refine RX.cons rfl rfl (op_w (yw_move rfl rfl) rfl rfl ?_)
                  refine RX.cons rfl rfl (op_w (yw_move rfl rfl) rfl rfl ?_)
                  refine RX.split (t := 91) (b := (earlier (findF (distinctF [] (fewF fs)) s) f)) rfl (fun d91 => ?_) (fun d91 => ?_)
                  · refine RX.consG rfl rfl rfl rfl rfl (op_w (yw_fieldAddr rfl fld_30_3 rfl) rfl rfl ?_)
                    refine RX.consG rfl rfl rfl rfl rfl (op_yld (y_load (i := 1) rfl rfl one_3 rfl rfl) rfl rfl ?_)
                    refine RX.consG rfl rfl rfl rfl rfl (op_w (yw_fieldAddr rfl fld_33_7 rfl) rfl rfl ?_)
                    refine RX.consG rfl rfl rfl rfl rfl (op_yld (y_load (i := 2) rfl rfl one_3 rfl rfl) rfl rfl ?_)
                    refine RX.consG rfl rfl rfl rfl rfl (op_w (yw_eql rfl rfl rfl) rfl rfl ?_)
                    refine RX.cons rfl rfl (op_w (yw_pickT rfl rfl rfl) rfl rfl ?_)
                    refine RX.nil (XX.next (V' := [(0, .slice y2.1 ((distinctF [] (fewF fs)).length) y2.2), (3, .bool true), (4, .slice y3.1 ((streams (distinctF [] (fewF fs))).length) y3.2), (5, .int .i64 ((i : Nat) : Int)), (6, .pointer (some ⟨gf, 0, none⟩)), (7, .bool (decide (s.id = f.id))), (8, .bool false), (9, .int .i64 ((n : Nat) : Int)), (10, .int .i64 ((k : Nat) : Int)), (97, .bool (decide (s.recording = f.recording)))]) ⟨rfl, rfl, rfl, rfl, rfl, rfl, rfl, rfl, rfl, rfl, trivial⟩ ?_)
                    refine CX.condD (p := s.recording = f.recording) rfl (fun c97 => ?_) (fun c97 => ?_)
                    · refine CX.region ?_
                      refine RX.cons rfl rfl (op_w (yw_move rfl rfl) rfl rfl ?_)
                      refine RX.cons rfl rfl (op_w (yw_add rfl rfl rfl (by omega) (by omega)) rfl rfl ?_)
                      refine RX.cons rfl rfl (op_w (yw_assign rfl rfl) rfl rfl ?_)
                      refine RX.nil (XX.inBlock (V' := [(0, .slice y2.1 ((distinctF [] (fewF fs)).length) y2.2), (3, .bool true), (4, .slice y3.1 ((streams (distinctF [] (fewF fs))).length) y3.2), (5, .int .i64 ((i : Nat) : Int)), (6, .pointer (some ⟨gf, 0, none⟩)), (7, .bool (decide (s.id = f.id))), (8, .bool false), (9, .int .i64 (((n : Nat) : Int) + 1)), (10, .int .i64 ((k : Nat) : Int))]) ⟨rfl, rfl, rfl, rfl, rfl, rfl, rfl, rfl, rfl, trivial⟩ ?_)
                      refine XX.next (V' := [(0, .slice y2.1 ((distinctF [] (fewF fs)).length) y2.2), (3, .bool true), (4, .slice y3.1 ((streams (distinctF [] (fewF fs))).length) y3.2), (5, .int .i64 ((i : Nat) : Int)), (6, .pointer (some ⟨gf, 0, none⟩)), (7, .bool (decide (s.id = f.id))), (8, .bool false), (9, .int .i64 (((n : Nat) : Int) + 1)), (10, .int .i64 ((k : Nat) : Int))]) ⟨rfl, rfl, rfl, rfl, rfl, rfl, rfl, rfl, rfl, trivial⟩ ?_
                      refine CX.region ?_
                      refine RX.cons rfl rfl (op_w (yw_move rfl rfl) rfl rfl ?_)
                      refine RX.cons rfl rfl (op_w (yw_add rfl rfl rfl (by omega) (by omega)) rfl rfl ?_)
                      refine RX.cons rfl rfl (op_w (yw_assign rfl rfl) rfl rfl ?_)
                      refine RX.nil (XX.againP ([.blk gg (.cells (Fct.cells (findF (distinctF [] (fewF fs)) s)) 33 (0, 0)), .blk gs (.cells (Strm.cells s) 30 (0, 0))]) (k + 1, decide (s.id = f.id), false, n + 1) (by dsimp only; omega) ⟨by dsimp only; omega, any_or hs hb1 d47 (hers_eq (by omega)), any_or hs hb2 d80 (overs_no (by omega) d82), count_yes hs (loops_yes (by omega) d91 c97) hnn⟩ ⟨rfl, rfl, rfl, rfl, rfl, rfl, rfl, rfl, rfl, trivial⟩ ((perm_pick 2 rfl).trans (List.Perm.cons _ ((perm_pick 2 rfl).trans (List.Perm.cons _ ((perm_pick 2 rfl).trans (List.Perm.cons _ ((perm_pick 2 rfl).trans (List.Perm.cons _ (List.Perm.refl _))))))))))
                    · refine CX.skip (XX.inBlock (V' := [(0, .slice y2.1 ((distinctF [] (fewF fs)).length) y2.2), (3, .bool true), (4, .slice y3.1 ((streams (distinctF [] (fewF fs))).length) y3.2), (5, .int .i64 ((i : Nat) : Int)), (6, .pointer (some ⟨gf, 0, none⟩)), (7, .bool (decide (s.id = f.id))), (8, .bool false), (9, .int .i64 ((n : Nat) : Int)), (10, .int .i64 ((k : Nat) : Int))]) ⟨rfl, rfl, rfl, rfl, rfl, rfl, rfl, rfl, rfl, trivial⟩ ?_)
                      refine XX.next (V' := [(0, .slice y2.1 ((distinctF [] (fewF fs)).length) y2.2), (3, .bool true), (4, .slice y3.1 ((streams (distinctF [] (fewF fs))).length) y3.2), (5, .int .i64 ((i : Nat) : Int)), (6, .pointer (some ⟨gf, 0, none⟩)), (7, .bool (decide (s.id = f.id))), (8, .bool false), (9, .int .i64 ((n : Nat) : Int)), (10, .int .i64 ((k : Nat) : Int))]) ⟨rfl, rfl, rfl, rfl, rfl, rfl, rfl, rfl, rfl, trivial⟩ ?_
                      refine CX.region ?_
                      refine RX.cons rfl rfl (op_w (yw_move rfl rfl) rfl rfl ?_)
                      refine RX.cons rfl rfl (op_w (yw_add rfl rfl rfl (by omega) (by omega)) rfl rfl ?_)
                      refine RX.cons rfl rfl (op_w (yw_assign rfl rfl) rfl rfl ?_)
                      refine RX.nil (XX.againP ([.blk gg (.cells (Fct.cells (findF (distinctF [] (fewF fs)) s)) 33 (0, 0)), .blk gs (.cells (Strm.cells s) 30 (0, 0))]) (k + 1, decide (s.id = f.id), false, n) (by dsimp only; omega) ⟨by dsimp only; omega, any_or hs hb1 d47 (hers_eq (by omega)), any_or hs hb2 d80 (overs_no (by omega) d82), count_no hs (loops_rec c97) hnn⟩ ⟨rfl, rfl, rfl, rfl, rfl, rfl, rfl, rfl, rfl, trivial⟩ ((perm_pick 2 rfl).trans (List.Perm.cons _ ((perm_pick 2 rfl).trans (List.Perm.cons _ ((perm_pick 2 rfl).trans (List.Perm.cons _ ((perm_pick 2 rfl).trans (List.Perm.cons _ (List.Perm.refl _))))))))))
                  · refine RX.skip rfl rfl rfl rfl rfl rfl rfl ?_
                    refine RX.skip rfl rfl rfl rfl rfl rfl rfl ?_
                    refine RX.skip rfl rfl rfl rfl rfl rfl rfl ?_
                    refine RX.skip rfl rfl rfl rfl rfl rfl rfl ?_
                    refine RX.skip rfl rfl rfl rfl rfl rfl rfl ?_
                    refine RX.cons rfl rfl (op_w (yw_pickF rfl rfl rfl) rfl rfl ?_)
                    refine RX.nil (XX.next (V' := [(0, .slice y2.1 ((distinctF [] (fewF fs)).length) y2.2), (3, .bool true), (4, .slice y3.1 ((streams (distinctF [] (fewF fs))).length) y3.2), (5, .int .i64 ((i : Nat) : Int)), (6, .pointer (some ⟨gf, 0, none⟩)), (7, .bool (decide (s.id = f.id))), (8, .bool false), (9, .int .i64 ((n : Nat) : Int)), (10, .int .i64 ((k : Nat) : Int)), (97, .bool false)]) ⟨rfl, rfl, rfl, rfl, rfl, rfl, rfl, rfl, rfl, rfl, trivial⟩ ?_)
                    refine CX.condF rfl ?_
                    refine CX.skip (XX.inBlock (V' := [(0, .slice y2.1 ((distinctF [] (fewF fs)).length) y2.2), (3, .bool true), (4, .slice y3.1 ((streams (distinctF [] (fewF fs))).length) y3.2), (5, .int .i64 ((i : Nat) : Int)), (6, .pointer (some ⟨gf, 0, none⟩)), (7, .bool (decide (s.id = f.id))), (8, .bool false), (9, .int .i64 ((n : Nat) : Int)), (10, .int .i64 ((k : Nat) : Int))]) ⟨rfl, rfl, rfl, rfl, rfl, rfl, rfl, rfl, rfl, trivial⟩ ?_)
                    refine XX.next (V' := [(0, .slice y2.1 ((distinctF [] (fewF fs)).length) y2.2), (3, .bool true), (4, .slice y3.1 ((streams (distinctF [] (fewF fs))).length) y3.2), (5, .int .i64 ((i : Nat) : Int)), (6, .pointer (some ⟨gf, 0, none⟩)), (7, .bool (decide (s.id = f.id))), (8, .bool false), (9, .int .i64 ((n : Nat) : Int)), (10, .int .i64 ((k : Nat) : Int))]) ⟨rfl, rfl, rfl, rfl, rfl, rfl, rfl, rfl, rfl, trivial⟩ ?_
                    refine CX.region ?_
                    refine RX.cons rfl rfl (op_w (yw_move rfl rfl) rfl rfl ?_)
                    refine RX.cons rfl rfl (op_w (yw_add rfl rfl rfl (by omega) (by omega)) rfl rfl ?_)
                    refine RX.cons rfl rfl (op_w (yw_assign rfl rfl) rfl rfl ?_)
                    refine RX.nil (XX.againP ([.blk gg (.cells (Fct.cells (findF (distinctF [] (fewF fs)) s)) 33 (0, 0)), .blk gs (.cells (Strm.cells s) 30 (0, 0))]) (k + 1, decide (s.id = f.id), false, n) (by dsimp only; omega) ⟨by dsimp only; omega, any_or hs hb1 d47 (hers_eq (by omega)), any_or hs hb2 d80 (overs_no (by omega) d82), count_no hs (loops_no (by omega) d91) hnn⟩ ⟨rfl, rfl, rfl, rfl, rfl, rfl, rfl, rfl, rfl, trivial⟩ ((perm_pick 2 rfl).trans (List.Perm.cons _ ((perm_pick 2 rfl).trans (List.Perm.cons _ ((perm_pick 2 rfl).trans (List.Perm.cons _ ((perm_pick 2 rfl).trans (List.Perm.cons _ (List.Perm.refl _))))))))))
    · rw [List.take_of_length_le (by omega)] at hb1 hb2 hnn
      have hl1 : f.counts = true → b1 = true ∨ b2 = true ∨ 5 ≤ n := by rw [hb1, hb2, hnn]; exact reasons_why hD (List.mem_of_getElem? hf)
      have hl2 : b1 = true → b2 = false ∧ f.counts = true := by rw [hb1, hb2]; exact reasons_not hD (List.mem_of_getElem? hf)
      refine CX.exit ?_
      refine XX.then_exit ?_
      refine XX.then_exit ?_
      refine XX.block_exit ?_
      refine XX.next (V' := [(0, .slice y2.1 ((distinctF [] (fewF fs)).length) y2.2), (3, .bool true), (4, .slice y3.1 ((streams (distinctF [] (fewF fs))).length) y3.2), (5, .int .i64 ((i : Nat) : Int)), (6, .pointer (some ⟨gf, 0, none⟩)), (7, .bool b1), (8, .bool b2), (9, .int .i64 ((n : Nat) : Int))]) ⟨rfl, rfl, rfl, rfl, rfl, rfl, rfl, rfl, trivial⟩ ?_
      refine CX.seq ?_
      refine CX.region ?_
      refine RX.cons rfl rfl (op_yld (y_loadA (i := 0) rfl rfl agg_33 rfl rfl) rfl rfl ?_)
      refine RX.cons rfl rfl (op_callV (v := .bool (Fct.counts f)) rfl rfl rfl rfl rfl ent_18 (fun w _ => w_counts f) ?_)
      refine RX.cons rfl rfl (op_w (yw_move rfl rfl) rfl rfl ?_)
      refine RX.split (t := 102) (b := Fct.counts f) rfl (fun d102 => ?_) (fun d102 => ?_)
      · refine RX.consG rfl rfl rfl rfl rfl (op_w (yw_move rfl rfl) rfl rfl ?_)
        refine RX.consG rfl rfl rfl rfl rfl (op_w (yw_not rfl rfl) rfl rfl ?_)
        refine RX.cons rfl rfl (op_w (yw_pickT rfl rfl rfl) rfl rfl ?_)
        refine RX.cons rfl rfl (op_w (yw_move rfl rfl) rfl rfl ?_)
        refine RX.split (t := 106) (b := !b1) rfl (fun d106 => ?_) (fun d106 => ?_)
        · refine RX.consG rfl rfl rfl rfl rfl (op_w (yw_move rfl rfl) rfl rfl ?_)
          refine RX.consG rfl rfl rfl rfl rfl (op_w (yw_not rfl rfl) rfl rfl ?_)
          refine RX.cons rfl rfl (op_w (yw_pickT rfl rfl rfl) rfl rfl ?_)
          refine RX.cons rfl rfl (op_w (yw_move rfl rfl) rfl rfl ?_)
          refine RX.split (t := 110) (b := !b2) rfl (fun d110 => ?_) (fun d110 => ?_)
          · refine RX.consG rfl rfl rfl rfl rfl (op_w (yw_move rfl rfl) rfl rfl ?_)
            refine RX.consG rfl rfl rfl rfl rfl (op_w (yw_lss rfl rfl rfl) rfl rfl ?_)
            refine RX.cons rfl rfl (op_w (yw_pickT rfl rfl rfl) rfl rfl ?_)
            refine RX.cons rfl rfl (op_w (yw_move rfl rfl) rfl rfl ?_)
            refine RX.splitD (t := 114) (p := ((n : Nat) : Int) < 5) rfl (fun d114 => ?_) (fun d114 => ?_)
            · exact reasons_no1 hl1 d102 d106 d110 d114
            · refine RX.consG rfl rfl rfl rfl rfl (op_w (yw_move rfl rfl) rfl rfl ?_)
              refine RX.consG rfl rfl rfl rfl rfl (op_w (yw_move rfl rfl) rfl rfl ?_)
              refine RX.split (t := 116) (b := b1) rfl (fun d116 => ?_) (fun d116 => ?_)
              · refine RX.consG rfl rfl rfl rfl rfl (op_w (yw_move rfl rfl) rfl rfl ?_)
                refine RX.consG rfl rfl rfl rfl rfl (op_w (yw_move rfl rfl) rfl rfl ?_)
                refine RX.split (t := 118) (b := b2) rfl (fun d118 => ?_) (fun d118 => ?_)
                · exact reasons_no2 hl2 d116 d118
                · refine RX.consG rfl rfl rfl rfl rfl (op_yld (y_loadA (i := 0) rfl rfl agg_33 rfl rfl) rfl rfl ?_)
                  refine RX.consG rfl rfl rfl rfl rfl (op_callV (v := .bool (Fct.counts f)) rfl rfl rfl rfl rfl ent_18 (fun w _ => w_counts f) ?_)
                  refine RX.consG rfl rfl rfl rfl rfl (op_w (yw_not rfl rfl) rfl rfl ?_)
                  refine RX.consG rfl rfl rfl rfl rfl (op_w (yw_pickF rfl rfl rfl) rfl rfl ?_)
                  refine RX.consG rfl rfl rfl rfl rfl (op_w (yw_pickT rfl rfl rfl) rfl rfl ?_)
                  refine RX.cons rfl rfl (op_w (yw_pickF rfl rfl rfl) rfl rfl ?_)
                  refine RX.nil (XX.next (V' := [(0, .slice y2.1 ((distinctF [] (fewF fs)).length) y2.2), (3, .bool true), (4, .slice y3.1 ((streams (distinctF [] (fewF fs))).length) y3.2), (5, .int .i64 ((i : Nat) : Int)), (124, .bool (!(Fct.counts f)))]) ⟨rfl, rfl, rfl, rfl, rfl, trivial⟩ ?_)
                  refine CX.cond (b := !(Fct.counts f)) rfl (fun c124 => ?_) (fun c124 => ?_)
                  · exact reasons_no3 hl2 d116 c124
                  · refine CX.skip (XX.inBlock (V' := [(0, .slice y2.1 ((distinctF [] (fewF fs)).length) y2.2), (3, .bool true), (4, .slice y3.1 ((streams (distinctF [] (fewF fs))).length) y3.2), (5, .int .i64 ((i : Nat) : Int))]) ⟨rfl, rfl, rfl, rfl, trivial⟩ ?_)
                    refine XX.next (V' := [(0, .slice y2.1 ((distinctF [] (fewF fs)).length) y2.2), (3, .bool true), (4, .slice y3.1 ((streams (distinctF [] (fewF fs))).length) y3.2), (5, .int .i64 ((i : Nat) : Int))]) ⟨rfl, rfl, rfl, rfl, trivial⟩ ?_
                    refine CX.region ?_
                    refine RX.cons rfl rfl (op_w (yw_move rfl rfl) rfl rfl ?_)
                    refine RX.cons rfl rfl (op_w (yw_add rfl rfl rfl (by omega) (by omega)) rfl rfl ?_)
                    refine RX.cons rfl rfl (op_w (yw_assign rfl rfl) rfl rfl ?_)
                    refine RX.nil (XX.againP ([.blk gf (.cells (Fct.cells f) 33 (0, 0))]) (i + 1) (by omega) (by omega) ⟨rfl, rfl, rfl, rfl, trivial⟩ ((perm_pick 1 rfl).trans (List.Perm.cons _ ((perm_pick 1 rfl).trans (List.Perm.cons _ ((perm_pick 1 rfl).trans (List.Perm.cons _ (List.Perm.refl _))))))))
              · refine RX.skip rfl rfl rfl rfl rfl rfl rfl ?_
                refine RX.skip rfl rfl rfl rfl rfl rfl rfl ?_
                refine RX.skip rfl rfl rfl rfl rfl rfl rfl ?_
                refine RX.skip rfl rfl rfl rfl rfl rfl rfl ?_
                refine RX.skip rfl rfl rfl rfl rfl rfl rfl ?_
                refine RX.skip rfl rfl rfl rfl rfl rfl rfl ?_
                refine RX.consG rfl rfl rfl rfl rfl (op_w (yw_pickF rfl rfl rfl) rfl rfl ?_)
                refine RX.cons rfl rfl (op_w (yw_pickF rfl rfl rfl) rfl rfl ?_)
                refine RX.nil (XX.next (V' := [(0, .slice y2.1 ((distinctF [] (fewF fs)).length) y2.2), (3, .bool true), (4, .slice y3.1 ((streams (distinctF [] (fewF fs))).length) y3.2), (5, .int .i64 ((i : Nat) : Int)), (124, .bool false)]) ⟨rfl, rfl, rfl, rfl, rfl, trivial⟩ ?_)
                refine CX.condF rfl ?_
                refine CX.skip (XX.inBlock (V' := [(0, .slice y2.1 ((distinctF [] (fewF fs)).length) y2.2), (3, .bool true), (4, .slice y3.1 ((streams (distinctF [] (fewF fs))).length) y3.2), (5, .int .i64 ((i : Nat) : Int))]) ⟨rfl, rfl, rfl, rfl, trivial⟩ ?_)
                refine XX.next (V' := [(0, .slice y2.1 ((distinctF [] (fewF fs)).length) y2.2), (3, .bool true), (4, .slice y3.1 ((streams (distinctF [] (fewF fs))).length) y3.2), (5, .int .i64 ((i : Nat) : Int))]) ⟨rfl, rfl, rfl, rfl, trivial⟩ ?_
                refine CX.region ?_
                refine RX.cons rfl rfl (op_w (yw_move rfl rfl) rfl rfl ?_)
                refine RX.cons rfl rfl (op_w (yw_add rfl rfl rfl (by omega) (by omega)) rfl rfl ?_)
                refine RX.cons rfl rfl (op_w (yw_assign rfl rfl) rfl rfl ?_)
                refine RX.nil (XX.againP ([.blk gf (.cells (Fct.cells f) 33 (0, 0))]) (i + 1) (by omega) (by omega) ⟨rfl, rfl, rfl, rfl, trivial⟩ ((perm_pick 1 rfl).trans (List.Perm.cons _ ((perm_pick 1 rfl).trans (List.Perm.cons _ ((perm_pick 1 rfl).trans (List.Perm.cons _ (List.Perm.refl _))))))))
          · refine RX.skip rfl rfl rfl rfl rfl rfl rfl ?_
            refine RX.skip rfl rfl rfl rfl rfl rfl rfl ?_
            refine RX.cons rfl rfl (op_w (yw_pickF rfl rfl rfl) rfl rfl ?_)
            refine RX.cons rfl rfl (op_w (yw_move rfl rfl) rfl rfl ?_)
            refine RX.consG rfl rfl rfl rfl rfl (op_w (yw_move rfl rfl) rfl rfl ?_)
            refine RX.consG rfl rfl rfl rfl rfl (op_w (yw_move rfl rfl) rfl rfl ?_)
            refine RX.split (t := 116) (b := b1) rfl (fun d116 => ?_) (fun d116 => ?_)
            · refine RX.consG rfl rfl rfl rfl rfl (op_w (yw_move rfl rfl) rfl rfl ?_)
              refine RX.consG rfl rfl rfl rfl rfl (op_w (yw_move rfl rfl) rfl rfl ?_)
              refine RX.split (t := 118) (b := b2) rfl (fun d118 => ?_) (fun d118 => ?_)
              · exact reasons_no2 hl2 d116 d118
              · refine RX.consG rfl rfl rfl rfl rfl (op_yld (y_loadA (i := 0) rfl rfl agg_33 rfl rfl) rfl rfl ?_)
                refine RX.consG rfl rfl rfl rfl rfl (op_callV (v := .bool (Fct.counts f)) rfl rfl rfl rfl rfl ent_18 (fun w _ => w_counts f) ?_)
                refine RX.consG rfl rfl rfl rfl rfl (op_w (yw_not rfl rfl) rfl rfl ?_)
                refine RX.consG rfl rfl rfl rfl rfl (op_w (yw_pickF rfl rfl rfl) rfl rfl ?_)
                refine RX.consG rfl rfl rfl rfl rfl (op_w (yw_pickT rfl rfl rfl) rfl rfl ?_)
                refine RX.cons rfl rfl (op_w (yw_pickF rfl rfl rfl) rfl rfl ?_)
                refine RX.nil (XX.next (V' := [(0, .slice y2.1 ((distinctF [] (fewF fs)).length) y2.2), (3, .bool true), (4, .slice y3.1 ((streams (distinctF [] (fewF fs))).length) y3.2), (5, .int .i64 ((i : Nat) : Int)), (124, .bool (!(Fct.counts f)))]) ⟨rfl, rfl, rfl, rfl, rfl, trivial⟩ ?_)
                refine CX.cond (b := !(Fct.counts f)) rfl (fun c124 => ?_) (fun c124 => ?_)
                · exact reasons_no3 hl2 d116 c124
                · refine CX.skip (XX.inBlock (V' := [(0, .slice y2.1 ((distinctF [] (fewF fs)).length) y2.2), (3, .bool true), (4, .slice y3.1 ((streams (distinctF [] (fewF fs))).length) y3.2), (5, .int .i64 ((i : Nat) : Int))]) ⟨rfl, rfl, rfl, rfl, trivial⟩ ?_)
                  refine XX.next (V' := [(0, .slice y2.1 ((distinctF [] (fewF fs)).length) y2.2), (3, .bool true), (4, .slice y3.1 ((streams (distinctF [] (fewF fs))).length) y3.2), (5, .int .i64 ((i : Nat) : Int))]) ⟨rfl, rfl, rfl, rfl, trivial⟩ ?_
                  refine CX.region ?_
                  refine RX.cons rfl rfl (op_w (yw_move rfl rfl) rfl rfl ?_)
                  refine RX.cons rfl rfl (op_w (yw_add rfl rfl rfl (by omega) (by omega)) rfl rfl ?_)
                  refine RX.cons rfl rfl (op_w (yw_assign rfl rfl) rfl rfl ?_)
                  refine RX.nil (XX.againP ([.blk gf (.cells (Fct.cells f) 33 (0, 0))]) (i + 1) (by omega) (by omega) ⟨rfl, rfl, rfl, rfl, trivial⟩ ((perm_pick 1 rfl).trans (List.Perm.cons _ ((perm_pick 1 rfl).trans (List.Perm.cons _ ((perm_pick 1 rfl).trans (List.Perm.cons _ (List.Perm.refl _))))))))
            · refine RX.skip rfl rfl rfl rfl rfl rfl rfl ?_
              refine RX.skip rfl rfl rfl rfl rfl rfl rfl ?_
              refine RX.skip rfl rfl rfl rfl rfl rfl rfl ?_
              refine RX.skip rfl rfl rfl rfl rfl rfl rfl ?_
              refine RX.skip rfl rfl rfl rfl rfl rfl rfl ?_
              refine RX.skip rfl rfl rfl rfl rfl rfl rfl ?_
              refine RX.consG rfl rfl rfl rfl rfl (op_w (yw_pickF rfl rfl rfl) rfl rfl ?_)
              refine RX.cons rfl rfl (op_w (yw_pickF rfl rfl rfl) rfl rfl ?_)
              refine RX.nil (XX.next (V' := [(0, .slice y2.1 ((distinctF [] (fewF fs)).length) y2.2), (3, .bool true), (4, .slice y3.1 ((streams (distinctF [] (fewF fs))).length) y3.2), (5, .int .i64 ((i : Nat) : Int)), (124, .bool false)]) ⟨rfl, rfl, rfl, rfl, rfl, trivial⟩ ?_)
              refine CX.condF rfl ?_
              refine CX.skip (XX.inBlock (V' := [(0, .slice y2.1 ((distinctF [] (fewF fs)).length) y2.2), (3, .bool true), (4, .slice y3.1 ((streams (distinctF [] (fewF fs))).length) y3.2), (5, .int .i64 ((i : Nat) : Int))]) ⟨rfl, rfl, rfl, rfl, trivial⟩ ?_)
              refine XX.next (V' := [(0, .slice y2.1 ((distinctF [] (fewF fs)).length) y2.2), (3, .bool true), (4, .slice y3.1 ((streams (distinctF [] (fewF fs))).length) y3.2), (5, .int .i64 ((i : Nat) : Int))]) ⟨rfl, rfl, rfl, rfl, trivial⟩ ?_
              refine CX.region ?_
              refine RX.cons rfl rfl (op_w (yw_move rfl rfl) rfl rfl ?_)
              refine RX.cons rfl rfl (op_w (yw_add rfl rfl rfl (by omega) (by omega)) rfl rfl ?_)
              refine RX.cons rfl rfl (op_w (yw_assign rfl rfl) rfl rfl ?_)
              refine RX.nil (XX.againP ([.blk gf (.cells (Fct.cells f) 33 (0, 0))]) (i + 1) (by omega) (by omega) ⟨rfl, rfl, rfl, rfl, trivial⟩ ((perm_pick 1 rfl).trans (List.Perm.cons _ ((perm_pick 1 rfl).trans (List.Perm.cons _ ((perm_pick 1 rfl).trans (List.Perm.cons _ (List.Perm.refl _))))))))
        · refine RX.skip rfl rfl rfl rfl rfl rfl rfl ?_
          refine RX.skip rfl rfl rfl rfl rfl rfl rfl ?_
          refine RX.cons rfl rfl (op_w (yw_pickF rfl rfl rfl) rfl rfl ?_)
          refine RX.cons rfl rfl (op_w (yw_move rfl rfl) rfl rfl ?_)
          refine RX.skip rfl rfl rfl rfl rfl rfl rfl ?_
          refine RX.skip rfl rfl rfl rfl rfl rfl rfl ?_
          refine RX.cons rfl rfl (op_w (yw_pickF rfl rfl rfl) rfl rfl ?_)
          refine RX.cons rfl rfl (op_w (yw_move rfl rfl) rfl rfl ?_)
          refine RX.consG rfl rfl rfl rfl rfl (op_w (yw_move rfl rfl) rfl rfl ?_)
          refine RX.consG rfl rfl rfl rfl rfl (op_w (yw_move rfl rfl) rfl rfl ?_)
          refine RX.split (t := 116) (b := b1) rfl (fun d116 => ?_) (fun d116 => ?_)
          · refine RX.consG rfl rfl rfl rfl rfl (op_w (yw_move rfl rfl) rfl rfl ?_)
            refine RX.consG rfl rfl rfl rfl rfl (op_w (yw_move rfl rfl) rfl rfl ?_)
            refine RX.split (t := 118) (b := b2) rfl (fun d118 => ?_) (fun d118 => ?_)
            · exact reasons_no2 hl2 d116 d118
            · refine RX.consG rfl rfl rfl rfl rfl (op_yld (y_loadA (i := 0) rfl rfl agg_33 rfl rfl) rfl rfl ?_)
              refine RX.consG rfl rfl rfl rfl rfl (op_callV (v := .bool (Fct.counts f)) rfl rfl rfl rfl rfl ent_18 (fun w _ => w_counts f) ?_)
              refine RX.consG rfl rfl rfl rfl rfl (op_w (yw_not rfl rfl) rfl rfl ?_)
              refine RX.consG rfl rfl rfl rfl rfl (op_w (yw_pickF rfl rfl rfl) rfl rfl ?_)
              refine RX.consG rfl rfl rfl rfl rfl (op_w (yw_pickT rfl rfl rfl) rfl rfl ?_)
              refine RX.cons rfl rfl (op_w (yw_pickF rfl rfl rfl) rfl rfl ?_)
              refine RX.nil (XX.next (V' := [(0, .slice y2.1 ((distinctF [] (fewF fs)).length) y2.2), (3, .bool true), (4, .slice y3.1 ((streams (distinctF [] (fewF fs))).length) y3.2), (5, .int .i64 ((i : Nat) : Int)), (124, .bool (!(Fct.counts f)))]) ⟨rfl, rfl, rfl, rfl, rfl, trivial⟩ ?_)
              refine CX.cond (b := !(Fct.counts f)) rfl (fun c124 => ?_) (fun c124 => ?_)
              · exact reasons_no3 hl2 d116 c124
              · refine CX.skip (XX.inBlock (V' := [(0, .slice y2.1 ((distinctF [] (fewF fs)).length) y2.2), (3, .bool true), (4, .slice y3.1 ((streams (distinctF [] (fewF fs))).length) y3.2), (5, .int .i64 ((i : Nat) : Int))]) ⟨rfl, rfl, rfl, rfl, trivial⟩ ?_)
                refine XX.next (V' := [(0, .slice y2.1 ((distinctF [] (fewF fs)).length) y2.2), (3, .bool true), (4, .slice y3.1 ((streams (distinctF [] (fewF fs))).length) y3.2), (5, .int .i64 ((i : Nat) : Int))]) ⟨rfl, rfl, rfl, rfl, trivial⟩ ?_
                refine CX.region ?_
                refine RX.cons rfl rfl (op_w (yw_move rfl rfl) rfl rfl ?_)
                refine RX.cons rfl rfl (op_w (yw_add rfl rfl rfl (by omega) (by omega)) rfl rfl ?_)
                refine RX.cons rfl rfl (op_w (yw_assign rfl rfl) rfl rfl ?_)
                refine RX.nil (XX.againP ([.blk gf (.cells (Fct.cells f) 33 (0, 0))]) (i + 1) (by omega) (by omega) ⟨rfl, rfl, rfl, rfl, trivial⟩ ((perm_pick 1 rfl).trans (List.Perm.cons _ ((perm_pick 1 rfl).trans (List.Perm.cons _ ((perm_pick 1 rfl).trans (List.Perm.cons _ (List.Perm.refl _))))))))
          · refine RX.skip rfl rfl rfl rfl rfl rfl rfl ?_
            refine RX.skip rfl rfl rfl rfl rfl rfl rfl ?_
            refine RX.skip rfl rfl rfl rfl rfl rfl rfl ?_
            refine RX.skip rfl rfl rfl rfl rfl rfl rfl ?_
            refine RX.skip rfl rfl rfl rfl rfl rfl rfl ?_
            refine RX.skip rfl rfl rfl rfl rfl rfl rfl ?_
            refine RX.consG rfl rfl rfl rfl rfl (op_w (yw_pickF rfl rfl rfl) rfl rfl ?_)
            refine RX.cons rfl rfl (op_w (yw_pickF rfl rfl rfl) rfl rfl ?_)
            refine RX.nil (XX.next (V' := [(0, .slice y2.1 ((distinctF [] (fewF fs)).length) y2.2), (3, .bool true), (4, .slice y3.1 ((streams (distinctF [] (fewF fs))).length) y3.2), (5, .int .i64 ((i : Nat) : Int)), (124, .bool false)]) ⟨rfl, rfl, rfl, rfl, rfl, trivial⟩ ?_)
            refine CX.condF rfl ?_
            refine CX.skip (XX.inBlock (V' := [(0, .slice y2.1 ((distinctF [] (fewF fs)).length) y2.2), (3, .bool true), (4, .slice y3.1 ((streams (distinctF [] (fewF fs))).length) y3.2), (5, .int .i64 ((i : Nat) : Int))]) ⟨rfl, rfl, rfl, rfl, trivial⟩ ?_)
            refine XX.next (V' := [(0, .slice y2.1 ((distinctF [] (fewF fs)).length) y2.2), (3, .bool true), (4, .slice y3.1 ((streams (distinctF [] (fewF fs))).length) y3.2), (5, .int .i64 ((i : Nat) : Int))]) ⟨rfl, rfl, rfl, rfl, trivial⟩ ?_
            refine CX.region ?_
            refine RX.cons rfl rfl (op_w (yw_move rfl rfl) rfl rfl ?_)
            refine RX.cons rfl rfl (op_w (yw_add rfl rfl rfl (by omega) (by omega)) rfl rfl ?_)
            refine RX.cons rfl rfl (op_w (yw_assign rfl rfl) rfl rfl ?_)
            refine RX.nil (XX.againP ([.blk gf (.cells (Fct.cells f) 33 (0, 0))]) (i + 1) (by omega) (by omega) ⟨rfl, rfl, rfl, rfl, trivial⟩ ((perm_pick 1 rfl).trans (List.Perm.cons _ ((perm_pick 1 rfl).trans (List.Perm.cons _ ((perm_pick 1 rfl).trans (List.Perm.cons _ (List.Perm.refl _))))))))
      · refine RX.skip rfl rfl rfl rfl rfl rfl rfl ?_
        refine RX.skip rfl rfl rfl rfl rfl rfl rfl ?_
        refine RX.cons rfl rfl (op_w (yw_pickF rfl rfl rfl) rfl rfl ?_)
        refine RX.cons rfl rfl (op_w (yw_move rfl rfl) rfl rfl ?_)
        refine RX.skip rfl rfl rfl rfl rfl rfl rfl ?_
        refine RX.skip rfl rfl rfl rfl rfl rfl rfl ?_
        refine RX.cons rfl rfl (op_w (yw_pickF rfl rfl rfl) rfl rfl ?_)
        refine RX.cons rfl rfl (op_w (yw_move rfl rfl) rfl rfl ?_)
        refine RX.skip rfl rfl rfl rfl rfl rfl rfl ?_
        refine RX.skip rfl rfl rfl rfl rfl rfl rfl ?_
        refine RX.cons rfl rfl (op_w (yw_pickF rfl rfl rfl) rfl rfl ?_)
        refine RX.cons rfl rfl (op_w (yw_move rfl rfl) rfl rfl ?_)
        refine RX.consG rfl rfl rfl rfl rfl (op_w (yw_move rfl rfl) rfl rfl ?_)
        refine RX.consG rfl rfl rfl rfl rfl (op_w (yw_move rfl rfl) rfl rfl ?_)
        refine RX.split (t := 116) (b := b1) rfl (fun d116 => ?_) (fun d116 => ?_)
        · refine RX.consG rfl rfl rfl rfl rfl (op_w (yw_move rfl rfl) rfl rfl ?_)
          refine RX.consG rfl rfl rfl rfl rfl (op_w (yw_move rfl rfl) rfl rfl ?_)
          refine RX.split (t := 118) (b := b2) rfl (fun d118 => ?_) (fun d118 => ?_)
          · exact reasons_no2 hl2 d116 d118
          · refine RX.consG rfl rfl rfl rfl rfl (op_yld (y_loadA (i := 0) rfl rfl agg_33 rfl rfl) rfl rfl ?_)
            refine RX.consG rfl rfl rfl rfl rfl (op_callV (v := .bool (Fct.counts f)) rfl rfl rfl rfl rfl ent_18 (fun w _ => w_counts f) ?_)
            refine RX.consG rfl rfl rfl rfl rfl (op_w (yw_not rfl rfl) rfl rfl ?_)
            refine RX.consG rfl rfl rfl rfl rfl (op_w (yw_pickF rfl rfl rfl) rfl rfl ?_)
            refine RX.consG rfl rfl rfl rfl rfl (op_w (yw_pickT rfl rfl rfl) rfl rfl ?_)
            refine RX.cons rfl rfl (op_w (yw_pickF rfl rfl rfl) rfl rfl ?_)
            refine RX.nil (XX.next (V' := [(0, .slice y2.1 ((distinctF [] (fewF fs)).length) y2.2), (3, .bool true), (4, .slice y3.1 ((streams (distinctF [] (fewF fs))).length) y3.2), (5, .int .i64 ((i : Nat) : Int)), (124, .bool (!(Fct.counts f)))]) ⟨rfl, rfl, rfl, rfl, rfl, trivial⟩ ?_)
            refine CX.cond (b := !(Fct.counts f)) rfl (fun c124 => ?_) (fun c124 => ?_)
            · exact reasons_no3 hl2 d116 c124
            · refine CX.skip (XX.inBlock (V' := [(0, .slice y2.1 ((distinctF [] (fewF fs)).length) y2.2), (3, .bool true), (4, .slice y3.1 ((streams (distinctF [] (fewF fs))).length) y3.2), (5, .int .i64 ((i : Nat) : Int))]) ⟨rfl, rfl, rfl, rfl, trivial⟩ ?_)
              refine XX.next (V' := [(0, .slice y2.1 ((distinctF [] (fewF fs)).length) y2.2), (3, .bool true), (4, .slice y3.1 ((streams (distinctF [] (fewF fs))).length) y3.2), (5, .int .i64 ((i : Nat) : Int))]) ⟨rfl, rfl, rfl, rfl, trivial⟩ ?_
              refine CX.region ?_
              refine RX.cons rfl rfl (op_w (yw_move rfl rfl) rfl rfl ?_)
              refine RX.cons rfl rfl (op_w (yw_add rfl rfl rfl (by omega) (by omega)) rfl rfl ?_)
              refine RX.cons rfl rfl (op_w (yw_assign rfl rfl) rfl rfl ?_)
              refine RX.nil (XX.againP ([.blk gf (.cells (Fct.cells f) 33 (0, 0))]) (i + 1) (by omega) (by omega) ⟨rfl, rfl, rfl, rfl, trivial⟩ ((perm_pick 1 rfl).trans (List.Perm.cons _ ((perm_pick 1 rfl).trans (List.Perm.cons _ ((perm_pick 1 rfl).trans (List.Perm.cons _ (List.Perm.refl _))))))))
        · refine RX.skip rfl rfl rfl rfl rfl rfl rfl ?_
          refine RX.skip rfl rfl rfl rfl rfl rfl rfl ?_
          refine RX.skip rfl rfl rfl rfl rfl rfl rfl ?_
          refine RX.skip rfl rfl rfl rfl rfl rfl rfl ?_
          refine RX.skip rfl rfl rfl rfl rfl rfl rfl ?_
          refine RX.skip rfl rfl rfl rfl rfl rfl rfl ?_
          refine RX.consG rfl rfl rfl rfl rfl (op_w (yw_pickF rfl rfl rfl) rfl rfl ?_)
          refine RX.cons rfl rfl (op_w (yw_pickF rfl rfl rfl) rfl rfl ?_)
          refine RX.nil (XX.next (V' := [(0, .slice y2.1 ((distinctF [] (fewF fs)).length) y2.2), (3, .bool true), (4, .slice y3.1 ((streams (distinctF [] (fewF fs))).length) y3.2), (5, .int .i64 ((i : Nat) : Int)), (124, .bool false)]) ⟨rfl, rfl, rfl, rfl, rfl, trivial⟩ ?_)
          refine CX.condF rfl ?_
          refine CX.skip (XX.inBlock (V' := [(0, .slice y2.1 ((distinctF [] (fewF fs)).length) y2.2), (3, .bool true), (4, .slice y3.1 ((streams (distinctF [] (fewF fs))).length) y3.2), (5, .int .i64 ((i : Nat) : Int))]) ⟨rfl, rfl, rfl, rfl, trivial⟩ ?_)
          refine XX.next (V' := [(0, .slice y2.1 ((distinctF [] (fewF fs)).length) y2.2), (3, .bool true), (4, .slice y3.1 ((streams (distinctF [] (fewF fs))).length) y3.2), (5, .int .i64 ((i : Nat) : Int))]) ⟨rfl, rfl, rfl, rfl, trivial⟩ ?_
          refine CX.region ?_
          refine RX.cons rfl rfl (op_w (yw_move rfl rfl) rfl rfl ?_)
          refine RX.cons rfl rfl (op_w (yw_add rfl rfl rfl (by omega) (by omega)) rfl rfl ?_)
          refine RX.cons rfl rfl (op_w (yw_assign rfl rfl) rfl rfl ?_)
          refine RX.nil (XX.againP ([.blk gf (.cells (Fct.cells f) 33 (0, 0))]) (i + 1) (by omega) (by omega) ⟨rfl, rfl, rfl, rfl, trivial⟩ ((perm_pick 1 rfl).trans (List.Perm.cons _ ((perm_pick 1 rfl).trans (List.Perm.cons _ ((perm_pick 1 rfl).trans (List.Perm.cons _ (List.Perm.refl _))))))))
  · refine CX.exit ?_
    refine XX.then_exit ?_
    refine XX.then_exit ?_
    refine XX.block_exit ?_
    refine XX.next (V' := [(3, .bool true)]) ⟨rfl, trivial⟩ ?_
    refine CX.seq ?_
    refine CX.region ?_
    refine RX.cons rfl rfl (op_w (yw_move rfl rfl) rfl rfl ?_)
    refine RX.cons rfl rfl (op_w (yw_assign rfl rfl) rfl rfl ?_)
    refine RX.nil (XX.next (V' := [(2, .bool true)]) ⟨rfl, trivial⟩ ?_)
    refine CX.ret ?_
    exact ret_tmp rfl rfl fun w1 hw => ⟨rfl, hw.sub (List.nil_sublist _)⟩

end Go.Proofs.YtmndhiaaolfepaaDoor
