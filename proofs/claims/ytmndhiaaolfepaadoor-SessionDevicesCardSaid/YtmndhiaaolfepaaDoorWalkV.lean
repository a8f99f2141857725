/- Walks, printed by a program. -/
import Derived.Test.YtmndhiaaolfepaaDoorWalkU
namespace Go.Proofs.YtmndhiaaolfepaaDoor
set_option linter.all false
open Go Go.RowKit
set_option maxRecDepth 100000
theorem ent_17 : ∀ args w, (callFunc 17 args).run Tryd.prog w = .ok (.enter 17 args) w := enters_of Tryd.func17 (by kernel_rfl) rfl
set_option maxRecDepth 100000 in
theorem w_devices {w : World} {A : Option Addr} {cap : Nat} (fs : List Fct) (d : Int) (hG : Lens w) (hr : Rd w A 18 (fs.map Fct.cells)) (hn : fs.length ≤ 9223372036854775807) (hx : ∀ f ∈ fs, f.text.size ≤ 9223372036854775807) :
    Calls Tryd.prog 5 #[.slice A fs.length cap, .int .i64 d] w (fun e w' => e = .returned (.bool true) ∧ SL w [] w' []) := by
  have hgl := few_length fs
  have hsl := streams_length (fewF fs)
  refine calls_of_CX (O := []) (L := []) (args := [.slice A fs.length cap, .int .i64 d]) Tryd.func5 rfl (by simp [Tryd.ntmps5]) (SL.refl w) ?_
  refine CX.sub (V' := [(0, .slice A fs.length cap), (1, .int .i64 d)]) ⟨rfl, rfl, trivial⟩ ?_
  refine CX.seq ?_
  refine CX.region ?_
  refine RX.cons rfl rfl (op_w (yw_assign rfl rfl) rfl rfl ?_)
  refine RX.nil (XX.next (V' := [(0, .slice A fs.length cap), (1, .int .i64 d)]) ⟨rfl, rfl, trivial⟩ ?_)
  refine CX.seq ?_
  refine CX.region ?_
  refine RX.cons rfl rfl (op_callV (v := .bool true) rfl rfl rfl rfl rfl ent_8 (fun w hw => w_sane (hG.keep hw (by simp))) ?_)
  refine RX.cons rfl rfl (op_w (yw_assign rfl rfl) rfl rfl ?_)
  refine RX.nil (XX.next (V' := [(0, .slice A fs.length cap), (1, .int .i64 d), (5, .bool true)]) ⟨rfl, rfl, rfl, trivial⟩ ?_)
  refine CX.seq ?_
  refine CX.region ?_
  refine RX.cons rfl rfl (op_w (yw_move rfl rfl) rfl rfl ?_)
  refine RX.cons rfl rfl (op_callE rfl rfl rfl rfl rfl ent_13 (fun w hw => w_few fs (hw.rd hr (by simp)) hn hx) (fun y _ => ?_))
  refine RX.cons rfl rfl (op_w (yw_assign rfl rfl) rfl rfl ?_)
  refine RX.nil (XX.next (V' := [(0, .slice y.1 ((fewF fs).length) y.2), (1, .int .i64 d), (5, .bool true)]) ⟨rfl, rfl, rfl, trivial⟩ ?_)
  refine CX.seq ?_
  refine CX.region ?_
  refine RX.cons rfl rfl (op_w (yw_assign rfl rfl) rfl rfl ?_)
  refine RX.nil (XX.next (V' := [(0, .slice y.1 ((fewF fs).length) y.2), (1, .int .i64 d), (5, .bool true), (6, .slice none 0 0)]) ⟨rfl, rfl, rfl, rfl, trivial⟩ ?_)
  refine CX.seq ?_
  refine CX.region ?_
  refine RX.cons rfl rfl (op_w (yw_assign rfl rfl) rfl rfl ?_)
  refine RX.nil (XX.next (V' := [(0, .slice y.1 ((fewF fs).length) y.2), (1, .int .i64 d), (5, .bool true), (6, .slice none 0 0), (7, .slice none 0 0)]) ⟨rfl, rfl, rfl, rfl, rfl, trivial⟩ ?_)
  refine CX.seq ?_
  refine CX.seq ?_
  refine CX.region ?_
  refine RX.cons rfl rfl (op_w (yw_assign rfl rfl) rfl rfl ?_)
  refine RX.nil (XX.next (V' := [(0, .slice y.1 ((fewF fs).length) y.2), (1, .int .i64 d), (5, .bool true), (6, .slice none 0 0), (7, .slice none 0 0), (8, .int .i64 0)]) ⟨rfl, rfl, rfl, rfl, rfl, rfl, trivial⟩ ?_)
  refine CX.block ?_
  refine CX.rowNil 33 18 ?_
  refine CX.rowNil 33 18 ?_
  refine CX.loop (σ := Nat × (Option Addr × Nat × List Fct) × (Option Addr × Nat × List Fct)) (fun z => [(0, .slice y.1 ((fewF fs).length) y.2), (1, .int .i64 d), (5, .bool true), (6, .slice z.2.1.1 z.2.1.2.2.length z.2.1.2.1), (7, .slice z.2.2.1 z.2.2.2.2.length z.2.2.2.1), (8, .int .i64 ((z.1 : Nat) : Int))]) (fun z => [.row z.2.1.1 z.2.1.2.1 33 18 (List.map Fct.cells z.2.1.2.2), .row z.2.2.1 z.2.2.2.1 33 18 (List.map Fct.cells z.2.2.2.2), .row y.1 y.2 33 18 (List.map Fct.cells (fewF fs))]) (fun z => z.1 ≤ (fewF fs).length ∧ z.2.1.2.2 = (List.take z.1 (fewF fs)).filter (mineB d) ∧ z.2.2.2.2 = (List.take z.1 (fewF fs)).filter (othersB d)) (fun z => (fewF fs).length - z.1) (0, (none, 0, []), (none, 0, [])) ⟨Nat.zero_le _, by simp, by simp⟩ ⟨rfl, rfl, rfl, rfl, rfl, rfl, trivial⟩ rfl (fun z hI => ?_)
  obtain ⟨i, ⟨B, c, ys⟩, ⟨B', c', zs⟩⟩ := z
  dsimp only at hI ⊢
  obtain ⟨hi, hys, hzs⟩ := hI
  have hyl := filter_take_le hys
  have hzl := filter_take_le hzs
  refine CX.seq ?_
  refine CX.seq ?_
  refine CX.region ?_
  refine RX.cons rfl rfl (op_w (yw_move rfl rfl) rfl rfl ?_)
  refine RX.cons rfl rfl (op_w (yw_move rfl rfl) rfl rfl ?_)
  refine RX.cons rfl rfl (op_w (yw_lenS rfl Tryd.underlying22 rfl) rfl rfl ?_)
  refine RX.cons rfl rfl (op_w (yw_lss rfl rfl rfl) rfl rfl ?_)
  refine RX.nil (XX.next (V' := [(0, .slice y.1 ((fewF fs).length) y.2), (1, .int .i64 d), (5, .bool true), (6, .slice B ys.length c), (7, .slice B' zs.length c'), (8, .int .i64 ((i : Nat) : Int)), (19, .bool (decide (((i : Nat) : Int) < (((fewF fs).length : Nat) : Int))))]) ⟨rfl, rfl, rfl, rfl, rfl, rfl, rfl, trivial⟩ ?_)
  refine CX.condD (p := ((i : Nat) : Int) < (((fewF fs).length : Nat) : Int)) rfl (fun c19 => ?_) (fun c19 => ?_)
  · obtain ⟨f, hf⟩ := get_some (l := (fewF fs)) (k := i) (by omega)
    have hft := few_text f (List.mem_of_getElem? hf)
    refine CX.rowSome 2 rfl (by simp; omega) (fun hA => ?_)
    refine CX.skip (XX.next (V' := [(0, .slice y.1 ((fewF fs).length) y.2), (1, .int .i64 d), (5, .bool true), (6, .slice B ys.length c), (7, .slice B' zs.length c'), (8, .int .i64 ((i : Nat) : Int))]) ⟨rfl, rfl, rfl, rfl, rfl, rfl, trivial⟩ ?_)
    refine CX.seq ?_
    refine CX.block ?_
    refine CX.seq ?_
    refine CX.seq ?_
    refine CX.region ?_
    refine RX.cons rfl rfl (op_w (yw_move rfl rfl) rfl rfl ?_)
    refine RX.cons rfl rfl (op_w (yw_move rfl rfl) rfl rfl ?_)
    refine RX.cons rfl rfl (op_w (yw_index (k := i) rfl slt_22 rfl rfl (by omega) (by omega) hA) rfl rfl ?_)
    refine RX.cons rfl rfl (op_yld (y_rowElem (i := 2) rfl rfl agg_33 rfl (map_get hf)) rfl rfl ?_)
    refine RX.cons rfl rfl (op_callE rfl rfl rfl rfl rfl ent_17 (fun w _ => w_refValid f hft) (fun b17 h17 => ?_))
    refine RX.cons rfl rfl (op_w (yw_not rfl rfl) rfl rfl ?_)
    refine RX.cons rfl rfl (op_w (yw_move rfl rfl) rfl rfl ?_)
    refine RX.split (t := 28) (b := !b17) rfl (fun d28 => ?_) (fun d28 => ?_)
    · refine RX.skip rfl rfl rfl rfl rfl rfl rfl ?_
      refine RX.skip rfl rfl rfl rfl rfl rfl rfl ?_
      refine RX.skip rfl rfl rfl rfl rfl rfl rfl ?_
      refine RX.skip rfl rfl rfl rfl rfl rfl rfl ?_
      refine RX.skip rfl rfl rfl rfl rfl rfl rfl ?_
      refine RX.skip rfl rfl rfl rfl rfl rfl rfl ?_
      refine RX.cons rfl rfl (op_w (yw_pickT rfl rfl rfl) rfl rfl ?_)
      refine RX.nil (XX.next (V' := [(0, .slice y.1 ((fewF fs).length) y.2), (1, .int .i64 d), (5, .bool true), (6, .slice B ys.length c), (7, .slice B' zs.length c'), (8, .int .i64 ((i : Nat) : Int)), (35, .bool true)]) ⟨rfl, rfl, rfl, rfl, rfl, rfl, rfl, trivial⟩ ?_)
      refine CX.condT rfl ?_
      refine CX.exit ?_
      refine XX.then_exit ?_
      refine XX.block_exit ?_
      refine XX.next (V' := [(0, .slice y.1 ((fewF fs).length) y.2), (1, .int .i64 d), (5, .bool true), (6, .slice B ys.length c), (7, .slice B' zs.length c'), (8, .int .i64 ((i : Nat) : Int))]) ⟨rfl, rfl, rfl, rfl, rfl, rfl, trivial⟩ ?_
      refine CX.region ?_
      refine RX.cons rfl rfl (op_w (yw_move rfl rfl) rfl rfl ?_)
      refine RX.cons rfl rfl (op_w (yw_add rfl rfl rfl (by omega) (by omega)) rfl rfl ?_)
      refine RX.cons rfl rfl (op_w (yw_assign rfl rfl) rfl rfl ?_)
      refine RX.nil (XX.againP ([]) (i + 1, (B, c, ys), (B', c', zs)) (by dsimp only; omega) ⟨by dsimp only; omega, filter_succ_no hf (mineB_no (taken_not h17 (.inl (by simpa using d28)))) hys, filter_succ_no hf (othersB_no (taken_not h17 (.inl (by simpa using d28)))) hzs⟩ ⟨rfl, rfl, rfl, rfl, rfl, rfl, trivial⟩ ((perm_pick 0 rfl).trans (List.Perm.cons _ ((perm_pick 0 rfl).trans (List.Perm.cons _ ((perm_pick 0 rfl).trans (List.Perm.cons _ (List.Perm.refl _))))))))
    · refine RX.consG rfl rfl rfl rfl rfl (op_w (yw_move rfl rfl) rfl rfl ?_)
      refine RX.consG rfl rfl rfl rfl rfl (op_w (yw_move rfl rfl) rfl rfl ?_)
      refine RX.consG rfl rfl rfl rfl rfl (op_w (yw_index (k := i) rfl slt_22 rfl rfl (by omega) (by omega) hA) rfl rfl ?_)
      refine RX.consG rfl rfl rfl rfl rfl (op_w (yw_field0 rfl fld_33_0 rfl) rfl rfl ?_)
      refine RX.consG rfl rfl rfl rfl rfl (op_yld (y_rowElemF (j := 0) (i := 2) rfl rfl one_3 rfl (map_get hf) rfl) rfl rfl ?_)
      refine RX.consG rfl rfl rfl rfl rfl (op_w (yw_neq rfl rfl rfl) rfl rfl ?_)
      refine RX.cons rfl rfl (op_w (yw_pickF rfl rfl rfl) rfl rfl ?_)
      refine RX.nil (XX.next (V' := [(0, .slice y.1 ((fewF fs).length) y.2), (1, .int .i64 d), (5, .bool true), (6, .slice B ys.length c), (7, .slice B' zs.length c'), (8, .int .i64 ((i : Nat) : Int)), (35, .bool (decide (f.kind ≠ 1)))]) ⟨rfl, rfl, rfl, rfl, rfl, rfl, rfl, trivial⟩ ?_)
      refine CX.condD (p := f.kind ≠ 1) rfl (fun c35 => ?_) (fun c35 => ?_)
      · refine CX.exit ?_
        refine XX.then_exit ?_
        refine XX.block_exit ?_
        refine XX.next (V' := [(0, .slice y.1 ((fewF fs).length) y.2), (1, .int .i64 d), (5, .bool true), (6, .slice B ys.length c), (7, .slice B' zs.length c'), (8, .int .i64 ((i : Nat) : Int))]) ⟨rfl, rfl, rfl, rfl, rfl, rfl, trivial⟩ ?_
        refine CX.region ?_
        refine RX.cons rfl rfl (op_w (yw_move rfl rfl) rfl rfl ?_)
        refine RX.cons rfl rfl (op_w (yw_add rfl rfl rfl (by omega) (by omega)) rfl rfl ?_)
        refine RX.cons rfl rfl (op_w (yw_assign rfl rfl) rfl rfl ?_)
        refine RX.nil (XX.againP ([]) (i + 1, (B, c, ys), (B', c', zs)) (by dsimp only; omega) ⟨by dsimp only; omega, filter_succ_no hf (mineB_no (taken_not h17 (.inr (by omega)))) hys, filter_succ_no hf (othersB_no (taken_not h17 (.inr (by omega)))) hzs⟩ ⟨rfl, rfl, rfl, rfl, rfl, rfl, trivial⟩ ((perm_pick 0 rfl).trans (List.Perm.cons _ ((perm_pick 0 rfl).trans (List.Perm.cons _ ((perm_pick 0 rfl).trans (List.Perm.cons _ (List.Perm.refl _))))))))
      · refine CX.skip (XX.next (V' := [(0, .slice y.1 ((fewF fs).length) y.2), (1, .int .i64 d), (5, .bool true), (6, .slice B ys.length c), (7, .slice B' zs.length c'), (8, .int .i64 ((i : Nat) : Int))]) ⟨rfl, rfl, rfl, rfl, rfl, rfl, trivial⟩ ?_)
        refine CX.seq ?_
        refine CX.region ?_
        refine RX.cons rfl rfl (op_w (yw_move rfl rfl) rfl rfl ?_)
        refine RX.cons rfl rfl (op_w (yw_move rfl rfl) rfl rfl ?_)
        refine RX.cons rfl rfl (op_w (yw_index (k := i) rfl slt_22 rfl rfl (by omega) (by omega) hA) rfl rfl ?_)
        refine RX.cons rfl rfl (op_w (yw_fieldAddr rfl fld_33_6 rfl) rfl rfl ?_)
        refine RX.cons rfl rfl (op_yld (y_rowElemF (i := 2) rfl rfl one_3 rfl (map_get hf) rfl) rfl rfl ?_)
        refine RX.cons rfl rfl (op_w (yw_move rfl rfl) rfl rfl ?_)
        refine RX.cons rfl rfl (op_w (yw_eql rfl rfl rfl) rfl rfl ?_)
        refine RX.nil (XX.next (V' := [(0, .slice y.1 ((fewF fs).length) y.2), (1, .int .i64 d), (5, .bool true), (6, .slice B ys.length c), (7, .slice B' zs.length c'), (8, .int .i64 ((i : Nat) : Int)), (42, .bool (decide (f.device = d)))]) ⟨rfl, rfl, rfl, rfl, rfl, rfl, rfl, trivial⟩ ?_)
        refine CX.condD (p := f.device = d) rfl (fun c42 => ?_) (fun c42 => ?_)
        · refine CX.region ?_
          refine RX.cons rfl rfl (op_w (yw_move rfl rfl) rfl rfl ?_)
          refine RX.cons rfl rfl (op_w (yw_move rfl rfl) rfl rfl ?_)
          refine RX.cons rfl rfl (op_w (yw_move rfl rfl) rfl rfl ?_)
          refine RX.cons rfl rfl (op_w (yw_index (k := i) rfl slt_22 rfl rfl (by omega) (by omega) hA) rfl rfl ?_)
          refine RX.cons rfl rfl (op_yld (y_rowElem (i := 2) rfl rfl agg_33 rfl (map_get hf)) rfl rfl ?_)
          refine RX.cons rfl rfl (op_buildSlice rfl rfl rfl slb_22 rfl rfl (by intro v hv; simp only [List.mem_cons, List.not_mem_nil, or_false] at hv; subst hv; exact ⟨rfl, (plain_of rfl)⟩) (by decide) fun g1 => ?_)
          refine RX.cons rfl rfl (op_appendM Fct.cells (i := 1) (j := 0) (xs := ys) ([f]) rfl rfl rfl slb_22 rfl rfl rfl rfl rfl rfl (by simp; omega) (by simp; omega) fun A1 c1 => ?_)
          refine RX.cons rfl rfl (op_w (yw_assign rfl rfl) rfl rfl ?_)
          refine RX.nil (XX.inBlock (V' := [(0, .slice y.1 ((fewF fs).length) y.2), (1, .int .i64 d), (5, .bool true), (6, .slice A1 ((ys ++ [f]).length) c1), (7, .slice B' zs.length c'), (8, .int .i64 ((i : Nat) : Int))]) ⟨rfl, rfl, rfl, rfl, rfl, rfl, trivial⟩ ?_)
          refine XX.next (V' := [(0, .slice y.1 ((fewF fs).length) y.2), (1, .int .i64 d), (5, .bool true), (6, .slice A1 ((ys ++ [f]).length) c1), (7, .slice B' zs.length c'), (8, .int .i64 ((i : Nat) : Int))]) ⟨rfl, rfl, rfl, rfl, rfl, rfl, trivial⟩ ?_
          refine CX.region ?_
          refine RX.cons rfl rfl (op_w (yw_move rfl rfl) rfl rfl ?_)
          refine RX.cons rfl rfl (op_w (yw_add rfl rfl rfl (by omega) (by omega)) rfl rfl ?_)
          refine RX.cons rfl rfl (op_w (yw_assign rfl rfl) rfl rfl ?_)
          refine RX.nil (XX.againP ([.row (some ⟨g1, 0, none⟩) 1 33 18 (List.map Value.cells [.agg (Fct.cells f)])]) (i + 1, (A1, c1, ys ++ [f]), (B', c', zs)) (by dsimp only; omega) ⟨by dsimp only; omega, filter_succ_yes hf (by rw [mineB_yes (taken_valid h17 (by simpa using d28) (by omega))]; simpa using c42) hys, filter_succ_no hf (by rw [othersB_yes (taken_valid h17 (by simpa using d28) (by omega))]; simpa using c42) hzs⟩ ⟨rfl, rfl, rfl, rfl, rfl, rfl, trivial⟩ ((perm_pick 1 rfl).trans (List.Perm.cons _ ((perm_pick 1 rfl).trans (List.Perm.cons _ ((perm_pick 1 rfl).trans (List.Perm.cons _ (List.Perm.refl _))))))))
        · refine CX.region ?_
          refine RX.cons rfl rfl (op_w (yw_move rfl rfl) rfl rfl ?_)
          refine RX.cons rfl rfl (op_w (yw_move rfl rfl) rfl rfl ?_)
          refine RX.cons rfl rfl (op_w (yw_move rfl rfl) rfl rfl ?_)
          refine RX.cons rfl rfl (op_w (yw_index (k := i) rfl slt_22 rfl rfl (by omega) (by omega) hA) rfl rfl ?_)
          refine RX.cons rfl rfl (op_yld (y_rowElem (i := 2) rfl rfl agg_33 rfl (map_get hf)) rfl rfl ?_)
          refine RX.cons rfl rfl (op_buildSlice rfl rfl rfl slb_22 rfl rfl (by intro v hv; simp only [List.mem_cons, List.not_mem_nil, or_false] at hv; subst hv; exact ⟨rfl, (plain_of rfl)⟩) (by decide) fun g2 => ?_)
          refine RX.cons rfl rfl (op_appendM Fct.cells (i := 2) (j := 0) (xs := zs) ([f]) rfl rfl rfl slb_22 rfl rfl rfl rfl rfl rfl (by simp; omega) (by simp; omega) fun A2 c2 => ?_)
          refine RX.cons rfl rfl (op_w (yw_assign rfl rfl) rfl rfl ?_)
          refine RX.nil (XX.inBlock (V' := [(0, .slice y.1 ((fewF fs).length) y.2), (1, .int .i64 d), (5, .bool true), (6, .slice B ys.length c), (7, .slice A2 ((zs ++ [f]).length) c2), (8, .int .i64 ((i : Nat) : Int))]) ⟨rfl, rfl, rfl, rfl, rfl, rfl, trivial⟩ ?_)
          refine XX.next (V' := [(0, .slice y.1 ((fewF fs).length) y.2), (1, .int .i64 d), (5, .bool true), (6, .slice B ys.length c), (7, .slice A2 ((zs ++ [f]).length) c2), (8, .int .i64 ((i : Nat) : Int))]) ⟨rfl, rfl, rfl, rfl, rfl, rfl, trivial⟩ ?_
          refine CX.region ?_
          refine RX.cons rfl rfl (op_w (yw_move rfl rfl) rfl rfl ?_)
          refine RX.cons rfl rfl (op_w (yw_add rfl rfl rfl (by omega) (by omega)) rfl rfl ?_)
          refine RX.cons rfl rfl (op_w (yw_assign rfl rfl) rfl rfl ?_)
          refine RX.nil (XX.againP ([.row (some ⟨g2, 0, none⟩) 1 33 18 (List.map Value.cells [.agg (Fct.cells f)])]) (i + 1, (B, c, ys), (A2, c2, zs ++ [f])) (by dsimp only; omega) ⟨by dsimp only; omega, filter_succ_no hf (by rw [mineB_yes (taken_valid h17 (by simpa using d28) (by omega))]; simpa using c42) hys, filter_succ_yes hf (by rw [othersB_yes (taken_valid h17 (by simpa using d28) (by omega))]; simpa using c42) hzs⟩ ⟨rfl, rfl, rfl, rfl, rfl, rfl, trivial⟩ ((perm_pick 1 rfl).trans (List.Perm.cons _ ((perm_pick 1 rfl).trans (List.Perm.cons _ ((perm_pick 1 rfl).trans (List.Perm.cons _ (List.Perm.refl _))))))))
  · have hys' := filter_take_all hys (by omega)
    have hzs' := filter_take_all hzs (by omega)
    refine CX.exit ?_
    refine XX.then_exit ?_
    refine XX.then_exit ?_
    refine XX.block_exit ?_
    refine XX.next (V' := [(0, .slice y.1 ((fewF fs).length) y.2), (1, .int .i64 d), (5, .bool true), (6, .slice B ys.length c), (7, .slice B' zs.length c')]) ⟨rfl, rfl, rfl, rfl, rfl, trivial⟩ ?_
    refine CX.seq ?_
    refine CX.region ?_
    refine RX.cons rfl rfl (op_w (yw_assign rfl rfl) rfl rfl ?_)
    refine RX.nil (XX.next (V' := [(0, .slice y.1 ((fewF fs).length) y.2), (1, .int .i64 d), (5, .bool true), (6, .slice B ys.length c), (7, .slice B' zs.length c'), (9, .slice none 0 0)]) ⟨rfl, rfl, rfl, rfl, rfl, rfl, trivial⟩ ?_)
    refine CX.seq ?_
    refine CX.region ?_
    refine RX.cons rfl rfl (op_w (yw_assign rfl rfl) rfl rfl ?_)
    refine RX.nil (XX.next (V' := [(0, .slice y.1 ((fewF fs).length) y.2), (1, .int .i64 d), (5, .bool true), (6, .slice B ys.length c), (7, .slice B' zs.length c'), (9, .slice none 0 0), (10, .slice none 0 0)]) ⟨rfl, rfl, rfl, rfl, rfl, rfl, rfl, trivial⟩ ?_)
    refine CX.seq ?_
    refine CX.region ?_
    refine RX.cons rfl rfl (op_w (yw_move rfl rfl) rfl rfl ?_)
    refine RX.cons rfl rfl (op_callE rfl rfl rfl rfl rfl ent_12 (fun w hw => w_streams (fewF fs) (Ent.rd (hw.ents _ (List.mem_of_getElem? (i := 2) rfl))) (by omega) (hG.keep hw (by simp))) (fun y1 _ => ?_))
    refine RX.cons rfl rfl (op_w (yw_assign rfl rfl) rfl rfl ?_)
    refine RX.nil (XX.next (V' := [(1, .int .i64 d), (5, .bool true), (6, .slice B ys.length c), (7, .slice B' zs.length c'), (9, .slice none 0 0), (10, .slice none 0 0), (11, .slice y1.1 ((streams (fewF fs)).length) y1.2)]) ⟨rfl, rfl, rfl, rfl, rfl, rfl, rfl, trivial⟩ ?_)
    refine CX.seq ?_
    refine CX.seq ?_
    refine CX.region ?_
    refine RX.cons rfl rfl (op_w (yw_assign rfl rfl) rfl rfl ?_)
    refine RX.nil (XX.next (V' := [(1, .int .i64 d), (5, .bool true), (6, .slice B ys.length c), (7, .slice B' zs.length c'), (9, .slice none 0 0), (10, .slice none 0 0), (11, .slice y1.1 ((streams (fewF fs)).length) y1.2), (12, .int .i64 0)]) ⟨rfl, rfl, rfl, rfl, rfl, rfl, rfl, rfl, trivial⟩ ?_)
    refine CX.block ?_
    refine CX.rowNil 30 9 ?_
    refine CX.rowNil 30 9 ?_
    refine CX.loop (σ := Nat × (Option Addr × Nat × List Strm) × (Option Addr × Nat × List Strm)) (fun z => [(1, .int .i64 d), (5, .bool true), (6, .slice B ys.length c), (7, .slice B' zs.length c'), (9, .slice z.2.1.1 z.2.1.2.2.length z.2.1.2.1), (10, .slice z.2.2.1 z.2.2.2.2.length z.2.2.2.1), (11, .slice y1.1 ((streams (fewF fs)).length) y1.2), (12, .int .i64 ((z.1 : Nat) : Int))]) (fun z => [.row z.2.1.1 z.2.1.2.1 30 9 (List.map Strm.cells z.2.1.2.2), .row z.2.2.1 z.2.2.2.1 30 9 (List.map Strm.cells z.2.2.2.2), .row y1.1 y1.2 30 9 (List.map Strm.cells (streams (fewF fs))), .row B c 33 18 (List.map Fct.cells ys), .row B' c' 33 18 (List.map Fct.cells zs), .row y.1 y.2 33 18 (List.map Fct.cells (fewF fs))]) (fun z => z.1 ≤ (streams (fewF fs)).length ∧ z.2.1.2.2 = (List.take z.1 (streams (fewF fs))).filter (fun s => s.device == d) ∧ z.2.2.2.2 = (List.take z.1 (streams (fewF fs))).filter (fun s => !(s.device == d))) (fun z => (streams (fewF fs)).length - z.1) (0, (none, 0, []), (none, 0, [])) ⟨Nat.zero_le _, by simp, by simp⟩ ⟨rfl, rfl, rfl, rfl, rfl, rfl, rfl, rfl, trivial⟩ rfl (fun z hI => ?_)
    obtain ⟨k, ⟨E, e, us⟩, ⟨E', e', vs⟩⟩ := z
    dsimp only at hI ⊢
    obtain ⟨hk, hus, hvs⟩ := hI
    have hul := filter_take_le hus
    have hvl := filter_take_le hvs
    refine CX.seq ?_
    refine CX.seq ?_
    refine CX.region ?_
    refine RX.cons rfl rfl (op_w (yw_move rfl rfl) rfl rfl ?_)
    refine RX.cons rfl rfl (op_w (yw_move rfl rfl) rfl rfl ?_)
    refine RX.cons rfl rfl (op_w (yw_lenS rfl Tryd.underlying23 rfl) rfl rfl ?_)
    refine RX.cons rfl rfl (op_w (yw_lss rfl rfl rfl) rfl rfl ?_)
    refine RX.nil (XX.next (V' := [(1, .int .i64 d), (5, .bool true), (6, .slice B ys.length c), (7, .slice B' zs.length c'), (9, .slice E us.length e), (10, .slice E' vs.length e'), (11, .slice y1.1 ((streams (fewF fs)).length) y1.2), (12, .int .i64 ((k : Nat) : Int)), (62, .bool (decide (((k : Nat) : Int) < (((streams (fewF fs)).length : Nat) : Int))))]) ⟨rfl, rfl, rfl, rfl, rfl, rfl, rfl, rfl, rfl, trivial⟩ ?_)
    refine CX.condD (p := ((k : Nat) : Int) < (((streams (fewF fs)).length : Nat) : Int)) rfl (fun c62 => ?_) (fun c62 => ?_)
    · obtain ⟨s, hs⟩ := get_some (l := (streams (fewF fs))) (k := k) (by omega)
      refine CX.rowSome 2 rfl (by simp; omega) (fun hA => ?_)
      refine CX.skip (XX.next (V' := [(1, .int .i64 d), (5, .bool true), (6, .slice B ys.length c), (7, .slice B' zs.length c'), (9, .slice E us.length e), (10, .slice E' vs.length e'), (11, .slice y1.1 ((streams (fewF fs)).length) y1.2), (12, .int .i64 ((k : Nat) : Int))]) ⟨rfl, rfl, rfl, rfl, rfl, rfl, rfl, rfl, trivial⟩ ?_)
      refine CX.seq ?_
      refine CX.block ?_
      refine CX.seq ?_
      refine CX.region ?_
      refine RX.cons rfl rfl (op_w (yw_move rfl rfl) rfl rfl ?_)
      refine RX.cons rfl rfl (op_w (yw_move rfl rfl) rfl rfl ?_)
      refine RX.cons rfl rfl (op_w (yw_index (k := k) rfl slt_23 rfl rfl (by omega) (by omega) hA) rfl rfl ?_)
      refine RX.cons rfl rfl (op_w (yw_field0 rfl fld_30_0 rfl) rfl rfl ?_)
      refine RX.cons rfl rfl (op_yld (y_rowElemF (j := 0) (i := 2) rfl rfl one_3 rfl (map_get hs) rfl) rfl rfl ?_)
      refine RX.cons rfl rfl (op_w (yw_move rfl rfl) rfl rfl ?_)
      refine RX.cons rfl rfl (op_w (yw_eql rfl rfl rfl) rfl rfl ?_)
      refine RX.nil (XX.next (V' := [(1, .int .i64 d), (5, .bool true), (6, .slice B ys.length c), (7, .slice B' zs.length c'), (9, .slice E us.length e), (10, .slice E' vs.length e'), (11, .slice y1.1 ((streams (fewF fs)).length) y1.2), (12, .int .i64 ((k : Nat) : Int)), (71, .bool (decide (s.device = d)))]) ⟨rfl, rfl, rfl, rfl, rfl, rfl, rfl, rfl, rfl, trivial⟩ ?_)
      refine CX.condD (p := s.device = d) rfl (fun c71 => ?_) (fun c71 => ?_)
      · refine CX.region ?_
        refine RX.cons rfl rfl (op_w (yw_move rfl rfl) rfl rfl ?_)
        refine RX.cons rfl rfl (op_w (yw_move rfl rfl) rfl rfl ?_)
        refine RX.cons rfl rfl (op_w (yw_move rfl rfl) rfl rfl ?_)
        refine RX.cons rfl rfl (op_w (yw_index (k := k) rfl slt_23 rfl rfl (by omega) (by omega) hA) rfl rfl ?_)
        refine RX.cons rfl rfl (op_yld (y_rowElem (i := 2) rfl rfl agg_30 rfl (map_get hs)) rfl rfl ?_)
        refine RX.cons rfl rfl (op_buildSlice rfl rfl rfl slb_23 rfl rfl (by intro v hv; simp only [List.mem_cons, List.not_mem_nil, or_false] at hv; subst hv; exact ⟨rfl, (plain_of rfl)⟩) (by decide) fun g3 => ?_)
        refine RX.cons rfl rfl (op_appendM Strm.cells (i := 1) (j := 0) (xs := us) ([s]) rfl rfl rfl slb_23 rfl rfl rfl rfl rfl rfl (by simp; omega) (by simp; omega) fun A3 c3 => ?_)
        refine RX.cons rfl rfl (op_w (yw_assign rfl rfl) rfl rfl ?_)
        refine RX.nil (XX.inBlock (V' := [(1, .int .i64 d), (5, .bool true), (6, .slice B ys.length c), (7, .slice B' zs.length c'), (9, .slice A3 ((us ++ [s]).length) c3), (10, .slice E' vs.length e'), (11, .slice y1.1 ((streams (fewF fs)).length) y1.2), (12, .int .i64 ((k : Nat) : Int))]) ⟨rfl, rfl, rfl, rfl, rfl, rfl, rfl, rfl, trivial⟩ ?_)
        refine XX.next (V' := [(1, .int .i64 d), (5, .bool true), (6, .slice B ys.length c), (7, .slice B' zs.length c'), (9, .slice A3 ((us ++ [s]).length) c3), (10, .slice E' vs.length e'), (11, .slice y1.1 ((streams (fewF fs)).length) y1.2), (12, .int .i64 ((k : Nat) : Int))]) ⟨rfl, rfl, rfl, rfl, rfl, rfl, rfl, rfl, trivial⟩ ?_
        refine CX.region ?_
        refine RX.cons rfl rfl (op_w (yw_move rfl rfl) rfl rfl ?_)
        refine RX.cons rfl rfl (op_w (yw_add rfl rfl rfl (by omega) (by omega)) rfl rfl ?_)
        refine RX.cons rfl rfl (op_w (yw_assign rfl rfl) rfl rfl ?_)
        refine RX.nil (XX.againP ([.row (some ⟨g3, 0, none⟩) 1 30 9 (List.map Value.cells [.agg (Strm.cells s)])]) (k + 1, (A3, c3, us ++ [s]), (E', e', vs)) (by dsimp only; omega) ⟨by dsimp only; omega, filter_succ_yes hs (by simpa using c71) hus, filter_succ_no hs (by simpa using c71) hvs⟩ ⟨rfl, rfl, rfl, rfl, rfl, rfl, rfl, rfl, trivial⟩ ((perm_pick 1 rfl).trans (List.Perm.cons _ ((perm_pick 1 rfl).trans (List.Perm.cons _ ((perm_pick 1 rfl).trans (List.Perm.cons _ ((perm_pick 1 rfl).trans (List.Perm.cons _ ((perm_pick 1 rfl).trans (List.Perm.cons _ ((perm_pick 1 rfl).trans (List.Perm.cons _ (List.Perm.refl _))))))))))))))
      · refine CX.region ?_
        refine RX.cons rfl rfl (op_w (yw_move rfl rfl) rfl rfl ?_)
        refine RX.cons rfl rfl (op_w (yw_move rfl rfl) rfl rfl ?_)
        refine RX.cons rfl rfl (op_w (yw_move rfl rfl) rfl rfl ?_)
        refine RX.cons rfl rfl (op_w (yw_index (k := k) rfl slt_23 rfl rfl (by omega) (by omega) hA) rfl rfl ?_)
        refine RX.cons rfl rfl (op_yld (y_rowElem (i := 2) rfl rfl agg_30 rfl (map_get hs)) rfl rfl ?_)
        refine RX.cons rfl rfl (op_buildSlice rfl rfl rfl slb_23 rfl rfl (by intro v hv; simp only [List.mem_cons, List.not_mem_nil, or_false] at hv; subst hv; exact ⟨rfl, (plain_of rfl)⟩) (by decide) fun g4 => ?_)
        refine RX.cons rfl rfl (op_appendM Strm.cells (i := 2) (j := 0) (xs := vs) ([s]) rfl rfl rfl slb_23 rfl rfl rfl rfl rfl rfl (by simp; omega) (by simp; omega) fun A4 c4 => ?_)
        refine RX.cons rfl rfl (op_w (yw_assign rfl rfl) rfl rfl ?_)
        refine RX.nil (XX.inBlock (V' := [(1, .int .i64 d), (5, .bool true), (6, .slice B ys.length c), (7, .slice B' zs.length c'), (9, .slice E us.length e), (10, .slice A4 ((vs ++ [s]).length) c4), (11, .slice y1.1 ((streams (fewF fs)).length) y1.2), (12, .int .i64 ((k : Nat) : Int))]) ⟨rfl, rfl, rfl, rfl, rfl, rfl, rfl, rfl, trivial⟩ ?_)
        refine XX.next (V' := [(1, .int .i64 d), (5, .bool true), (6, .slice B ys.length c), (7, .slice B' zs.length c'), (9, .slice E us.length e), (10, .slice A4 ((vs ++ [s]).length) c4), (11, .slice y1.1 ((streams (fewF fs)).length) y1.2), (12, .int .i64 ((k : Nat) : Int))]) ⟨rfl, rfl, rfl, rfl, rfl, rfl, rfl, rfl, trivial⟩ ?_
        refine CX.region ?_
        refine RX.cons rfl rfl (op_w (yw_move rfl rfl) rfl rfl ?_)
        refine RX.cons rfl rfl (op_w (yw_add rfl rfl rfl (by omega) (by omega)) rfl rfl ?_)
        refine RX.cons rfl rfl (op_w (yw_assign rfl rfl) rfl rfl ?_)
        refine RX.nil (XX.againP ([.row (some ⟨g4, 0, none⟩) 1 30 9 (List.map Value.cells [.agg (Strm.cells s)])]) (k + 1, (E, e, us), (A4, c4, vs ++ [s])) (by dsimp only; omega) ⟨by dsimp only; omega, filter_succ_no hs (by simpa using c71) hus, filter_succ_yes hs (by simpa using c71) hvs⟩ ⟨rfl, rfl, rfl, rfl, rfl, rfl, rfl, rfl, trivial⟩ ((perm_pick 1 rfl).trans (List.Perm.cons _ ((perm_pick 1 rfl).trans (List.Perm.cons _ ((perm_pick 1 rfl).trans (List.Perm.cons _ ((perm_pick 1 rfl).trans (List.Perm.cons _ ((perm_pick 1 rfl).trans (List.Perm.cons _ ((perm_pick 1 rfl).trans (List.Perm.cons _ (List.Perm.refl _))))))))))))))
    · have hus' := filter_take_all hus (by omega)
      have hvs' := filter_take_all hvs (by omega)
      refine CX.exit ?_
      refine XX.then_exit ?_
      refine XX.then_exit ?_
      refine XX.block_exit ?_
      refine XX.next (V' := [(5, .bool true), (6, .slice B ys.length c), (7, .slice B' zs.length c'), (9, .slice E us.length e), (10, .slice E' vs.length e')]) ⟨rfl, rfl, rfl, rfl, rfl, trivial⟩ ?_
      refine CX.seq ?_
      refine CX.region ?_
      refine RX.cons rfl rfl (op_w (yw_move rfl rfl) rfl rfl ?_)
      refine RX.cons rfl rfl (op_w (yw_move rfl rfl) rfl rfl ?_)
      refine RX.consG rfl rfl rfl rfl rfl (op_w (yw_move rfl rfl) rfl rfl ?_)
      refine RX.consG rfl rfl rfl rfl rfl (op_w (yw_move rfl rfl) rfl rfl ?_)
      refine RX.consG rfl rfl rfl rfl rfl (op_callE rfl rfl rfl rfl rfl ent_12 (fun w hw => w_streams ys (Ent.rd (hw.ents _ (List.mem_of_getElem? (i := 3) rfl))) (by omega) (hG.keep hw (by simp))) (fun y2 _ => ?_))
      refine RX.consG rfl rfl rfl rfl rfl (op_callV (v := .bool (decide (us = (streams ys)))) rfl rfl rfl rfl rfl ent_9 (fun w hw => w_same us (streams ys) (Ent.rd (hw.ents _ (List.mem_of_getElem? (i := 1) rfl))) (Ent.rd (hw.ents _ (List.mem_of_getElem? (i := 0) rfl))) (by omega)) ?_)
      refine RX.know (t := 91) (u := .bool true) rfl (congrArg Value.bool (decide_eq_true (by rw [hus', hys', devices_mine]))) ?_
      refine RX.cons rfl rfl (op_w (yw_pickT rfl rfl rfl) rfl rfl ?_)
      refine RX.cons rfl rfl (op_w (yw_move rfl rfl) rfl rfl ?_)
      refine RX.consG rfl rfl rfl rfl rfl (op_w (yw_move rfl rfl) rfl rfl ?_)
      refine RX.consG rfl rfl rfl rfl rfl (op_w (yw_move rfl rfl) rfl rfl ?_)
      refine RX.consG rfl rfl rfl rfl rfl (op_callE rfl rfl rfl rfl rfl ent_12 (fun w hw => w_streams zs (Ent.rd (hw.ents _ (List.mem_of_getElem? (i := 5) rfl))) (by omega) (hG.keep hw (by simp))) (fun y3 _ => ?_))
      refine RX.consG rfl rfl rfl rfl rfl (op_callV (v := .bool (decide (vs = (streams zs)))) rfl rfl rfl rfl rfl ent_9 (fun w hw => w_same vs (streams zs) (Ent.rd (hw.ents _ (List.mem_of_getElem? (i := 3) rfl))) (Ent.rd (hw.ents _ (List.mem_of_getElem? (i := 0) rfl))) (by omega)) ?_)
      refine RX.know (t := 97) (u := .bool true) rfl (congrArg Value.bool (decide_eq_true (by rw [hvs', hzs', devices_others]))) ?_
      refine RX.cons rfl rfl (op_w (yw_pickT rfl rfl rfl) rfl rfl ?_)
      refine RX.cons rfl rfl (op_w (yw_assign rfl rfl) rfl rfl ?_)
      refine RX.nil (XX.next (V' := [(4, .bool true)]) ⟨rfl, trivial⟩ ?_)
      refine CX.ret ?_
      exact ret_tmp rfl rfl fun w1 hw => ⟨rfl, hw.sub (List.nil_sublist _)⟩

end Go.Proofs.YtmndhiaaolfepaaDoor
