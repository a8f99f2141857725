/- Walks, printed by a program. -/
import Derived.Test.YtmndhiaaolfepaaDoorWalkR
namespace Go.Proofs.YtmndhiaaolfepaaDoor
set_option linter.all false
open Go Go.RowKit
set_option maxRecDepth 100000
theorem ent_20 : ∀ args w, (callFunc 20 args).run Tryd.prog w = .ok (.enter 20 args) w := enters_of Tryd.func20 (by kernel_rfl) rfl
theorem ent_12 : ∀ args w, (callFunc 12 args).run Tryd.prog w = .ok (.enter 12 args) w := enters_of Tryd.func12 (by kernel_rfl) rfl
theorem ent_19 : ∀ args w, (callFunc 19 args).run Tryd.prog w = .ok (.enter 19 args) w := enters_of Tryd.func19 (by kernel_rfl) rfl
theorem fld_30_8 : Fld Tryd.prog 30 8 8 := ⟨_, _, (Tryd.prog.info? 3).get!, Tryd.underlying30, rfl, rfl, by kernel_rfl, by decide +kernel⟩
theorem ent_10 : ∀ args w, (callFunc 10 args).run Tryd.prog w = .ok (.enter 10 args) w := enters_of Tryd.func10 (by kernel_rfl) rfl
set_option maxRecDepth 100000 in
theorem w_sane {w : World} (hG : Lens w) :
    Calls Tryd.prog 8 #[] w (fun e w' => e = .returned (.bool true) ∧ SL w [] w' []) := by
  refine calls_of_CX (O := []) (L := []) (args := []) Tryd.func8 rfl (by simp [Tryd.ntmps8]) (SL.refl w) ?_
  refine CX.sub (V' := []) trivial ?_
  refine CX.seq ?_
  refine CX.region ?_
  refine RX.cons rfl rfl (op_w (yw_assign rfl rfl) rfl rfl ?_)
  refine RX.nil (XX.next (V' := []) trivial ?_)
  refine CX.seq ?_
  refine CX.region ?_
  refine RX.cons rfl rfl (op_callV (v := .agg (Fct.cells (mkPlay 3 59 30000))) rfl rfl rfl rfl rfl ent_20 (fun w _ => w_play 3 59 30000) ?_)
  refine RX.cons rfl rfl (op_callV (v := .agg (Fct.cells (mkPlay 1 0 30000))) rfl rfl rfl rfl rfl ent_20 (fun w _ => w_play 1 0 30000) ?_)
  refine RX.cons rfl rfl (op_callV (v := .agg (Fct.cells (mkPlay 2 30 30000))) rfl rfl rfl rfl rfl ent_20 (fun w _ => w_play 2 30 30000) ?_)
  refine RX.cons rfl rfl (op_buildSlice rfl rfl rfl slb_22 rfl rfl (by intro v hv; simp only [List.mem_cons, List.not_mem_nil, or_false] at hv; rcases hv with rfl | rfl | rfl <;> exact ⟨rfl, (plain_of rfl)⟩) (by decide) fun g1 => ?_)
  refine RX.cons rfl rfl (op_callE rfl rfl rfl rfl rfl ent_12 (fun w hw => w_streams ([(mkPlay 3 59 30000), (mkPlay 1 0 30000), (mkPlay 2 30 30000)]) (Ent.rd (hw.ents _ (List.mem_of_getElem? (i := 0) rfl))) (by decide +kernel) (hG.keep hw (by simp))) (fun y1 _ => ?_))
  refine RX.cons rfl rfl (op_callV (v := .string (idsF (streams ([(mkPlay 3 59 30000), (mkPlay 1 0 30000), (mkPlay 2 30 30000)])))) rfl rfl rfl rfl rfl ent_19 (fun w hw => w_ids (streams ([(mkPlay 3 59 30000), (mkPlay 1 0 30000), (mkPlay 2 30 30000)])) (Ent.rd (hw.ents _ (List.mem_of_getElem? (i := 0) rfl))) (by decide +kernel) (by decide +kernel)) ?_)
  refine RX.cons rfl rfl (op_w (yw_streq rfl rfl rfl) rfl rfl ?_)
  refine RX.know (t := 13) (u := .bool true) rfl (congrArg Value.bool (decide_eq_true (by rw [ByteArray.toList_eq, ByteArray.toList_eq]; decide +kernel))) ?_
  refine RX.cons rfl rfl (op_w (yw_assign rfl rfl) rfl rfl ?_)
  refine RX.nil (XX.next (V' := [(1, .bool true)]) ⟨rfl, trivial⟩ ?_)
  refine CX.seq ?_
  refine CX.region ?_
  refine RX.cons rfl rfl (op_callV (v := .agg (Fct.cells (mkPlay 1 0 29999))) rfl rfl rfl rfl rfl ent_20 (fun w _ => w_play 1 0 29999) ?_)
  refine RX.cons rfl rfl (op_callV (v := .agg (Fct.cells (mkPlay 2 10 30000))) rfl rfl rfl rfl rfl ent_20 (fun w _ => w_play 2 10 30000) ?_)
  refine RX.cons rfl rfl (op_buildSlice rfl rfl rfl slb_22 rfl rfl (by intro v hv; simp only [List.mem_cons, List.not_mem_nil, or_false] at hv; rcases hv with rfl | rfl <;> exact ⟨rfl, (plain_of rfl)⟩) (by decide) fun g2 => ?_)
  refine RX.cons rfl rfl (op_callE rfl rfl rfl rfl rfl ent_12 (fun w hw => w_streams ([(mkPlay 1 0 29999), (mkPlay 2 10 30000)]) (Ent.rd (hw.ents _ (List.mem_of_getElem? (i := 0) rfl))) (by decide +kernel) (hG.keep hw (by simp))) (fun y2 _ => ?_))
  refine RX.cons rfl rfl (op_callV (v := .string (idsF (streams ([(mkPlay 1 0 29999), (mkPlay 2 10 30000)])))) rfl rfl rfl rfl rfl ent_19 (fun w hw => w_ids (streams ([(mkPlay 1 0 29999), (mkPlay 2 10 30000)])) (Ent.rd (hw.ents _ (List.mem_of_getElem? (i := 0) rfl))) (by decide +kernel) (by decide +kernel)) ?_)
  refine RX.cons rfl rfl (op_w (yw_streq rfl rfl rfl) rfl rfl ?_)
  refine RX.know (t := 19) (u := .bool true) rfl (congrArg Value.bool (decide_eq_true (by rw [ByteArray.toList_eq, ByteArray.toList_eq]; decide +kernel))) ?_
  refine RX.cons rfl rfl (op_w (yw_assign rfl rfl) rfl rfl ?_)
  refine RX.nil (XX.next (V' := [(1, .bool true), (2, .bool true)]) ⟨rfl, rfl, trivial⟩ ?_)
  refine CX.seq ?_
  refine CX.region ?_
  refine RX.cons rfl rfl (op_callV (v := .agg (Fct.cells (mkPlay 1 0 60001))) rfl rfl rfl rfl rfl ent_20 (fun w _ => w_play 1 0 60001) ?_)
  refine RX.cons rfl rfl (op_callV (v := .agg (Fct.cells (mkPlay 2 60 30000))) rfl rfl rfl rfl rfl ent_20 (fun w _ => w_play 2 60 30000) ?_)
  refine RX.cons rfl rfl (op_callV (v := .agg (Fct.cells (mkPlay 3 61 30000))) rfl rfl rfl rfl rfl ent_20 (fun w _ => w_play 3 61 30000) ?_)
  refine RX.cons rfl rfl (op_buildSlice rfl rfl rfl slb_22 rfl rfl (by intro v hv; simp only [List.mem_cons, List.not_mem_nil, or_false] at hv; rcases hv with rfl | rfl | rfl <;> exact ⟨rfl, (plain_of rfl)⟩) (by decide) fun g3 => ?_)
  refine RX.cons rfl rfl (op_callE rfl rfl rfl rfl rfl ent_12 (fun w hw => w_streams ([(mkPlay 1 0 60001), (mkPlay 2 60 30000), (mkPlay 3 61 30000)]) (Ent.rd (hw.ents _ (List.mem_of_getElem? (i := 0) rfl))) (by decide +kernel) (hG.keep hw (by simp))) (fun y3 _ => ?_))
  refine RX.cons rfl rfl (op_callV (v := .string (idsF (streams ([(mkPlay 1 0 60001), (mkPlay 2 60 30000), (mkPlay 3 61 30000)])))) rfl rfl rfl rfl rfl ent_19 (fun w hw => w_ids (streams ([(mkPlay 1 0 60001), (mkPlay 2 60 30000), (mkPlay 3 61 30000)])) (Ent.rd (hw.ents _ (List.mem_of_getElem? (i := 0) rfl))) (by decide +kernel) (by decide +kernel)) ?_)
  refine RX.cons rfl rfl (op_w (yw_streq rfl rfl rfl) rfl rfl ?_)
  refine RX.know (t := 26) (u := .bool true) rfl (congrArg Value.bool (decide_eq_true (by rw [ByteArray.toList_eq, ByteArray.toList_eq]; decide +kernel))) ?_
  refine RX.cons rfl rfl (op_w (yw_assign rfl rfl) rfl rfl ?_)
  refine RX.nil (XX.next (V' := [(1, .bool true), (2, .bool true), (3, .bool true)]) ⟨rfl, rfl, rfl, trivial⟩ ?_)
  refine CX.seq ?_
  refine CX.region ?_
  refine RX.cons rfl rfl (op_callV (v := .agg (Fct.cells (mkPlay 1 0 30000))) rfl rfl rfl rfl rfl ent_20 (fun w _ => w_play 1 0 30000) ?_)
  refine RX.cons rfl rfl (op_callV (v := .agg (Fct.cells (mkPlay 2 1800 30000))) rfl rfl rfl rfl rfl ent_20 (fun w _ => w_play 2 1800 30000) ?_)
  refine RX.cons rfl rfl (op_callV (v := .agg (Fct.cells (mkPlay 3 3601 30000))) rfl rfl rfl rfl rfl ent_20 (fun w _ => w_play 3 3601 30000) ?_)
  refine RX.cons rfl rfl (op_buildSlice rfl rfl rfl slb_22 rfl rfl (by intro v hv; simp only [List.mem_cons, List.not_mem_nil, or_false] at hv; rcases hv with rfl | rfl | rfl <;> exact ⟨rfl, (plain_of rfl)⟩) (by decide) fun g4 => ?_)
  refine RX.cons rfl rfl (op_callE rfl rfl rfl rfl rfl ent_12 (fun w hw => w_streams ([(mkPlay 1 0 30000), (mkPlay 2 1800 30000), (mkPlay 3 3601 30000)]) (Ent.rd (hw.ents _ (List.mem_of_getElem? (i := 0) rfl))) (by decide +kernel) (hG.keep hw (by simp))) (fun y4 _ => ?_))
  refine RX.cons rfl rfl (op_callV (v := .string (idsF (streams ([(mkPlay 1 0 30000), (mkPlay 2 1800 30000), (mkPlay 3 3601 30000)])))) rfl rfl rfl rfl rfl ent_19 (fun w hw => w_ids (streams ([(mkPlay 1 0 30000), (mkPlay 2 1800 30000), (mkPlay 3 3601 30000)])) (Ent.rd (hw.ents _ (List.mem_of_getElem? (i := 0) rfl))) (by decide +kernel) (by decide +kernel)) ?_)
  refine RX.cons rfl rfl (op_w (yw_streq rfl rfl rfl) rfl rfl ?_)
  refine RX.know (t := 33) (u := .bool true) rfl (congrArg Value.bool (decide_eq_true (by rw [ByteArray.toList_eq, ByteArray.toList_eq]; decide +kernel))) ?_
  refine RX.cons rfl rfl (op_w (yw_assign rfl rfl) rfl rfl ?_)
  refine RX.nil (XX.next (V' := [(1, .bool true), (2, .bool true), (3, .bool true), (4, .bool true)]) ⟨rfl, rfl, rfl, rfl, trivial⟩ ?_)
  refine CX.seq ?_
  refine CX.region ?_
  refine RX.cons rfl rfl (op_callV (v := .agg (Fct.cells (mkPlay 1 0 30000))) rfl rfl rfl rfl rfl ent_20 (fun w _ => w_play 1 0 30000) ?_)
  refine RX.cons rfl rfl (op_callV (v := .agg (Fct.cells (mkPlay 2 100 30000))) rfl rfl rfl rfl rfl ent_20 (fun w _ => w_play 2 100 30000) ?_)
  refine RX.cons rfl rfl (op_callV (v := .agg (Fct.cells (mkPlay 3 200 30000))) rfl rfl rfl rfl rfl ent_20 (fun w _ => w_play 3 200 30000) ?_)
  refine RX.cons rfl rfl (op_callV (v := .agg (Fct.cells (mkPlay 4 300 30000))) rfl rfl rfl rfl rfl ent_20 (fun w _ => w_play 4 300 30000) ?_)
  refine RX.cons rfl rfl (op_callV (v := .agg (Fct.cells (mkPlay 5 400 30000))) rfl rfl rfl rfl rfl ent_20 (fun w _ => w_play 5 400 30000) ?_)
  refine RX.cons rfl rfl (op_callV (v := .agg (Fct.cells (mkPlay 6 500 30000))) rfl rfl rfl rfl rfl ent_20 (fun w _ => w_play 6 500 30000) ?_)
  refine RX.cons rfl rfl (op_buildSlice rfl rfl rfl slb_22 rfl rfl (by intro v hv; simp only [List.mem_cons, List.not_mem_nil, or_false] at hv; rcases hv with rfl | rfl | rfl | rfl | rfl | rfl <;> exact ⟨rfl, (plain_of rfl)⟩) (by decide) fun g5 => ?_)
  refine RX.cons rfl rfl (op_callE rfl rfl rfl rfl rfl ent_12 (fun w hw => w_streams ([(mkPlay 1 0 30000), (mkPlay 2 100 30000), (mkPlay 3 200 30000), (mkPlay 4 300 30000), (mkPlay 5 400 30000), (mkPlay 6 500 30000)]) (Ent.rd (hw.ents _ (List.mem_of_getElem? (i := 0) rfl))) (by decide +kernel) (hG.keep hw (by simp))) (fun y5 _ => ?_))
  refine RX.cons rfl rfl (op_callV (v := .string (idsF (streams ([(mkPlay 1 0 30000), (mkPlay 2 100 30000), (mkPlay 3 200 30000), (mkPlay 4 300 30000), (mkPlay 5 400 30000), (mkPlay 6 500 30000)])))) rfl rfl rfl rfl rfl ent_19 (fun w hw => w_ids (streams ([(mkPlay 1 0 30000), (mkPlay 2 100 30000), (mkPlay 3 200 30000), (mkPlay 4 300 30000), (mkPlay 5 400 30000), (mkPlay 6 500 30000)])) (Ent.rd (hw.ents _ (List.mem_of_getElem? (i := 0) rfl))) (by decide +kernel) (by decide +kernel)) ?_)
  refine RX.cons rfl rfl (op_w (yw_streq rfl rfl rfl) rfl rfl ?_)
  refine RX.know (t := 43) (u := .bool true) rfl (congrArg Value.bool (decide_eq_true (by rw [ByteArray.toList_eq, ByteArray.toList_eq]; decide +kernel))) ?_
  refine RX.cons rfl rfl (op_w (yw_assign rfl rfl) rfl rfl ?_)
  refine RX.nil (XX.next (V' := [(1, .bool true), (2, .bool true), (3, .bool true), (4, .bool true), (5, .bool true)]) ⟨rfl, rfl, rfl, rfl, rfl, trivial⟩ ?_)
  refine CX.seq ?_
  refine CX.region ?_
  refine RX.cons rfl rfl (op_callV (v := .agg (Fct.cells (mkPlay 1 2678400 30000))) rfl rfl rfl rfl rfl ent_20 (fun w _ => w_play 1 2678400 30000) ?_)
  refine RX.cons rfl rfl (op_buildSlice rfl rfl rfl slb_22 rfl rfl (by intro v hv; simp only [List.mem_cons, List.not_mem_nil, or_false] at hv; subst hv; exact ⟨rfl, (plain_of rfl)⟩) (by decide) fun g6 => ?_)
  refine RX.cons rfl rfl (op_callE rfl rfl rfl rfl rfl ent_12 (fun w hw => w_streams ([(mkPlay 1 2678400 30000)]) (Ent.rd (hw.ents _ (List.mem_of_getElem? (i := 0) rfl))) (by decide +kernel) (hG.keep hw (by simp))) (fun y6 _ => ?_))
  refine RX.cons rfl rfl (op_w (yw_assign rfl rfl) rfl rfl ?_)
  refine RX.nil (XX.next (V' := [(1, .bool true), (2, .bool true), (3, .bool true), (4, .bool true), (5, .bool true), (6, .slice y6.1 ((streams ([(mkPlay 1 2678400 30000)])).length) y6.2)]) ⟨rfl, rfl, rfl, rfl, rfl, rfl, trivial⟩ ?_)
  refine CX.seq ?_
  refine CX.region ?_
  refine RX.cons rfl rfl (op_w (yw_move rfl rfl) rfl rfl ?_)
  refine RX.cons rfl rfl (op_w (yw_move rfl rfl) rfl rfl ?_)
  refine RX.consG rfl rfl rfl rfl rfl (op_w (yw_move rfl rfl) rfl rfl ?_)
  refine RX.cons rfl rfl (op_w (yw_pickT rfl rfl rfl) rfl rfl ?_)
  refine RX.cons rfl rfl (op_w (yw_move rfl rfl) rfl rfl ?_)
  refine RX.consG rfl rfl rfl rfl rfl (op_w (yw_move rfl rfl) rfl rfl ?_)
  refine RX.cons rfl rfl (op_w (yw_pickT rfl rfl rfl) rfl rfl ?_)
  refine RX.cons rfl rfl (op_w (yw_move rfl rfl) rfl rfl ?_)
  refine RX.consG rfl rfl rfl rfl rfl (op_w (yw_move rfl rfl) rfl rfl ?_)
  refine RX.cons rfl rfl (op_w (yw_pickT rfl rfl rfl) rfl rfl ?_)
  refine RX.cons rfl rfl (op_w (yw_move rfl rfl) rfl rfl ?_)
  refine RX.consG rfl rfl rfl rfl rfl (op_w (yw_move rfl rfl) rfl rfl ?_)
  refine RX.cons rfl rfl (op_w (yw_pickT rfl rfl rfl) rfl rfl ?_)
  refine RX.cons rfl rfl (op_w (yw_move rfl rfl) rfl rfl ?_)
  refine RX.consG rfl rfl rfl rfl rfl (op_w (yw_move rfl rfl) rfl rfl ?_)
  refine RX.consG rfl rfl rfl rfl rfl (op_w (yw_lenS rfl Tryd.underlying23 rfl) rfl rfl ?_)
  refine RX.consG rfl rfl rfl rfl rfl (op_w (yw_eql rfl rfl rfl) rfl rfl ?_)
  refine RX.know (t := 63) (u := .bool true) rfl (congrArg Value.bool (decide_eq_true (by decide +kernel))) ?_
  refine RX.cons rfl rfl (op_w (yw_pickT rfl rfl rfl) rfl rfl ?_)
  refine RX.cons rfl rfl (op_w (yw_move rfl rfl) rfl rfl ?_)
  refine RX.consG rfl rfl rfl rfl rfl (op_w (yw_move rfl rfl) rfl rfl ?_)
  refine RX.rowSome 0 rfl (by decide +kernel) (fun hA6 => ?_)
  refine RX.consG rfl rfl rfl rfl rfl (op_w (yw_index (k := 0) rfl slt_23 rfl rfl (by omega) (by decide +kernel) hA6) rfl rfl ?_)
  refine RX.consG rfl rfl rfl rfl rfl (op_w (yw_fieldAddr rfl fld_30_6 rfl) rfl rfl ?_)
  refine RX.consG rfl rfl rfl rfl rfl (op_yld (y_rowElemF (i := 0) rfl rfl one_3 rfl (map_get (x := (⟨1, 1, 2, 7, 0, 2678400, 1, 1, 1⟩ : Strm)) (by decide +kernel)) rfl) rfl rfl ?_)
  refine RX.consG rfl rfl rfl rfl rfl (op_w (yw_eql rfl rfl rfl) rfl rfl ?_)
  refine RX.know (t := 70) (u := .bool true) rfl (congrArg Value.bool (decide_eq_true (by decide +kernel))) ?_
  refine RX.cons rfl rfl (op_w (yw_pickT rfl rfl rfl) rfl rfl ?_)
  refine RX.cons rfl rfl (op_w (yw_move rfl rfl) rfl rfl ?_)
  refine RX.consG rfl rfl rfl rfl rfl (op_w (yw_move rfl rfl) rfl rfl ?_)
  refine RX.consG rfl rfl rfl rfl rfl (op_w (yw_index (k := 0) rfl slt_23 rfl rfl (by omega) (by decide +kernel) hA6) rfl rfl ?_)
  refine RX.consG rfl rfl rfl rfl rfl (op_w (yw_fieldAddr rfl fld_30_8 rfl) rfl rfl ?_)
  refine RX.consG rfl rfl rfl rfl rfl (op_yld (y_rowElemF (i := 0) rfl rfl one_3 rfl (map_get (x := (⟨1, 1, 2, 7, 0, 2678400, 1, 1, 1⟩ : Strm)) (by decide +kernel)) rfl) rfl rfl ?_)
  refine RX.consG rfl rfl rfl rfl rfl (op_w (yw_eql rfl rfl rfl) rfl rfl ?_)
  refine RX.know (t := 77) (u := .bool true) rfl (congrArg Value.bool (decide_eq_true (by decide +kernel))) ?_
  refine RX.cons rfl rfl (op_w (yw_pickT rfl rfl rfl) rfl rfl ?_)
  refine RX.cons rfl rfl (op_w (yw_move rfl rfl) rfl rfl ?_)
  refine RX.consG rfl rfl rfl rfl rfl (op_w (yw_move rfl rfl) rfl rfl ?_)
  refine RX.consG rfl rfl rfl rfl rfl (op_callE rfl rfl rfl rfl rfl ent_10 (fun w hw => w_periodF (streams ([(mkPlay 1 2678400 30000)])) 1 (Ent.rd (hw.ents _ (List.mem_of_getElem? (i := 0) rfl))) (by decide +kernel)) (fun y7 _ => ?_))
  refine RX.consG rfl rfl rfl rfl rfl (op_w (yw_lenS rfl Tryd.underlying23 rfl) rfl rfl ?_)
  refine RX.consG rfl rfl rfl rfl rfl (op_w (yw_eql rfl rfl rfl) rfl rfl ?_)
  refine RX.know (t := 83) (u := .bool true) rfl (congrArg Value.bool (decide_eq_true (by decide +kernel))) ?_
  refine RX.cons rfl rfl (op_w (yw_pickT rfl rfl rfl) rfl rfl ?_)
  refine RX.cons rfl rfl (op_w (yw_move rfl rfl) rfl rfl ?_)
  refine RX.consG rfl rfl rfl rfl rfl (op_w (yw_move rfl rfl) rfl rfl ?_)
  refine RX.consG rfl rfl rfl rfl rfl (op_callE rfl rfl rfl rfl rfl ent_10 (fun w hw => w_periodF (streams ([(mkPlay 1 2678400 30000)])) 0 (Ent.rd (hw.ents _ (List.mem_of_getElem? (i := 1) rfl))) (by decide +kernel)) (fun y8 _ => ?_))
  refine RX.consG rfl rfl rfl rfl rfl (op_w (yw_lenS rfl Tryd.underlying23 rfl) rfl rfl ?_)
  refine RX.consG rfl rfl rfl rfl rfl (op_w (yw_eql rfl rfl rfl) rfl rfl ?_)
  refine RX.know (t := 89) (u := .bool true) rfl (congrArg Value.bool (decide_eq_true (by decide +kernel))) ?_
  refine RX.cons rfl rfl (op_w (yw_pickT rfl rfl rfl) rfl rfl ?_)
  refine RX.cons rfl rfl (op_w (yw_move rfl rfl) rfl rfl ?_)
  refine RX.consG rfl rfl rfl rfl rfl (op_callV (v := .agg (Fct.cells (mkPlay 1 0 30000))) rfl rfl rfl rfl rfl ent_20 (fun w _ => w_play 1 0 30000) ?_)
  refine RX.consG rfl rfl rfl rfl rfl (op_callV (v := .bool (Fct.counts (mkPlay 1 0 30000))) rfl rfl rfl rfl rfl ent_18 (fun w _ => w_counts (mkPlay 1 0 30000)) ?_)
  refine RX.know (t := 93) (u := .bool true) rfl (congrArg Value.bool (by decide +kernel)) ?_
  refine RX.cons rfl rfl (op_w (yw_pickT rfl rfl rfl) rfl rfl ?_)
  refine RX.cons rfl rfl (op_w (yw_move rfl rfl) rfl rfl ?_)
  refine RX.consG rfl rfl rfl rfl rfl (op_callV (v := .agg (Fct.cells (mkPlay 1 0 29999))) rfl rfl rfl rfl rfl ent_20 (fun w _ => w_play 1 0 29999) ?_)
  refine RX.consG rfl rfl rfl rfl rfl (op_callV (v := .bool (Fct.counts (mkPlay 1 0 29999))) rfl rfl rfl rfl rfl ent_18 (fun w _ => w_counts (mkPlay 1 0 29999)) ?_)
  refine RX.know (t := 97) (u := .bool false) rfl (congrArg Value.bool (by decide +kernel)) ?_
  refine RX.consG rfl rfl rfl rfl rfl (op_w (yw_not rfl rfl) rfl rfl ?_)
  refine RX.cons rfl rfl (op_w (yw_pickT rfl rfl rfl) rfl rfl ?_)
  refine RX.cons rfl rfl (op_w (yw_assign rfl rfl) rfl rfl ?_)
  refine RX.nil (XX.next (V' := [(0, .bool true)]) ⟨rfl, trivial⟩ ?_)
  refine CX.ret ?_
  exact ret_tmp rfl rfl fun w1 hw => ⟨rfl, hw.sub (List.nil_sublist _)⟩

end Go.Proofs.YtmndhiaaolfepaaDoor
