/- Walks, printed by a program. -/
import Derived.Test.YtmndhiaaolfepaaDoorWalkT
namespace Go.Proofs.YtmndhiaaolfepaaDoor
set_option linter.all false
open Go Go.RowKit
set_option maxRecDepth 100000
theorem ent_14 : ∀ args w, (callFunc 14 args).run Tryd.prog w = .ok (.enter 14 args) w := enters_of Tryd.func14 (by kernel_rfl) rfl
theorem ent_15 : ∀ args w, (callFunc 15 args).run Tryd.prog w = .ok (.enter 15 args) w := enters_of Tryd.func15 (by kernel_rfl) rfl
theorem fld_30_2 : Fld Tryd.prog 30 2 2 := ⟨_, _, (Tryd.prog.info? 3).get!, Tryd.underlying30, rfl, rfl, by kernel_rfl, by decide +kernel⟩
theorem fld_30_3 : Fld Tryd.prog 30 3 3 := ⟨_, _, (Tryd.prog.info? 3).get!, Tryd.underlying30, rfl, rfl, by kernel_rfl, by decide +kernel⟩
theorem fld_30_4 : Fld Tryd.prog 30 4 4 := ⟨_, _, (Tryd.prog.info? 3).get!, Tryd.underlying30, rfl, rfl, by kernel_rfl, by decide +kernel⟩
theorem fld_30_5 : Fld Tryd.prog 30 5 5 := ⟨_, _, (Tryd.prog.info? 3).get!, Tryd.underlying30, rfl, rfl, by kernel_rfl, by decide +kernel⟩
theorem ent_16 : ∀ args w, (callFunc 16 args).run Tryd.prog w = .ok (.enter 16 args) w := enters_of Tryd.func16 (by kernel_rfl) rfl
set_option maxRecDepth 100000 in
theorem w_apart {w : World} {A : Option Addr} {cap : Nat} (fs : List Fct) (hG : Lens w) (hr : Rd w A 18 (fs.map Fct.cells)) (hn : fs.length ≤ 9223372036854775807) (hx : ∀ f ∈ fs, f.text.size ≤ 9223372036854775807) :
    Calls Tryd.prog 4 #[.slice A fs.length cap] w (fun e w' => e = .returned (.bool true) ∧ SL w [] w' []) := by
  have hgl := few_length fs
  have hdl := distinct_few fs
  have hul := streams_length (distinctF [] (fewF fs))
  have hD := distinct_of (fewF fs)
  refine calls_of_CX (O := []) (L := []) (args := [.slice A fs.length cap]) Tryd.func4 rfl (by simp [Tryd.ntmps4]) (SL.refl w) ?_
  refine CX.sub (V' := [(0, .slice A fs.length cap)]) ⟨rfl, trivial⟩ ?_
  refine CX.seq ?_
  refine CX.region ?_
  refine RX.cons rfl rfl (op_w (yw_assign rfl rfl) rfl rfl ?_)
  refine RX.nil (XX.next (V' := [(0, .slice A fs.length cap)]) ⟨rfl, trivial⟩ ?_)
  refine CX.seq ?_
  refine CX.region ?_
  refine RX.cons rfl rfl (op_callV (v := .bool true) rfl rfl rfl rfl rfl ent_8 (fun w hw => w_sane (hG.keep hw (by simp))) ?_)
  refine RX.cons rfl rfl (op_w (yw_assign rfl rfl) rfl rfl ?_)
  refine RX.nil (XX.next (V' := [(0, .slice A fs.length cap), (3, .bool true)]) ⟨rfl, rfl, trivial⟩ ?_)
  refine CX.seq ?_
  refine CX.region ?_
  refine RX.cons rfl rfl (op_w (yw_move rfl rfl) rfl rfl ?_)
  refine RX.cons rfl rfl (op_callE rfl rfl rfl rfl rfl ent_13 (fun w hw => w_few fs (hw.rd hr (by simp)) hn hx) (fun y1 _ => ?_))
  refine RX.cons rfl rfl (op_callE rfl rfl rfl rfl rfl ent_14 (fun w hw => w_distinct (fewF fs) (Ent.rd (hw.ents _ (List.mem_of_getElem? (i := 0) rfl))) (by omega)) (fun y2 _ => ?_))
  refine RX.cons rfl rfl (op_w (yw_assign rfl rfl) rfl rfl ?_)
  refine RX.nil (XX.next (V' := [(0, .slice y2.1 ((distinctF [] (fewF fs)).length) y2.2), (3, .bool true)]) ⟨rfl, rfl, trivial⟩ ?_)
  refine CX.seq ?_
  refine CX.region ?_
  refine RX.cons rfl rfl (op_w (yw_move rfl rfl) rfl rfl ?_)
  refine RX.cons rfl rfl (op_callE rfl rfl rfl rfl rfl ent_12 (fun w hw => w_streams (distinctF [] (fewF fs)) (Ent.rd (hw.ents _ (List.mem_of_getElem? (i := 0) rfl))) (by omega) (hG.keep hw (by simp))) (fun y3 _ => ?_))
  refine RX.cons rfl rfl (op_w (yw_assign rfl rfl) rfl rfl ?_)
  refine RX.nil (XX.next (V' := [(0, .slice y2.1 ((distinctF [] (fewF fs)).length) y2.2), (3, .bool true), (4, .slice y3.1 ((streams (distinctF [] (fewF fs))).length) y3.2)]) ⟨rfl, rfl, rfl, trivial⟩ ?_)
  refine CX.seq ?_
  refine CX.seq ?_
  refine CX.region ?_
  refine RX.cons rfl rfl (op_w (yw_assign rfl rfl) rfl rfl ?_)
  refine RX.nil (XX.next (V' := [(0, .slice y2.1 ((distinctF [] (fewF fs)).length) y2.2), (3, .bool true), (4, .slice y3.1 ((streams (distinctF [] (fewF fs))).length) y3.2), (5, .int .i64 0)]) ⟨rfl, rfl, rfl, rfl, trivial⟩ ?_)
  refine CX.block ?_
  refine CX.loop (σ := Nat) (fun i => [(0, .slice y2.1 ((distinctF [] (fewF fs)).length) y2.2), (3, .bool true), (4, .slice y3.1 ((streams (distinctF [] (fewF fs))).length) y3.2), (5, .int .i64 ((i : Nat) : Int))]) (fun i => [.row y3.1 y3.2 30 9 (List.map Strm.cells (streams (distinctF [] (fewF fs)))), .row y2.1 y2.2 33 18 (List.map Fct.cells (distinctF [] (fewF fs))), .row y1.1 y1.2 33 18 (List.map Fct.cells (fewF fs))]) (fun i => i ≤ (streams (distinctF [] (fewF fs))).length) (fun i => (streams (distinctF [] (fewF fs))).length - i) 0 (Nat.zero_le _) ⟨rfl, rfl, rfl, rfl, trivial⟩ rfl (fun i hI => ?_)
  have hi := hI
  refine CX.seq ?_
  refine CX.seq ?_
  refine CX.region ?_
  refine RX.cons rfl rfl (op_w (yw_move rfl rfl) rfl rfl ?_)
  refine RX.cons rfl rfl (op_w (yw_move rfl rfl) rfl rfl ?_)
  refine RX.cons rfl rfl (op_w (yw_lenS rfl Tryd.underlying23 rfl) rfl rfl ?_)
  refine RX.cons rfl rfl (op_w (yw_lss rfl rfl rfl) rfl rfl ?_)
  refine RX.nil (XX.next (V' := [(0, .slice y2.1 ((distinctF [] (fewF fs)).length) y2.2), (3, .bool true), (4, .slice y3.1 ((streams (distinctF [] (fewF fs))).length) y3.2), (5, .int .i64 ((i : Nat) : Int)), (22, .bool (decide (((i : Nat) : Int) < (((streams (distinctF [] (fewF fs))).length : Nat) : Int))))]) ⟨rfl, rfl, rfl, rfl, rfl, trivial⟩ ?_)
  refine CX.condD (p := ((i : Nat) : Int) < (((streams (distinctF [] (fewF fs))).length : Nat) : Int)) rfl (fun c22 => ?_) (fun c22 => ?_)
  · obtain ⟨s, hs⟩ := get_some (l := (streams (distinctF [] (fewF fs)))) (k := i) (by omega)
    have hh := is_her hD (List.mem_of_getElem? hs)
    obtain ⟨s', hs'⟩ : ∃ s', i = 0 ∨ (streams (distinctF [] (fewF fs)))[i - 1]? = some s' := by
      by_cases h0 : i = 0
      · exact ⟨s, .inl h0⟩
      · obtain ⟨s', h'⟩ := get_some (l := (streams (distinctF [] (fewF fs)))) (k := i - 1) (by omega)
        exact ⟨s', .inr h'⟩
    have hp : 0 < i → s'.device ≤ s.device ∧ (s'.device = s.device → (findF (distinctF [] (fewF fs)) s').stop ≤ s.second ∧ s'.session ≤ s.session) := fun h0 => apart_prev hD (by omega) (hs'.resolve_left (by omega)) hs
    have hh' : 0 < i → IsHer (distinctF [] (fewF fs)) s' := fun h0 => is_her hD (List.mem_of_getElem? (hs'.resolve_left (by omega)))
    refine CX.rowSome 0 rfl (by simp; omega) (fun hA => ?_)
    refine CX.skip (XX.next (V' := [(0, .slice y2.1 ((distinctF [] (fewF fs)).length) y2.2), (3, .bool true), (4, .slice y3.1 ((streams (distinctF [] (fewF fs))).length) y3.2), (5, .int .i64 ((i : Nat) : Int))]) ⟨rfl, rfl, rfl, rfl, trivial⟩ ?_)
    refine CX.seq ?_
    refine CX.block ?_
    refine CX.seq ?_
    refine CX.region ?_
    refine RX.cons rfl rfl (op_w (yw_move rfl rfl) rfl rfl ?_)
    refine RX.cons rfl rfl (op_w (yw_move rfl rfl) rfl rfl ?_)
    refine RX.cons rfl rfl (op_w (yw_move rfl rfl) rfl rfl ?_)
    refine RX.cons rfl rfl (op_w (yw_index (k := i) rfl slt_23 rfl rfl (by omega) (by omega) hA) rfl rfl ?_)
    refine RX.cons rfl rfl (op_yld (y_rowElem (i := 0) rfl rfl agg_30 rfl (map_get hs)) rfl rfl ?_)
    refine RX.cons rfl rfl (op_callV (v := .tuple #[.agg (Fct.cells (findF (distinctF [] (fewF fs)) s)), .bool (foundF (distinctF [] (fewF fs)) s)]) rfl rfl rfl rfl rfl ent_15 (fun w hw => w_find (distinctF [] (fewF fs)) s (Ent.rd (hw.ents _ (List.mem_of_getElem? (i := 1) rfl))) (by omega)) ?_)
    refine RX.cons rfl rfl (op_w (yw_move rfl rfl) rfl rfl ?_)
    refine RX.cons rfl rfl (op_w (yw_extract rfl rfl rfl) rfl rfl ?_)
    refine RX.cons rfl rfl (op_w (yw_extract rfl rfl rfl) rfl rfl ?_)
    refine RX.cons rfl rfl (op_alloc rfl rfl rfl zero_33 fun g6 => ?_)
    refine RX.cons rfl rfl (op_storeAll (i := 0) rfl rfl rfl rfl szt_33 rfl (plain_of rfl) rfl rfl ?_)
    refine RX.cons rfl rfl (op_w (yw_assign rfl rfl) rfl rfl ?_)
    refine RX.nil (XX.next (V' := [(0, .slice y2.1 ((distinctF [] (fewF fs)).length) y2.2), (3, .bool true), (4, .slice y3.1 ((streams (distinctF [] (fewF fs))).length) y3.2), (5, .int .i64 ((i : Nat) : Int)), (6, .pointer (some ⟨g6, 0, none⟩)), (7, .bool (foundF (distinctF [] (fewF fs)) s))]) ⟨rfl, rfl, rfl, rfl, rfl, rfl, trivial⟩ ?_)
    refine CX.seq ?_
    refine CX.region ?_
    refine RX.cons rfl rfl (op_w (yw_move rfl rfl) rfl rfl ?_)
    refine RX.cons rfl rfl (op_w (yw_move rfl rfl) rfl rfl ?_)
    refine RX.cons rfl rfl (op_w (yw_index (k := i) rfl slt_23 rfl rfl (by omega) (by omega) hA) rfl rfl ?_)
    refine RX.cons rfl rfl (op_yld (y_rowElem (i := 1) rfl rfl agg_30 rfl (map_get hs)) rfl rfl ?_)
    refine RX.cons rfl rfl (op_alloc rfl rfl rfl zero_30 fun g8 => ?_)
    refine RX.cons rfl rfl (op_storeAll (i := 0) rfl rfl rfl rfl szt_30 rfl (plain_of rfl) rfl rfl ?_)
    refine RX.nil (XX.next (V' := [(0, .slice y2.1 ((distinctF [] (fewF fs)).length) y2.2), (3, .bool true), (4, .slice y3.1 ((streams (distinctF [] (fewF fs))).length) y3.2), (5, .int .i64 ((i : Nat) : Int)), (6, .pointer (some ⟨g6, 0, none⟩)), (7, .bool (foundF (distinctF [] (fewF fs)) s)), (8, .pointer (some ⟨g8, 0, none⟩))]) ⟨rfl, rfl, rfl, rfl, rfl, rfl, rfl, trivial⟩ ?_)
    refine CX.seq ?_
    refine CX.seq ?_
    refine CX.region ?_
    refine RX.cons rfl rfl (op_w (yw_move rfl rfl) rfl rfl ?_)
    refine RX.know (t := 38) (u := .bool true) rfl (congrArg Value.bool hh.found) ?_
    refine RX.cons rfl rfl (op_w (yw_not rfl rfl) rfl rfl ?_)
    refine RX.cons rfl rfl (op_w (yw_move rfl rfl) rfl rfl ?_)
    refine RX.consG rfl rfl rfl rfl rfl (op_w (yw_fieldAddr rfl fld_30_2 rfl) rfl rfl ?_)
    refine RX.consG rfl rfl rfl rfl rfl (op_yld (y_load (i := 0) rfl rfl one_3 rfl rfl) rfl rfl ?_)
    refine RX.consG rfl rfl rfl rfl rfl (op_w (yw_fieldAddr rfl fld_33_5 rfl) rfl rfl ?_)
    refine RX.consG rfl rfl rfl rfl rfl (op_yld (y_load (i := 1) rfl rfl one_3 rfl rfl) rfl rfl ?_)
    refine RX.consG rfl rfl rfl rfl rfl (op_w (yw_neq rfl rfl rfl) rfl rfl ?_)
    refine RX.know (t := 45) (u := .bool false) rfl (congrArg Value.bool (decide_eq_false (fun h => h hh.account))) ?_
    refine RX.cons rfl rfl (op_w (yw_pickF rfl rfl rfl) rfl rfl ?_)
    refine RX.cons rfl rfl (op_w (yw_move rfl rfl) rfl rfl ?_)
    refine RX.consG rfl rfl rfl rfl rfl (op_w (yw_fieldAddr rfl fld_30_3 rfl) rfl rfl ?_)
    refine RX.consG rfl rfl rfl rfl rfl (op_yld (y_load (i := 0) rfl rfl one_3 rfl rfl) rfl rfl ?_)
    refine RX.consG rfl rfl rfl rfl rfl (op_w (yw_fieldAddr rfl fld_33_7 rfl) rfl rfl ?_)
    refine RX.consG rfl rfl rfl rfl rfl (op_yld (y_load (i := 1) rfl rfl one_3 rfl rfl) rfl rfl ?_)
    refine RX.consG rfl rfl rfl rfl rfl (op_w (yw_neq rfl rfl rfl) rfl rfl ?_)
    refine RX.know (t := 52) (u := .bool false) rfl (congrArg Value.bool (decide_eq_false (fun h => h hh.recording))) ?_
    refine RX.cons rfl rfl (op_w (yw_pickF rfl rfl rfl) rfl rfl ?_)
    refine RX.cons rfl rfl (op_w (yw_move rfl rfl) rfl rfl ?_)
    refine RX.consG rfl rfl rfl rfl rfl (op_w (yw_fieldAddr rfl fld_30_4 rfl) rfl rfl ?_)
    refine RX.consG rfl rfl rfl rfl rfl (op_yld (y_load (i := 0) rfl rfl one_3 rfl rfl) rfl rfl ?_)
    refine RX.consG rfl rfl rfl rfl rfl (op_w (yw_fieldAddr rfl fld_33_8 rfl) rfl rfl ?_)
    refine RX.consG rfl rfl rfl rfl rfl (op_yld (y_load (i := 1) rfl rfl one_3 rfl rfl) rfl rfl ?_)
    refine RX.consG rfl rfl rfl rfl rfl (op_w (yw_neq rfl rfl rfl) rfl rfl ?_)
    refine RX.know (t := 59) (u := .bool false) rfl (congrArg Value.bool (decide_eq_false (fun h => h hh.territory))) ?_
    refine RX.cons rfl rfl (op_w (yw_pickF rfl rfl rfl) rfl rfl ?_)
    refine RX.cons rfl rfl (op_w (yw_move rfl rfl) rfl rfl ?_)
    refine RX.consG rfl rfl rfl rfl rfl (op_w (yw_fieldAddr rfl fld_30_5 rfl) rfl rfl ?_)
    refine RX.consG rfl rfl rfl rfl rfl (op_yld (y_load (i := 0) rfl rfl one_3 rfl rfl) rfl rfl ?_)
    refine RX.consG rfl rfl rfl rfl rfl (op_w (yw_fieldAddr rfl fld_33_4 rfl) rfl rfl ?_)
    refine RX.consG rfl rfl rfl rfl rfl (op_yld (y_load (i := 1) rfl rfl one_3 rfl rfl) rfl rfl ?_)
    refine RX.consG rfl rfl rfl rfl rfl (op_w (yw_neq rfl rfl rfl) rfl rfl ?_)
    refine RX.know (t := 66) (u := .bool false) rfl (congrArg Value.bool (decide_eq_false (fun h => h hh.second))) ?_
    refine RX.cons rfl rfl (op_w (yw_pickF rfl rfl rfl) rfl rfl ?_)
    refine RX.cons rfl rfl (op_w (yw_move rfl rfl) rfl rfl ?_)
    refine RX.consG rfl rfl rfl rfl rfl (op_w (yw_fieldAddr rfl fld_30_7 rfl) rfl rfl ?_)
    refine RX.consG rfl rfl rfl rfl rfl (op_yld (y_load (i := 0) rfl rfl one_3 rfl rfl) rfl rfl ?_)
    refine RX.consG rfl rfl rfl rfl rfl (op_w (yw_lss rfl rfl rfl) rfl rfl ?_)
    refine RX.know (t := 71) (u := .bool false) rfl (congrArg Value.bool (decide_eq_false (by have := hh.session; omega))) ?_
    refine RX.cons rfl rfl (op_w (yw_pickF rfl rfl rfl) rfl rfl ?_)
    refine RX.nil (XX.next (V' := [(0, .slice y2.1 ((distinctF [] (fewF fs)).length) y2.2), (3, .bool true), (4, .slice y3.1 ((streams (distinctF [] (fewF fs))).length) y3.2), (5, .int .i64 ((i : Nat) : Int)), (8, .pointer (some ⟨g8, 0, none⟩)), (72, .bool false)]) ⟨rfl, rfl, rfl, rfl, rfl, rfl, trivial⟩ ?_)
    refine CX.condF rfl ?_
    refine CX.skip (XX.next (V' := [(0, .slice y2.1 ((distinctF [] (fewF fs)).length) y2.2), (3, .bool true), (4, .slice y3.1 ((streams (distinctF [] (fewF fs))).length) y3.2), (5, .int .i64 ((i : Nat) : Int)), (8, .pointer (some ⟨g8, 0, none⟩))]) ⟨rfl, rfl, rfl, rfl, rfl, trivial⟩ ?_)
    refine CX.seq ?_
    refine CX.seq ?_
    refine CX.draw 13 (by kernel_rfl) ?_
    refine DX.takeW 0 1 (by kernel_rfl) rfl rfl rfl rfl rfl (yw_move rfl rfl) ?_
    refine DX.takeW 1 3 (by kernel_rfl) rfl rfl rfl rfl rfl (yw_gtr rfl rfl rfl) ?_
    refine DX.takeW 2 7 (by kernel_rfl) rfl rfl rfl rfl rfl (yw_move rfl rfl) ?_
    refine DX.splitD (t := 75) (p := 0 < ((i : Nat) : Int)) rfl (fun d75 => ?_) (fun d75 => ?_)
    · refine DX.takeWG 3 15 (by kernel_rfl) rfl rfl rfl rfl rfl rfl rfl rfl (yw_move rfl rfl) ?_
      refine DX.takeWG 4 31 (by kernel_rfl) rfl rfl rfl rfl rfl rfl rfl rfl (yw_move rfl rfl) ?_
      refine DX.takeWG 5 63 (by kernel_rfl) rfl rfl rfl rfl rfl rfl rfl rfl (yw_sub rfl rfl rfl (by omega) (by omega)) ?_
      refine DX.takeWG 6 127 (by kernel_rfl) rfl rfl rfl rfl rfl rfl rfl rfl (yw_index (k := (i - 1)) rfl slt_23 rfl rfl (by omega) (by omega) hA) ?_
      refine DX.takeWG 7 255 (by kernel_rfl) rfl rfl rfl rfl rfl rfl rfl rfl (yw_field0 rfl fld_30_0 rfl) ?_
      refine DX.takeG 8 511 (by kernel_rfl) rfl rfl rfl rfl rfl rfl rfl rfl (List.Sublist.refl _) (y_rowElemF (j := 0) (i := 2) rfl rfl one_3 rfl (map_get (hs'.resolve_left (by omega))) rfl) ?_
      refine DX.takeWG 9 1023 (by kernel_rfl) rfl rfl rfl rfl rfl rfl rfl rfl (yw_field0 rfl fld_30_0 rfl) ?_
      refine DX.takeG 10 2047 (by kernel_rfl) rfl rfl rfl rfl rfl rfl rfl rfl (List.Sublist.refl _) (y_load (i := 0) rfl rfl one_3 rfl rfl) ?_
      refine DX.takeWG 11 4095 (by kernel_rfl) rfl rfl rfl rfl rfl rfl rfl rfl (yw_gtr rfl rfl rfl) ?_
      refine DX.know (t := 84) (u := .bool false) rfl (congrArg Value.bool (decide_eq_false (by have := (hp (by omega)).1; omega))) ?_
      refine DX.takeW 12 8191 (by kernel_rfl) rfl rfl rfl rfl rfl (yw_pickT rfl rfl rfl) ?_
      refine DX.done (by kernel_rfl) (XX.next (V' := [(0, .slice y2.1 ((distinctF [] (fewF fs)).length) y2.2), (3, .bool true), (4, .slice y3.1 ((streams (distinctF [] (fewF fs))).length) y3.2), (5, .int .i64 ((i : Nat) : Int)), (8, .pointer (some ⟨g8, 0, none⟩)), (85, .bool false)]) ⟨rfl, rfl, rfl, rfl, rfl, rfl, trivial⟩ ?_)
      refine CX.condF rfl ?_
      refine CX.skip (XX.next (V' := [(0, .slice y2.1 ((distinctF [] (fewF fs)).length) y2.2), (3, .bool true), (4, .slice y3.1 ((streams (distinctF [] (fewF fs))).length) y3.2), (5, .int .i64 ((i : Nat) : Int)), (8, .pointer (some ⟨g8, 0, none⟩))]) ⟨rfl, rfl, rfl, rfl, rfl, trivial⟩ ?_)
      refine CX.seq ?_
      refine CX.seq ?_
      refine CX.draw 13 (by kernel_rfl) ?_
      refine DX.takeW 0 1 (by kernel_rfl) rfl rfl rfl rfl rfl (yw_move rfl rfl) ?_
      refine DX.takeW 1 3 (by kernel_rfl) rfl rfl rfl rfl rfl (yw_gtr rfl rfl rfl) ?_
      refine DX.takeW 2 7 (by kernel_rfl) rfl rfl rfl rfl rfl (yw_move rfl rfl) ?_
      refine DX.splitD (t := 88) (p := 0 < ((i : Nat) : Int)) rfl (fun d88 => ?_) (fun d88 => ?_)
      · refine DX.takeWG 3 15 (by kernel_rfl) rfl rfl rfl rfl rfl rfl rfl rfl (yw_move rfl rfl) ?_
        refine DX.takeWG 4 31 (by kernel_rfl) rfl rfl rfl rfl rfl rfl rfl rfl (yw_move rfl rfl) ?_
        refine DX.takeWG 5 63 (by kernel_rfl) rfl rfl rfl rfl rfl rfl rfl rfl (yw_sub rfl rfl rfl (by omega) (by omega)) ?_
        refine DX.takeWG 6 127 (by kernel_rfl) rfl rfl rfl rfl rfl rfl rfl rfl (yw_index (k := (i - 1)) rfl slt_23 rfl rfl (by omega) (by omega) hA) ?_
        refine DX.takeWG 7 255 (by kernel_rfl) rfl rfl rfl rfl rfl rfl rfl rfl (yw_field0 rfl fld_30_0 rfl) ?_
        refine DX.takeG 8 511 (by kernel_rfl) rfl rfl rfl rfl rfl rfl rfl rfl (List.Sublist.refl _) (y_rowElemF (j := 0) (i := 2) rfl rfl one_3 rfl (map_get (hs'.resolve_left (by omega))) rfl) ?_
        refine DX.takeWG 9 1023 (by kernel_rfl) rfl rfl rfl rfl rfl rfl rfl rfl (yw_field0 rfl fld_30_0 rfl) ?_
        refine DX.takeG 10 2047 (by kernel_rfl) rfl rfl rfl rfl rfl rfl rfl rfl (List.Sublist.refl _) (y_load (i := 0) rfl rfl one_3 rfl rfl) ?_
        refine DX.takeWG 11 4095 (by kernel_rfl) rfl rfl rfl rfl rfl rfl rfl rfl (yw_eql rfl rfl rfl) ?_
        refine DX.takeW 12 8191 (by kernel_rfl) rfl rfl rfl rfl rfl (yw_pickT rfl rfl rfl) ?_
        refine DX.done (by kernel_rfl) (XX.next (V' := [(0, .slice y2.1 ((distinctF [] (fewF fs)).length) y2.2), (3, .bool true), (4, .slice y3.1 ((streams (distinctF [] (fewF fs))).length) y3.2), (5, .int .i64 ((i : Nat) : Int)), (8, .pointer (some ⟨g8, 0, none⟩)), (98, .bool (decide (s'.device = s.device)))]) ⟨rfl, rfl, rfl, rfl, rfl, rfl, trivial⟩ ?_)
        refine CX.condD (p := s'.device = s.device) rfl (fun c98 => ?_) (fun c98 => ?_)
        · obtain ⟨hq1, hq2⟩ := (hp (by omega)).2 c98
          have hr' := hh' (by omega)
          refine CX.seq ?_
          refine CX.region ?_
          refine RX.cons rfl rfl (op_w (yw_move rfl rfl) rfl rfl ?_)
          refine RX.cons rfl rfl (op_w (yw_move rfl rfl) rfl rfl ?_)
          refine RX.cons rfl rfl (op_w (yw_move rfl rfl) rfl rfl ?_)
          refine RX.cons rfl rfl (op_w (yw_sub rfl rfl rfl (by omega) (by omega)) rfl rfl ?_)
          refine RX.cons rfl rfl (op_w (yw_index (k := (i - 1)) rfl slt_23 rfl rfl (by omega) (by omega) hA) rfl rfl ?_)
          refine RX.cons rfl rfl (op_yld (y_rowElem (i := 2) rfl rfl agg_30 rfl (map_get (hs'.resolve_left (by omega)))) rfl rfl ?_)
          refine RX.cons rfl rfl (op_callV (v := .tuple #[.agg (Fct.cells (findF (distinctF [] (fewF fs)) s')), .bool (foundF (distinctF [] (fewF fs)) s')]) rfl rfl rfl rfl rfl ent_15 (fun w hw => w_find (distinctF [] (fewF fs)) s' (Ent.rd (hw.ents _ (List.mem_of_getElem? (i := 3) rfl))) (by omega)) ?_)
          refine RX.cons rfl rfl (op_w (yw_move rfl rfl) rfl rfl ?_)
          refine RX.cons rfl rfl (op_w (yw_extract rfl rfl rfl) rfl rfl ?_)
          refine RX.cons rfl rfl (op_w (yw_extract rfl rfl rfl) rfl rfl ?_)
          refine RX.cons rfl rfl (op_alloc rfl rfl rfl zero_33 fun g9 => ?_)
          refine RX.cons rfl rfl (op_storeAll (i := 0) rfl rfl rfl rfl szt_33 rfl (plain_of rfl) rfl rfl ?_)
          refine RX.cons rfl rfl (op_w (yw_assign rfl rfl) rfl rfl ?_)
          refine RX.nil (XX.next (V' := [(0, .slice y2.1 ((distinctF [] (fewF fs)).length) y2.2), (3, .bool true), (4, .slice y3.1 ((streams (distinctF [] (fewF fs))).length) y3.2), (5, .int .i64 ((i : Nat) : Int)), (8, .pointer (some ⟨g8, 0, none⟩)), (9, .pointer (some ⟨g9, 0, none⟩))]) ⟨rfl, rfl, rfl, rfl, rfl, rfl, trivial⟩ ?_)
          refine CX.seq ?_
          refine CX.draw 16 (by kernel_rfl) ?_
          refine DX.takeW 0 1 (by kernel_rfl) rfl rfl rfl rfl rfl (yw_fieldAddr rfl fld_30_5 rfl) ?_
          refine DX.take 1 3 (by kernel_rfl) rfl rfl rfl rfl rfl (List.Sublist.refl _) (y_load (i := 1) rfl rfl one_3 rfl rfl) ?_
          refine DX.take 2 7 (by kernel_rfl) rfl rfl rfl rfl rfl (List.Sublist.refl _) (y_loadA (i := 0) rfl rfl agg_33 rfl rfl) ?_
          refine DX.step 3 15 (by kernel_rfl) rfl rfl rfl (op_callV (v := .int .i64 (Fct.stop (findF (distinctF [] (fewF fs)) s'))) rfl rfl rfl rfl rfl ent_16 (fun w _ => w_refEnd (findF (distinctF [] (fewF fs)) s') hr'.s0 hr'.s1 hr'.a0 hr'.a1) (DXs.mk (List.Sublist.refl _) ?_))
          refine DX.takeW 4 31 (by kernel_rfl) rfl rfl rfl rfl rfl (yw_lss rfl rfl rfl) ?_
          refine DX.know (t := 113) (u := .bool false) rfl (congrArg Value.bool (decide_eq_false (by omega))) ?_
          refine DX.takeW 5 63 (by kernel_rfl) rfl rfl rfl rfl rfl (yw_move rfl rfl) ?_
          refine DX.takeWG 6 127 (by kernel_rfl) rfl rfl rfl rfl rfl rfl rfl rfl (yw_fieldAddr rfl fld_30_7 rfl) ?_
          refine DX.takeG 7 255 (by kernel_rfl) rfl rfl rfl rfl rfl rfl rfl rfl (List.Sublist.refl _) (y_load (i := 1) rfl rfl one_3 rfl rfl) ?_
          refine DX.takeWG 8 511 (by kernel_rfl) rfl rfl rfl rfl rfl rfl rfl rfl (yw_move rfl rfl) ?_
          refine DX.takeWG 9 1023 (by kernel_rfl) rfl rfl rfl rfl rfl rfl rfl rfl (yw_move rfl rfl) ?_
          refine DX.takeWG 10 2047 (by kernel_rfl) rfl rfl rfl rfl rfl rfl rfl rfl (yw_sub rfl rfl rfl (by omega) (by omega)) ?_
          refine DX.takeWG 11 4095 (by kernel_rfl) rfl rfl rfl rfl rfl rfl rfl rfl (yw_index (k := (i - 1)) rfl slt_23 rfl rfl (by omega) (by omega) hA) ?_
          refine DX.takeWG 12 8191 (by kernel_rfl) rfl rfl rfl rfl rfl rfl rfl rfl (yw_fieldAddr rfl fld_30_7 rfl) ?_
          refine DX.takeG 13 16383 (by kernel_rfl) rfl rfl rfl rfl rfl rfl rfl rfl (List.Sublist.refl _) (y_rowElemF (i := 3) rfl rfl one_3 rfl (map_get (hs'.resolve_left (by omega))) rfl) ?_
          refine DX.takeWG 14 32767 (by kernel_rfl) rfl rfl rfl rfl rfl rfl rfl rfl (yw_lss rfl rfl rfl) ?_
          refine DX.know (t := 123) (u := .bool false) rfl (congrArg Value.bool (decide_eq_false (by omega))) ?_
          refine DX.takeW 15 65535 (by kernel_rfl) rfl rfl rfl rfl rfl (yw_pickF rfl rfl rfl) ?_
          refine DX.done (by kernel_rfl) (XX.next (V' := [(0, .slice y2.1 ((distinctF [] (fewF fs)).length) y2.2), (3, .bool true), (4, .slice y3.1 ((streams (distinctF [] (fewF fs))).length) y3.2), (5, .int .i64 ((i : Nat) : Int)), (8, .pointer (some ⟨g8, 0, none⟩)), (124, .bool false)]) ⟨rfl, rfl, rfl, rfl, rfl, rfl, trivial⟩ ?_)
          refine CX.condF rfl ?_
          refine CX.skip (XX.next (V' := [(0, .slice y2.1 ((distinctF [] (fewF fs)).length) y2.2), (3, .bool true), (4, .slice y3.1 ((streams (distinctF [] (fewF fs))).length) y3.2), (5, .int .i64 ((i : Nat) : Int)), (8, .pointer (some ⟨g8, 0, none⟩))]) ⟨rfl, rfl, rfl, rfl, rfl, trivial⟩ ?_)
          refine CX.seq ?_
          refine CX.region ?_
          refine RX.cons rfl rfl (op_w (yw_assign rfl rfl) rfl rfl ?_)
          refine RX.nil (XX.next (V' := [(0, .slice y2.1 ((distinctF [] (fewF fs)).length) y2.2), (3, .bool true), (4, .slice y3.1 ((streams (distinctF [] (fewF fs))).length) y3.2), (5, .int .i64 ((i : Nat) : Int)), (8, .pointer (some ⟨g8, 0, none⟩)), (11, .int .i64 0)]) ⟨rfl, rfl, rfl, rfl, rfl, rfl, trivial⟩ ?_)
          refine CX.seq ?_
          refine CX.seq ?_
          refine CX.region ?_
          refine RX.cons rfl rfl (op_w (yw_assign rfl rfl) rfl rfl ?_)
          refine RX.nil (XX.next (V' := [(0, .slice y2.1 ((distinctF [] (fewF fs)).length) y2.2), (3, .bool true), (4, .slice y3.1 ((streams (distinctF [] (fewF fs))).length) y3.2), (5, .int .i64 ((i : Nat) : Int)), (8, .pointer (some ⟨g8, 0, none⟩)), (11, .int .i64 0), (12, .int .i64 0)]) ⟨rfl, rfl, rfl, rfl, rfl, rfl, rfl, trivial⟩ ?_)
          refine CX.block ?_
          refine CX.loop (σ := Nat × Nat) (fun z => [(0, .slice y2.1 ((distinctF [] (fewF fs)).length) y2.2), (3, .bool true), (4, .slice y3.1 ((streams (distinctF [] (fewF fs))).length) y3.2), (5, .int .i64 ((i : Nat) : Int)), (8, .pointer (some ⟨g8, 0, none⟩)), (11, .int .i64 ((z.2 : Nat) : Int)), (12, .int .i64 ((z.1 : Nat) : Int))]) (fun z => [.blk g9 (.cells (Fct.cells (findF (distinctF [] (fewF fs)) s')) 33 (0, 0)), .blk g8 (.cells (Strm.cells s) 30 (0, 0)), .blk g6 (.cells (Fct.cells (findF (distinctF [] (fewF fs)) s)) 33 (0, 0)), .row y3.1 y3.2 30 9 (List.map Strm.cells (streams (distinctF [] (fewF fs)))), .row y2.1 y2.2 33 18 (List.map Fct.cells (distinctF [] (fewF fs))), .row y1.1 y1.2 33 18 (List.map Fct.cells (fewF fs))]) (fun z => z.1 ≤ i + 1 ∧ z.2 = (List.take z.1 (streams (distinctF [] (fewF fs)))).countP (alike s)) (fun z => i + 1 - z.1) (0, 0) ⟨Nat.zero_le _, by simp⟩ ⟨rfl, rfl, rfl, rfl, rfl, rfl, rfl, trivial⟩ rfl (fun z hI => ?_)
          obtain ⟨k, n⟩ := z
          dsimp only at hI ⊢
          obtain ⟨hk, hn2⟩ := hI
          have hn5 := alike_few (distinctF [] (fewF fs)) s k
          rw [← hn2] at hn5
          refine CX.seq ?_
          refine CX.seq ?_
          refine CX.region ?_
          refine RX.cons rfl rfl (op_w (yw_move rfl rfl) rfl rfl ?_)
          refine RX.cons rfl rfl (op_w (yw_move rfl rfl) rfl rfl ?_)
          refine RX.cons rfl rfl (op_w (yw_leq rfl rfl rfl) rfl rfl ?_)
          refine RX.nil (XX.next (V' := [(0, .slice y2.1 ((distinctF [] (fewF fs)).length) y2.2), (3, .bool true), (4, .slice y3.1 ((streams (distinctF [] (fewF fs))).length) y3.2), (5, .int .i64 ((i : Nat) : Int)), (8, .pointer (some ⟨g8, 0, none⟩)), (11, .int .i64 ((n : Nat) : Int)), (12, .int .i64 ((k : Nat) : Int)), (127, .bool (decide (((k : Nat) : Int) ≤ ((i : Nat) : Int))))]) ⟨rfl, rfl, rfl, rfl, rfl, rfl, rfl, rfl, trivial⟩ ?_)
          refine CX.condD (p := ((k : Nat) : Int) ≤ ((i : Nat) : Int)) rfl (fun c127 => ?_) (fun c127 => ?_)
          · obtain ⟨y, hy⟩ := get_some (l := (streams (distinctF [] (fewF fs)))) (k := k) (by omega)
            refine CX.skip (XX.next (V' := [(0, .slice y2.1 ((distinctF [] (fewF fs)).length) y2.2), (3, .bool true), (4, .slice y3.1 ((streams (distinctF [] (fewF fs))).length) y3.2), (5, .int .i64 ((i : Nat) : Int)), (8, .pointer (some ⟨g8, 0, none⟩)), (11, .int .i64 ((n : Nat) : Int)), (12, .int .i64 ((k : Nat) : Int))]) ⟨rfl, rfl, rfl, rfl, rfl, rfl, rfl, trivial⟩ ?_)
            refine CX.seq ?_
            refine CX.block ?_
            refine CX.seq ?_
            refine CX.draw 28 (by kernel_rfl) ?_
            refine DX.takeW 0 1 (by kernel_rfl) rfl rfl rfl rfl rfl (yw_move rfl rfl) ?_
            refine DX.takeW 1 3 (by kernel_rfl) rfl rfl rfl rfl rfl (yw_move rfl rfl) ?_
            refine DX.takeW 2 7 (by kernel_rfl) rfl rfl rfl rfl rfl (yw_index (k := k) rfl slt_23 rfl rfl (by omega) (by omega) hA) ?_
            refine DX.takeW 3 15 (by kernel_rfl) rfl rfl rfl rfl rfl (yw_field0 rfl fld_30_0 rfl) ?_
            refine DX.take 4 31 (by kernel_rfl) rfl rfl rfl rfl rfl (List.Sublist.refl _) (y_rowElemF (j := 0) (i := 3) rfl rfl one_3 rfl (map_get hy) rfl) ?_
            refine DX.takeW 5 63 (by kernel_rfl) rfl rfl rfl rfl rfl (yw_field0 rfl fld_30_0 rfl) ?_
            refine DX.take 6 127 (by kernel_rfl) rfl rfl rfl rfl rfl (List.Sublist.refl _) (y_load (i := 1) rfl rfl one_3 rfl rfl) ?_
            refine DX.takeW 7 255 (by kernel_rfl) rfl rfl rfl rfl rfl (yw_eql rfl rfl rfl) ?_
            refine DX.takeW 8 511 (by kernel_rfl) rfl rfl rfl rfl rfl (yw_move rfl rfl) ?_
            refine DX.splitD (t := 138) (p := y.device = s.device) rfl (fun d138 => ?_) (fun d138 => ?_)
            · refine DX.takeWG 9 1023 (by kernel_rfl) rfl rfl rfl rfl rfl rfl rfl rfl (yw_move rfl rfl) ?_
              refine DX.takeWG 10 2047 (by kernel_rfl) rfl rfl rfl rfl rfl rfl rfl rfl (yw_move rfl rfl) ?_
              refine DX.takeWG 11 4095 (by kernel_rfl) rfl rfl rfl rfl rfl rfl rfl rfl (yw_index (k := k) rfl slt_23 rfl rfl (by omega) (by omega) hA) ?_
              refine DX.takeWG 12 8191 (by kernel_rfl) rfl rfl rfl rfl rfl rfl rfl rfl (yw_fieldAddr rfl fld_30_7 rfl) ?_
              refine DX.takeG 13 16383 (by kernel_rfl) rfl rfl rfl rfl rfl rfl rfl rfl (List.Sublist.refl _) (y_rowElemF (i := 3) rfl rfl one_3 rfl (map_get hy) rfl) ?_
              refine DX.takeWG 14 32767 (by kernel_rfl) rfl rfl rfl rfl rfl rfl rfl rfl (yw_fieldAddr rfl fld_30_7 rfl) ?_
              refine DX.takeG 15 65535 (by kernel_rfl) rfl rfl rfl rfl rfl rfl rfl rfl (List.Sublist.refl _) (y_load (i := 1) rfl rfl one_3 rfl rfl) ?_
              refine DX.takeWG 16 131071 (by kernel_rfl) rfl rfl rfl rfl rfl rfl rfl rfl (yw_eql rfl rfl rfl) ?_
              refine DX.takeW 17 262143 (by kernel_rfl) rfl rfl rfl rfl rfl (yw_pickT rfl rfl rfl) ?_
              refine DX.takeW 18 524287 (by kernel_rfl) rfl rfl rfl rfl rfl (yw_move rfl rfl) ?_
              refine DX.splitD (t := 148) (p := y.session = s.session) rfl (fun d148 => ?_) (fun d148 => ?_)
              · refine DX.takeWG 19 1048575 (by kernel_rfl) rfl rfl rfl rfl rfl rfl rfl rfl (yw_move rfl rfl) ?_
                refine DX.takeWG 20 2097151 (by kernel_rfl) rfl rfl rfl rfl rfl rfl rfl rfl (yw_move rfl rfl) ?_
                refine DX.takeWG 21 4194303 (by kernel_rfl) rfl rfl rfl rfl rfl rfl rfl rfl (yw_index (k := k) rfl slt_23 rfl rfl (by omega) (by omega) hA) ?_
                refine DX.takeWG 22 8388607 (by kernel_rfl) rfl rfl rfl rfl rfl rfl rfl rfl (yw_fieldAddr rfl fld_30_3 rfl) ?_
                refine DX.takeG 23 16777215 (by kernel_rfl) rfl rfl rfl rfl rfl rfl rfl rfl (List.Sublist.refl _) (y_rowElemF (i := 3) rfl rfl one_3 rfl (map_get hy) rfl) ?_
                refine DX.takeWG 24 33554431 (by kernel_rfl) rfl rfl rfl rfl rfl rfl rfl rfl (yw_fieldAddr rfl fld_30_3 rfl) ?_
                refine DX.takeG 25 67108863 (by kernel_rfl) rfl rfl rfl rfl rfl rfl rfl rfl (List.Sublist.refl _) (y_load (i := 1) rfl rfl one_3 rfl rfl) ?_
                refine DX.takeWG 26 134217727 (by kernel_rfl) rfl rfl rfl rfl rfl rfl rfl rfl (yw_eql rfl rfl rfl) ?_
                refine DX.takeW 27 268435455 (by kernel_rfl) rfl rfl rfl rfl rfl (yw_pickT rfl rfl rfl) ?_
                refine DX.done (by kernel_rfl) (XX.next (V' := [(0, .slice y2.1 ((distinctF [] (fewF fs)).length) y2.2), (3, .bool true), (4, .slice y3.1 ((streams (distinctF [] (fewF fs))).length) y3.2), (5, .int .i64 ((i : Nat) : Int)), (8, .pointer (some ⟨g8, 0, none⟩)), (11, .int .i64 ((n : Nat) : Int)), (12, .int .i64 ((k : Nat) : Int)), (157, .bool (decide (y.recording = s.recording)))]) ⟨rfl, rfl, rfl, rfl, rfl, rfl, rfl, rfl, trivial⟩ ?_)
                refine CX.condD (p := y.recording = s.recording) rfl (fun c157 => ?_) (fun c157 => ?_)
                · refine CX.region ?_
                  refine RX.cons rfl rfl (op_w (yw_move rfl rfl) rfl rfl ?_)
                  refine RX.cons rfl rfl (op_w (yw_add rfl rfl rfl (by omega) (by omega)) rfl rfl ?_)
                  refine RX.cons rfl rfl (op_w (yw_assign rfl rfl) rfl rfl ?_)
                  refine RX.nil (XX.inBlock (V' := [(0, .slice y2.1 ((distinctF [] (fewF fs)).length) y2.2), (3, .bool true), (4, .slice y3.1 ((streams (distinctF [] (fewF fs))).length) y3.2), (5, .int .i64 ((i : Nat) : Int)), (8, .pointer (some ⟨g8, 0, none⟩)), (11, .int .i64 (((n : Nat) : Int) + 1)), (12, .int .i64 ((k : Nat) : Int))]) ⟨rfl, rfl, rfl, rfl, rfl, rfl, rfl, trivial⟩ ?_)
                  refine XX.next (V' := [(0, .slice y2.1 ((distinctF [] (fewF fs)).length) y2.2), (3, .bool true), (4, .slice y3.1 ((streams (distinctF [] (fewF fs))).length) y3.2), (5, .int .i64 ((i : Nat) : Int)), (8, .pointer (some ⟨g8, 0, none⟩)), (11, .int .i64 (((n : Nat) : Int) + 1)), (12, .int .i64 ((k : Nat) : Int))]) ⟨rfl, rfl, rfl, rfl, rfl, rfl, rfl, trivial⟩ ?_
                  refine CX.region ?_
                  refine RX.cons rfl rfl (op_w (yw_move rfl rfl) rfl rfl ?_)
                  refine RX.cons rfl rfl (op_w (yw_add rfl rfl rfl (by omega) (by omega)) rfl rfl ?_)
                  refine RX.cons rfl rfl (op_w (yw_assign rfl rfl) rfl rfl ?_)
                  refine RX.nil (XX.againP ([]) (k + 1, n + 1) (by dsimp only; omega) ⟨by dsimp only; omega, by dsimp only; rw [countP_succ hy, ← hn2]; simp [d138, d148, c157, alike]⟩ ⟨rfl, rfl, rfl, rfl, rfl, rfl, rfl, trivial⟩ ((perm_pick 0 rfl).trans (List.Perm.cons _ ((perm_pick 0 rfl).trans (List.Perm.cons _ ((perm_pick 0 rfl).trans (List.Perm.cons _ ((perm_pick 0 rfl).trans (List.Perm.cons _ ((perm_pick 0 rfl).trans (List.Perm.cons _ ((perm_pick 0 rfl).trans (List.Perm.cons _ (List.Perm.refl _))))))))))))))
                · refine CX.skip (XX.inBlock (V' := [(0, .slice y2.1 ((distinctF [] (fewF fs)).length) y2.2), (3, .bool true), (4, .slice y3.1 ((streams (distinctF [] (fewF fs))).length) y3.2), (5, .int .i64 ((i : Nat) : Int)), (8, .pointer (some ⟨g8, 0, none⟩)), (11, .int .i64 ((n : Nat) : Int)), (12, .int .i64 ((k : Nat) : Int))]) ⟨rfl, rfl, rfl, rfl, rfl, rfl, rfl, trivial⟩ ?_)
                  refine XX.next (V' := [(0, .slice y2.1 ((distinctF [] (fewF fs)).length) y2.2), (3, .bool true), (4, .slice y3.1 ((streams (distinctF [] (fewF fs))).length) y3.2), (5, .int .i64 ((i : Nat) : Int)), (8, .pointer (some ⟨g8, 0, none⟩)), (11, .int .i64 ((n : Nat) : Int)), (12, .int .i64 ((k : Nat) : Int))]) ⟨rfl, rfl, rfl, rfl, rfl, rfl, rfl, trivial⟩ ?_
                  refine CX.region ?_
                  refine RX.cons rfl rfl (op_w (yw_move rfl rfl) rfl rfl ?_)
                  refine RX.cons rfl rfl (op_w (yw_add rfl rfl rfl (by omega) (by omega)) rfl rfl ?_)
                  refine RX.cons rfl rfl (op_w (yw_assign rfl rfl) rfl rfl ?_)
                  refine RX.nil (XX.againP ([]) (k + 1, n) (by dsimp only; omega) ⟨by dsimp only; omega, by dsimp only; rw [countP_succ hy, ← hn2]; simp [d138, d148, c157, alike]⟩ ⟨rfl, rfl, rfl, rfl, rfl, rfl, rfl, trivial⟩ ((perm_pick 0 rfl).trans (List.Perm.cons _ ((perm_pick 0 rfl).trans (List.Perm.cons _ ((perm_pick 0 rfl).trans (List.Perm.cons _ ((perm_pick 0 rfl).trans (List.Perm.cons _ ((perm_pick 0 rfl).trans (List.Perm.cons _ ((perm_pick 0 rfl).trans (List.Perm.cons _ (List.Perm.refl _))))))))))))))
              · refine DX.skip 19 1048575 (by kernel_rfl) rfl rfl rfl rfl rfl rfl rfl rfl ?_
                refine DX.skip 20 2097151 (by kernel_rfl) rfl rfl rfl rfl rfl rfl rfl rfl ?_
                refine DX.skip 21 4194303 (by kernel_rfl) rfl rfl rfl rfl rfl rfl rfl rfl ?_
                refine DX.skip 22 8388607 (by kernel_rfl) rfl rfl rfl rfl rfl rfl rfl rfl ?_
                refine DX.skip 23 16777215 (by kernel_rfl) rfl rfl rfl rfl rfl rfl rfl rfl ?_
                refine DX.skip 24 33554431 (by kernel_rfl) rfl rfl rfl rfl rfl rfl rfl rfl ?_
                refine DX.skip 25 67108863 (by kernel_rfl) rfl rfl rfl rfl rfl rfl rfl rfl ?_
                refine DX.skip 26 134217727 (by kernel_rfl) rfl rfl rfl rfl rfl rfl rfl rfl ?_
                refine DX.takeW 27 268435455 (by kernel_rfl) rfl rfl rfl rfl rfl (yw_pickF rfl rfl rfl) ?_
                refine DX.done (by kernel_rfl) (XX.next (V' := [(0, .slice y2.1 ((distinctF [] (fewF fs)).length) y2.2), (3, .bool true), (4, .slice y3.1 ((streams (distinctF [] (fewF fs))).length) y3.2), (5, .int .i64 ((i : Nat) : Int)), (8, .pointer (some ⟨g8, 0, none⟩)), (11, .int .i64 ((n : Nat) : Int)), (12, .int .i64 ((k : Nat) : Int)), (157, .bool false)]) ⟨rfl, rfl, rfl, rfl, rfl, rfl, rfl, rfl, trivial⟩ ?_)
                refine CX.condF rfl ?_
                refine CX.skip (XX.inBlock (V' := [(0, .slice y2.1 ((distinctF [] (fewF fs)).length) y2.2), (3, .bool true), (4, .slice y3.1 ((streams (distinctF [] (fewF fs))).length) y3.2), (5, .int .i64 ((i : Nat) : Int)), (8, .pointer (some ⟨g8, 0, none⟩)), (11, .int .i64 ((n : Nat) : Int)), (12, .int .i64 ((k : Nat) : Int))]) ⟨rfl, rfl, rfl, rfl, rfl, rfl, rfl, trivial⟩ ?_)
                refine XX.next (V' := [(0, .slice y2.1 ((distinctF [] (fewF fs)).length) y2.2), (3, .bool true), (4, .slice y3.1 ((streams (distinctF [] (fewF fs))).length) y3.2), (5, .int .i64 ((i : Nat) : Int)), (8, .pointer (some ⟨g8, 0, none⟩)), (11, .int .i64 ((n : Nat) : Int)), (12, .int .i64 ((k : Nat) : Int))]) ⟨rfl, rfl, rfl, rfl, rfl, rfl, rfl, trivial⟩ ?_
                refine CX.region ?_
                refine RX.cons rfl rfl (op_w (yw_move rfl rfl) rfl rfl ?_)
                refine RX.cons rfl rfl (op_w (yw_add rfl rfl rfl (by omega) (by omega)) rfl rfl ?_)
                refine RX.cons rfl rfl (op_w (yw_assign rfl rfl) rfl rfl ?_)
                refine RX.nil (XX.againP ([]) (k + 1, n) (by dsimp only; omega) ⟨by dsimp only; omega, by dsimp only; rw [countP_succ hy, ← hn2]; simp [d138, d148, alike]⟩ ⟨rfl, rfl, rfl, rfl, rfl, rfl, rfl, trivial⟩ ((perm_pick 0 rfl).trans (List.Perm.cons _ ((perm_pick 0 rfl).trans (List.Perm.cons _ ((perm_pick 0 rfl).trans (List.Perm.cons _ ((perm_pick 0 rfl).trans (List.Perm.cons _ ((perm_pick 0 rfl).trans (List.Perm.cons _ ((perm_pick 0 rfl).trans (List.Perm.cons _ (List.Perm.refl _))))))))))))))
            · refine DX.skip 9 1023 (by kernel_rfl) rfl rfl rfl rfl rfl rfl rfl rfl ?_
              refine DX.skip 10 2047 (by kernel_rfl) rfl rfl rfl rfl rfl rfl rfl rfl ?_
              refine DX.skip 11 4095 (by kernel_rfl) rfl rfl rfl rfl rfl rfl rfl rfl ?_
              refine DX.skip 12 8191 (by kernel_rfl) rfl rfl rfl rfl rfl rfl rfl rfl ?_
              refine DX.skip 13 16383 (by kernel_rfl) rfl rfl rfl rfl rfl rfl rfl rfl ?_
              refine DX.skip 14 32767 (by kernel_rfl) rfl rfl rfl rfl rfl rfl rfl rfl ?_
              refine DX.skip 15 65535 (by kernel_rfl) rfl rfl rfl rfl rfl rfl rfl rfl ?_
              refine DX.skip 16 131071 (by kernel_rfl) rfl rfl rfl rfl rfl rfl rfl rfl ?_
              refine DX.takeW 17 262143 (by kernel_rfl) rfl rfl rfl rfl rfl (yw_pickF rfl rfl rfl) ?_
              refine DX.takeW 18 524287 (by kernel_rfl) rfl rfl rfl rfl rfl (yw_move rfl rfl) ?_
              refine DX.skip 19 1048575 (by kernel_rfl) rfl rfl rfl rfl rfl rfl rfl rfl ?_
              refine DX.skip 20 2097151 (by kernel_rfl) rfl rfl rfl rfl rfl rfl rfl rfl ?_
              refine DX.skip 21 4194303 (by kernel_rfl) rfl rfl rfl rfl rfl rfl rfl rfl ?_
              refine DX.skip 22 8388607 (by kernel_rfl) rfl rfl rfl rfl rfl rfl rfl rfl ?_
              refine DX.skip 23 16777215 (by kernel_rfl) rfl rfl rfl rfl rfl rfl rfl rfl ?_
              refine DX.skip 24 33554431 (by kernel_rfl) rfl rfl rfl rfl rfl rfl rfl rfl ?_
              refine DX.skip 25 67108863 (by kernel_rfl) rfl rfl rfl rfl rfl rfl rfl rfl ?_
              refine DX.skip 26 134217727 (by kernel_rfl) rfl rfl rfl rfl rfl rfl rfl rfl ?_
              refine DX.takeW 27 268435455 (by kernel_rfl) rfl rfl rfl rfl rfl (yw_pickF rfl rfl rfl) ?_
              refine DX.done (by kernel_rfl) (XX.next (V' := [(0, .slice y2.1 ((distinctF [] (fewF fs)).length) y2.2), (3, .bool true), (4, .slice y3.1 ((streams (distinctF [] (fewF fs))).length) y3.2), (5, .int .i64 ((i : Nat) : Int)), (8, .pointer (some ⟨g8, 0, none⟩)), (11, .int .i64 ((n : Nat) : Int)), (12, .int .i64 ((k : Nat) : Int)), (157, .bool false)]) ⟨rfl, rfl, rfl, rfl, rfl, rfl, rfl, rfl, trivial⟩ ?_)
              refine CX.condF rfl ?_
              refine CX.skip (XX.inBlock (V' := [(0, .slice y2.1 ((distinctF [] (fewF fs)).length) y2.2), (3, .bool true), (4, .slice y3.1 ((streams (distinctF [] (fewF fs))).length) y3.2), (5, .int .i64 ((i : Nat) : Int)), (8, .pointer (some ⟨g8, 0, none⟩)), (11, .int .i64 ((n : Nat) : Int)), (12, .int .i64 ((k : Nat) : Int))]) ⟨rfl, rfl, rfl, rfl, rfl, rfl, rfl, trivial⟩ ?_)
              refine XX.next (V' := [(0, .slice y2.1 ((distinctF [] (fewF fs)).length) y2.2), (3, .bool true), (4, .slice y3.1 ((streams (distinctF [] (fewF fs))).length) y3.2), (5, .int .i64 ((i : Nat) : Int)), (8, .pointer (some ⟨g8, 0, none⟩)), (11, .int .i64 ((n : Nat) : Int)), (12, .int .i64 ((k : Nat) : Int))]) ⟨rfl, rfl, rfl, rfl, rfl, rfl, rfl, trivial⟩ ?_
              refine CX.region ?_
              refine RX.cons rfl rfl (op_w (yw_move rfl rfl) rfl rfl ?_)
              refine RX.cons rfl rfl (op_w (yw_add rfl rfl rfl (by omega) (by omega)) rfl rfl ?_)
              refine RX.cons rfl rfl (op_w (yw_assign rfl rfl) rfl rfl ?_)
              refine RX.nil (XX.againP ([]) (k + 1, n) (by dsimp only; omega) ⟨by dsimp only; omega, by dsimp only; rw [countP_succ hy, ← hn2]; simp [d138, alike]⟩ ⟨rfl, rfl, rfl, rfl, rfl, rfl, rfl, trivial⟩ ((perm_pick 0 rfl).trans (List.Perm.cons _ ((perm_pick 0 rfl).trans (List.Perm.cons _ ((perm_pick 0 rfl).trans (List.Perm.cons _ ((perm_pick 0 rfl).trans (List.Perm.cons _ ((perm_pick 0 rfl).trans (List.Perm.cons _ ((perm_pick 0 rfl).trans (List.Perm.cons _ (List.Perm.refl _))))))))))))))
          · refine CX.exit ?_
            refine XX.then_exit ?_
            refine XX.then_exit ?_
            refine XX.block_exit ?_
            refine XX.next (V' := [(0, .slice y2.1 ((distinctF [] (fewF fs)).length) y2.2), (3, .bool true), (4, .slice y3.1 ((streams (distinctF [] (fewF fs))).length) y3.2), (5, .int .i64 ((i : Nat) : Int)), (11, .int .i64 ((n : Nat) : Int))]) ⟨rfl, rfl, rfl, rfl, rfl, trivial⟩ ?_
            refine CX.seq ?_
            refine CX.region ?_
            refine RX.cons rfl rfl (op_w (yw_move rfl rfl) rfl rfl ?_)
            refine RX.cons rfl rfl (op_w (yw_gtr rfl rfl rfl) rfl rfl ?_)
            refine RX.nil (XX.next (V' := [(0, .slice y2.1 ((distinctF [] (fewF fs)).length) y2.2), (3, .bool true), (4, .slice y3.1 ((streams (distinctF [] (fewF fs))).length) y3.2), (5, .int .i64 ((i : Nat) : Int)), (161, .bool (decide (5 < ((n : Nat) : Int))))]) ⟨rfl, rfl, rfl, rfl, rfl, trivial⟩ ?_)
            refine CX.condD (p := 5 < ((n : Nat) : Int)) rfl (fun c161 => ?_) (fun c161 => ?_)
            · exfalso; omega
            · refine CX.skip (XX.inBlock (V' := [(0, .slice y2.1 ((distinctF [] (fewF fs)).length) y2.2), (3, .bool true), (4, .slice y3.1 ((streams (distinctF [] (fewF fs))).length) y3.2), (5, .int .i64 ((i : Nat) : Int))]) ⟨rfl, rfl, rfl, rfl, trivial⟩ ?_)
              refine XX.next (V' := [(0, .slice y2.1 ((distinctF [] (fewF fs)).length) y2.2), (3, .bool true), (4, .slice y3.1 ((streams (distinctF [] (fewF fs))).length) y3.2), (5, .int .i64 ((i : Nat) : Int))]) ⟨rfl, rfl, rfl, rfl, trivial⟩ ?_
              refine CX.region ?_
              refine RX.cons rfl rfl (op_w (yw_move rfl rfl) rfl rfl ?_)
              refine RX.cons rfl rfl (op_w (yw_add rfl rfl rfl (by omega) (by omega)) rfl rfl ?_)
              refine RX.cons rfl rfl (op_w (yw_assign rfl rfl) rfl rfl ?_)
              refine RX.nil (XX.againP ([.blk g9 (.cells (Fct.cells (findF (distinctF [] (fewF fs)) s')) 33 (0, 0)), .blk g8 (.cells (Strm.cells s) 30 (0, 0)), .blk g6 (.cells (Fct.cells (findF (distinctF [] (fewF fs)) s)) 33 (0, 0))]) (i + 1) (by omega) (by omega) ⟨rfl, rfl, rfl, rfl, trivial⟩ ((perm_pick 3 rfl).trans (List.Perm.cons _ ((perm_pick 3 rfl).trans (List.Perm.cons _ ((perm_pick 3 rfl).trans (List.Perm.cons _ (List.Perm.refl _))))))))
        · refine CX.skip (XX.next (V' := [(0, .slice y2.1 ((distinctF [] (fewF fs)).length) y2.2), (3, .bool true), (4, .slice y3.1 ((streams (distinctF [] (fewF fs))).length) y3.2), (5, .int .i64 ((i : Nat) : Int)), (8, .pointer (some ⟨g8, 0, none⟩))]) ⟨rfl, rfl, rfl, rfl, rfl, trivial⟩ ?_)
          refine CX.seq ?_
          refine CX.region ?_
          refine RX.cons rfl rfl (op_w (yw_assign rfl rfl) rfl rfl ?_)
          refine RX.nil (XX.next (V' := [(0, .slice y2.1 ((distinctF [] (fewF fs)).length) y2.2), (3, .bool true), (4, .slice y3.1 ((streams (distinctF [] (fewF fs))).length) y3.2), (5, .int .i64 ((i : Nat) : Int)), (8, .pointer (some ⟨g8, 0, none⟩)), (11, .int .i64 0)]) ⟨rfl, rfl, rfl, rfl, rfl, rfl, trivial⟩ ?_)
          refine CX.seq ?_
          refine CX.seq ?_
          refine CX.region ?_
          refine RX.cons rfl rfl (op_w (yw_assign rfl rfl) rfl rfl ?_)
          refine RX.nil (XX.next (V' := [(0, .slice y2.1 ((distinctF [] (fewF fs)).length) y2.2), (3, .bool true), (4, .slice y3.1 ((streams (distinctF [] (fewF fs))).length) y3.2), (5, .int .i64 ((i : Nat) : Int)), (8, .pointer (some ⟨g8, 0, none⟩)), (11, .int .i64 0), (12, .int .i64 0)]) ⟨rfl, rfl, rfl, rfl, rfl, rfl, rfl, trivial⟩ ?_)
          refine CX.block ?_
          refine CX.loop (σ := Nat × Nat) (fun z => [(0, .slice y2.1 ((distinctF [] (fewF fs)).length) y2.2), (3, .bool true), (4, .slice y3.1 ((streams (distinctF [] (fewF fs))).length) y3.2), (5, .int .i64 ((i : Nat) : Int)), (8, .pointer (some ⟨g8, 0, none⟩)), (11, .int .i64 ((z.2 : Nat) : Int)), (12, .int .i64 ((z.1 : Nat) : Int))]) (fun z => [.blk g8 (.cells (Strm.cells s) 30 (0, 0)), .blk g6 (.cells (Fct.cells (findF (distinctF [] (fewF fs)) s)) 33 (0, 0)), .row y3.1 y3.2 30 9 (List.map Strm.cells (streams (distinctF [] (fewF fs)))), .row y2.1 y2.2 33 18 (List.map Fct.cells (distinctF [] (fewF fs))), .row y1.1 y1.2 33 18 (List.map Fct.cells (fewF fs))]) (fun z => z.1 ≤ i + 1 ∧ z.2 = (List.take z.1 (streams (distinctF [] (fewF fs)))).countP (alike s)) (fun z => i + 1 - z.1) (0, 0) ⟨Nat.zero_le _, by simp⟩ ⟨rfl, rfl, rfl, rfl, rfl, rfl, rfl, trivial⟩ rfl (fun z hI => ?_)
          obtain ⟨k, n⟩ := z
          dsimp only at hI ⊢
          obtain ⟨hk, hn2⟩ := hI
          have hn5 := alike_few (distinctF [] (fewF fs)) s k
          rw [← hn2] at hn5
          refine CX.seq ?_
          refine CX.seq ?_
          refine CX.region ?_
          refine RX.cons rfl rfl (op_w (yw_move rfl rfl) rfl rfl ?_)
          refine RX.cons rfl rfl (op_w (yw_move rfl rfl) rfl rfl ?_)
          refine RX.cons rfl rfl (op_w (yw_leq rfl rfl rfl) rfl rfl ?_)
          refine RX.nil (XX.next (V' := [(0, .slice y2.1 ((distinctF [] (fewF fs)).length) y2.2), (3, .bool true), (4, .slice y3.1 ((streams (distinctF [] (fewF fs))).length) y3.2), (5, .int .i64 ((i : Nat) : Int)), (8, .pointer (some ⟨g8, 0, none⟩)), (11, .int .i64 ((n : Nat) : Int)), (12, .int .i64 ((k : Nat) : Int)), (127, .bool (decide (((k : Nat) : Int) ≤ ((i : Nat) : Int))))]) ⟨rfl, rfl, rfl, rfl, rfl, rfl, rfl, rfl, trivial⟩ ?_)
          refine CX.condD (p := ((k : Nat) : Int) ≤ ((i : Nat) : Int)) rfl (fun c127 => ?_) (fun c127 => ?_)
          · obtain ⟨y, hy⟩ := get_some (l := (streams (distinctF [] (fewF fs)))) (k := k) (by omega)
            refine CX.skip (XX.next (V' := [(0, .slice y2.1 ((distinctF [] (fewF fs)).length) y2.2), (3, .bool true), (4, .slice y3.1 ((streams (distinctF [] (fewF fs))).length) y3.2), (5, .int .i64 ((i : Nat) : Int)), (8, .pointer (some ⟨g8, 0, none⟩)), (11, .int .i64 ((n : Nat) : Int)), (12, .int .i64 ((k : Nat) : Int))]) ⟨rfl, rfl, rfl, rfl, rfl, rfl, rfl, trivial⟩ ?_)
            refine CX.seq ?_
            refine CX.block ?_
            refine CX.seq ?_
            refine CX.draw 28 (by kernel_rfl) ?_
            refine DX.takeW 0 1 (by kernel_rfl) rfl rfl rfl rfl rfl (yw_move rfl rfl) ?_
            refine DX.takeW 1 3 (by kernel_rfl) rfl rfl rfl rfl rfl (yw_move rfl rfl) ?_
            refine DX.takeW 2 7 (by kernel_rfl) rfl rfl rfl rfl rfl (yw_index (k := k) rfl slt_23 rfl rfl (by omega) (by omega) hA) ?_
            refine DX.takeW 3 15 (by kernel_rfl) rfl rfl rfl rfl rfl (yw_field0 rfl fld_30_0 rfl) ?_
            refine DX.take 4 31 (by kernel_rfl) rfl rfl rfl rfl rfl (List.Sublist.refl _) (y_rowElemF (j := 0) (i := 2) rfl rfl one_3 rfl (map_get hy) rfl) ?_
            refine DX.takeW 5 63 (by kernel_rfl) rfl rfl rfl rfl rfl (yw_field0 rfl fld_30_0 rfl) ?_
            refine DX.take 6 127 (by kernel_rfl) rfl rfl rfl rfl rfl (List.Sublist.refl _) (y_load (i := 0) rfl rfl one_3 rfl rfl) ?_
            refine DX.takeW 7 255 (by kernel_rfl) rfl rfl rfl rfl rfl (yw_eql rfl rfl rfl) ?_
            refine DX.takeW 8 511 (by kernel_rfl) rfl rfl rfl rfl rfl (yw_move rfl rfl) ?_
            refine DX.splitD (t := 138) (p := y.device = s.device) rfl (fun d138 => ?_) (fun d138 => ?_)
            · refine DX.takeWG 9 1023 (by kernel_rfl) rfl rfl rfl rfl rfl rfl rfl rfl (yw_move rfl rfl) ?_
              refine DX.takeWG 10 2047 (by kernel_rfl) rfl rfl rfl rfl rfl rfl rfl rfl (yw_move rfl rfl) ?_
              refine DX.takeWG 11 4095 (by kernel_rfl) rfl rfl rfl rfl rfl rfl rfl rfl (yw_index (k := k) rfl slt_23 rfl rfl (by omega) (by omega) hA) ?_
              refine DX.takeWG 12 8191 (by kernel_rfl) rfl rfl rfl rfl rfl rfl rfl rfl (yw_fieldAddr rfl fld_30_7 rfl) ?_
              refine DX.takeG 13 16383 (by kernel_rfl) rfl rfl rfl rfl rfl rfl rfl rfl (List.Sublist.refl _) (y_rowElemF (i := 2) rfl rfl one_3 rfl (map_get hy) rfl) ?_
              refine DX.takeWG 14 32767 (by kernel_rfl) rfl rfl rfl rfl rfl rfl rfl rfl (yw_fieldAddr rfl fld_30_7 rfl) ?_
              refine DX.takeG 15 65535 (by kernel_rfl) rfl rfl rfl rfl rfl rfl rfl rfl (List.Sublist.refl _) (y_load (i := 0) rfl rfl one_3 rfl rfl) ?_
              refine DX.takeWG 16 131071 (by kernel_rfl) rfl rfl rfl rfl rfl rfl rfl rfl (yw_eql rfl rfl rfl) ?_
              refine DX.takeW 17 262143 (by kernel_rfl) rfl rfl rfl rfl rfl (yw_pickT rfl rfl rfl) ?_
              refine DX.takeW 18 524287 (by kernel_rfl) rfl rfl rfl rfl rfl (yw_move rfl rfl) ?_
              refine DX.splitD (t := 148) (p := y.session = s.session) rfl (fun d148 => ?_) (fun d148 => ?_)
              · refine DX.takeWG 19 1048575 (by kernel_rfl) rfl rfl rfl rfl rfl rfl rfl rfl (yw_move rfl rfl) ?_
                refine DX.takeWG 20 2097151 (by kernel_rfl) rfl rfl rfl rfl rfl rfl rfl rfl (yw_move rfl rfl) ?_
                refine DX.takeWG 21 4194303 (by kernel_rfl) rfl rfl rfl rfl rfl rfl rfl rfl (yw_index (k := k) rfl slt_23 rfl rfl (by omega) (by omega) hA) ?_
                refine DX.takeWG 22 8388607 (by kernel_rfl) rfl rfl rfl rfl rfl rfl rfl rfl (yw_fieldAddr rfl fld_30_3 rfl) ?_
                refine DX.takeG 23 16777215 (by kernel_rfl) rfl rfl rfl rfl rfl rfl rfl rfl (List.Sublist.refl _) (y_rowElemF (i := 2) rfl rfl one_3 rfl (map_get hy) rfl) ?_
                refine DX.takeWG 24 33554431 (by kernel_rfl) rfl rfl rfl rfl rfl rfl rfl rfl (yw_fieldAddr rfl fld_30_3 rfl) ?_
                refine DX.takeG 25 67108863 (by kernel_rfl) rfl rfl rfl rfl rfl rfl rfl rfl (List.Sublist.refl _) (y_load (i := 0) rfl rfl one_3 rfl rfl) ?_
                refine DX.takeWG 26 134217727 (by kernel_rfl) rfl rfl rfl rfl rfl rfl rfl rfl (yw_eql rfl rfl rfl) ?_
                refine DX.takeW 27 268435455 (by kernel_rfl) rfl rfl rfl rfl rfl (yw_pickT rfl rfl rfl) ?_
                refine DX.done (by kernel_rfl) (XX.next (V' := [(0, .slice y2.1 ((distinctF [] (fewF fs)).length) y2.2), (3, .bool true), (4, .slice y3.1 ((streams (distinctF [] (fewF fs))).length) y3.2), (5, .int .i64 ((i : Nat) : Int)), (8, .pointer (some ⟨g8, 0, none⟩)), (11, .int .i64 ((n : Nat) : Int)), (12, .int .i64 ((k : Nat) : Int)), (157, .bool (decide (y.recording = s.recording)))]) ⟨rfl, rfl, rfl, rfl, rfl, rfl, rfl, rfl, trivial⟩ ?_)
                refine CX.condD (p := y.recording = s.recording) rfl (fun c157 => ?_) (fun c157 => ?_)
                · refine CX.region ?_
                  refine RX.cons rfl rfl (op_w (yw_move rfl rfl) rfl rfl ?_)
                  refine RX.cons rfl rfl (op_w (yw_add rfl rfl rfl (by omega) (by omega)) rfl rfl ?_)
                  refine RX.cons rfl rfl (op_w (yw_assign rfl rfl) rfl rfl ?_)
                  refine RX.nil (XX.inBlock (V' := [(0, .slice y2.1 ((distinctF [] (fewF fs)).length) y2.2), (3, .bool true), (4, .slice y3.1 ((streams (distinctF [] (fewF fs))).length) y3.2), (5, .int .i64 ((i : Nat) : Int)), (8, .pointer (some ⟨g8, 0, none⟩)), (11, .int .i64 (((n : Nat) : Int) + 1)), (12, .int .i64 ((k : Nat) : Int))]) ⟨rfl, rfl, rfl, rfl, rfl, rfl, rfl, trivial⟩ ?_)
                  refine XX.next (V' := [(0, .slice y2.1 ((distinctF [] (fewF fs)).length) y2.2), (3, .bool true), (4, .slice y3.1 ((streams (distinctF [] (fewF fs))).length) y3.2), (5, .int .i64 ((i : Nat) : Int)), (8, .pointer (some ⟨g8, 0, none⟩)), (11, .int .i64 (((n : Nat) : Int) + 1)), (12, .int .i64 ((k : Nat) : Int))]) ⟨rfl, rfl, rfl, rfl, rfl, rfl, rfl, trivial⟩ ?_
                  refine CX.region ?_
                  refine RX.cons rfl rfl (op_w (yw_move rfl rfl) rfl rfl ?_)
                  refine RX.cons rfl rfl (op_w (yw_add rfl rfl rfl (by omega) (by omega)) rfl rfl ?_)
                  refine RX.cons rfl rfl (op_w (yw_assign rfl rfl) rfl rfl ?_)
                  refine RX.nil (XX.againP ([]) (k + 1, n + 1) (by dsimp only; omega) ⟨by dsimp only; omega, by dsimp only; rw [countP_succ hy, ← hn2]; simp [d138, d148, c157, alike]⟩ ⟨rfl, rfl, rfl, rfl, rfl, rfl, rfl, trivial⟩ ((perm_pick 0 rfl).trans (List.Perm.cons _ ((perm_pick 0 rfl).trans (List.Perm.cons _ ((perm_pick 0 rfl).trans (List.Perm.cons _ ((perm_pick 0 rfl).trans (List.Perm.cons _ ((perm_pick 0 rfl).trans (List.Perm.cons _ (List.Perm.refl _))))))))))))
                · refine CX.skip (XX.inBlock (V' := [(0, .slice y2.1 ((distinctF [] (fewF fs)).length) y2.2), (3, .bool true), (4, .slice y3.1 ((streams (distinctF [] (fewF fs))).length) y3.2), (5, .int .i64 ((i : Nat) : Int)), (8, .pointer (some ⟨g8, 0, none⟩)), (11, .int .i64 ((n : Nat) : Int)), (12, .int .i64 ((k : Nat) : Int))]) ⟨rfl, rfl, rfl, rfl, rfl, rfl, rfl, trivial⟩ ?_)
                  refine XX.next (V' := [(0, .slice y2.1 ((distinctF [] (fewF fs)).length) y2.2), (3, .bool true), (4, .slice y3.1 ((streams (distinctF [] (fewF fs))).length) y3.2), (5, .int .i64 ((i : Nat) : Int)), (8, .pointer (some ⟨g8, 0, none⟩)), (11, .int .i64 ((n : Nat) : Int)), (12, .int .i64 ((k : Nat) : Int))]) ⟨rfl, rfl, rfl, rfl, rfl, rfl, rfl, trivial⟩ ?_
                  refine CX.region ?_
                  refine RX.cons rfl rfl (op_w (yw_move rfl rfl) rfl rfl ?_)
                  refine RX.cons rfl rfl (op_w (yw_add rfl rfl rfl (by omega) (by omega)) rfl rfl ?_)
                  refine RX.cons rfl rfl (op_w (yw_assign rfl rfl) rfl rfl ?_)
                  refine RX.nil (XX.againP ([]) (k + 1, n) (by dsimp only; omega) ⟨by dsimp only; omega, by dsimp only; rw [countP_succ hy, ← hn2]; simp [d138, d148, c157, alike]⟩ ⟨rfl, rfl, rfl, rfl, rfl, rfl, rfl, trivial⟩ ((perm_pick 0 rfl).trans (List.Perm.cons _ ((perm_pick 0 rfl).trans (List.Perm.cons _ ((perm_pick 0 rfl).trans (List.Perm.cons _ ((perm_pick 0 rfl).trans (List.Perm.cons _ ((perm_pick 0 rfl).trans (List.Perm.cons _ (List.Perm.refl _))))))))))))
              · refine DX.skip 19 1048575 (by kernel_rfl) rfl rfl rfl rfl rfl rfl rfl rfl ?_
                refine DX.skip 20 2097151 (by kernel_rfl) rfl rfl rfl rfl rfl rfl rfl rfl ?_
                refine DX.skip 21 4194303 (by kernel_rfl) rfl rfl rfl rfl rfl rfl rfl rfl ?_
                refine DX.skip 22 8388607 (by kernel_rfl) rfl rfl rfl rfl rfl rfl rfl rfl ?_
                refine DX.skip 23 16777215 (by kernel_rfl) rfl rfl rfl rfl rfl rfl rfl rfl ?_
                refine DX.skip 24 33554431 (by kernel_rfl) rfl rfl rfl rfl rfl rfl rfl rfl ?_
                refine DX.skip 25 67108863 (by kernel_rfl) rfl rfl rfl rfl rfl rfl rfl rfl ?_
                refine DX.skip 26 134217727 (by kernel_rfl) rfl rfl rfl rfl rfl rfl rfl rfl ?_
                refine DX.takeW 27 268435455 (by kernel_rfl) rfl rfl rfl rfl rfl (yw_pickF rfl rfl rfl) ?_
                refine DX.done (by kernel_rfl) (XX.next (V' := [(0, .slice y2.1 ((distinctF [] (fewF fs)).length) y2.2), (3, .bool true), (4, .slice y3.1 ((streams (distinctF [] (fewF fs))).length) y3.2), (5, .int .i64 ((i : Nat) : Int)), (8, .pointer (some ⟨g8, 0, none⟩)), (11, .int .i64 ((n : Nat) : Int)), (12, .int .i64 ((k : Nat) : Int)), (157, .bool false)]) ⟨rfl, rfl, rfl, rfl, rfl, rfl, rfl, rfl, trivial⟩ ?_)
                refine CX.condF rfl ?_
                refine CX.skip (XX.inBlock (V' := [(0, .slice y2.1 ((distinctF [] (fewF fs)).length) y2.2), (3, .bool true), (4, .slice y3.1 ((streams (distinctF [] (fewF fs))).length) y3.2), (5, .int .i64 ((i : Nat) : Int)), (8, .pointer (some ⟨g8, 0, none⟩)), (11, .int .i64 ((n : Nat) : Int)), (12, .int .i64 ((k : Nat) : Int))]) ⟨rfl, rfl, rfl, rfl, rfl, rfl, rfl, trivial⟩ ?_)
                refine XX.next (V' := [(0, .slice y2.1 ((distinctF [] (fewF fs)).length) y2.2), (3, .bool true), (4, .slice y3.1 ((streams (distinctF [] (fewF fs))).length) y3.2), (5, .int .i64 ((i : Nat) : Int)), (8, .pointer (some ⟨g8, 0, none⟩)), (11, .int .i64 ((n : Nat) : Int)), (12, .int .i64 ((k : Nat) : Int))]) ⟨rfl, rfl, rfl, rfl, rfl, rfl, rfl, trivial⟩ ?_
                refine CX.region ?_
                refine RX.cons rfl rfl (op_w (yw_move rfl rfl) rfl rfl ?_)
                refine RX.cons rfl rfl (op_w (yw_add rfl rfl rfl (by omega) (by omega)) rfl rfl ?_)
                refine RX.cons rfl rfl (op_w (yw_assign rfl rfl) rfl rfl ?_)
                refine RX.nil (XX.againP ([]) (k + 1, n) (by dsimp only; omega) ⟨by dsimp only; omega, by dsimp only; rw [countP_succ hy, ← hn2]; simp [d138, d148, alike]⟩ ⟨rfl, rfl, rfl, rfl, rfl, rfl, rfl, trivial⟩ ((perm_pick 0 rfl).trans (List.Perm.cons _ ((perm_pick 0 rfl).trans (List.Perm.cons _ ((perm_pick 0 rfl).trans (List.Perm.cons _ ((perm_pick 0 rfl).trans (List.Perm.cons _ ((perm_pick 0 rfl).trans (List.Perm.cons _ (List.Perm.refl _))))))))))))
            · refine DX.skip 9 1023 (by kernel_rfl) rfl rfl rfl rfl rfl rfl rfl rfl ?_
              refine DX.skip 10 2047 (by kernel_rfl) rfl rfl rfl rfl rfl rfl rfl rfl ?_
              refine DX.skip 11 4095 (by kernel_rfl) rfl rfl rfl rfl rfl rfl rfl rfl ?_
              refine DX.skip 12 8191 (by kernel_rfl) rfl rfl rfl rfl rfl rfl rfl rfl ?_
              refine DX.skip 13 16383 (by kernel_rfl) rfl rfl rfl rfl rfl rfl rfl rfl ?_
              refine DX.skip 14 32767 (by kernel_rfl) rfl rfl rfl rfl rfl rfl rfl rfl ?_
              refine DX.skip 15 65535 (by kernel_rfl) rfl rfl rfl rfl rfl rfl rfl rfl ?_
              refine DX.skip 16 131071 (by kernel_rfl) rfl rfl rfl rfl rfl rfl rfl rfl ?_
              refine DX.takeW 17 262143 (by kernel_rfl) rfl rfl rfl rfl rfl (yw_pickF rfl rfl rfl) ?_
              refine DX.takeW 18 524287 (by kernel_rfl) rfl rfl rfl rfl rfl (yw_move rfl rfl) ?_
              refine DX.skip 19 1048575 (by kernel_rfl) rfl rfl rfl rfl rfl rfl rfl rfl ?_
              refine DX.skip 20 2097151 (by kernel_rfl) rfl rfl rfl rfl rfl rfl rfl rfl ?_
              refine DX.skip 21 4194303 (by kernel_rfl) rfl rfl rfl rfl rfl rfl rfl rfl ?_
              refine DX.skip 22 8388607 (by kernel_rfl) rfl rfl rfl rfl rfl rfl rfl rfl ?_
              refine DX.skip 23 16777215 (by kernel_rfl) rfl rfl rfl rfl rfl rfl rfl rfl ?_
              refine DX.skip 24 33554431 (by kernel_rfl) rfl rfl rfl rfl rfl rfl rfl rfl ?_
              refine DX.skip 25 67108863 (by kernel_rfl) rfl rfl rfl rfl rfl rfl rfl rfl ?_
              refine DX.skip 26 134217727 (by kernel_rfl) rfl rfl rfl rfl rfl rfl rfl rfl ?_
              refine DX.takeW 27 268435455 (by kernel_rfl) rfl rfl rfl rfl rfl (yw_pickF rfl rfl rfl) ?_
              refine DX.done (by kernel_rfl) (XX.next (V' := [(0, .slice y2.1 ((distinctF [] (fewF fs)).length) y2.2), (3, .bool true), (4, .slice y3.1 ((streams (distinctF [] (fewF fs))).length) y3.2), (5, .int .i64 ((i : Nat) : Int)), (8, .pointer (some ⟨g8, 0, none⟩)), (11, .int .i64 ((n : Nat) : Int)), (12, .int .i64 ((k : Nat) : Int)), (157, .bool false)]) ⟨rfl, rfl, rfl, rfl, rfl, rfl, rfl, rfl, trivial⟩ ?_)
              refine CX.condF rfl ?_
              refine CX.skip (XX.inBlock (V' := [(0, .slice y2.1 ((distinctF [] (fewF fs)).length) y2.2), (3, .bool true), (4, .slice y3.1 ((streams (distinctF [] (fewF fs))).length) y3.2), (5, .int .i64 ((i : Nat) : Int)), (8, .pointer (some ⟨g8, 0, none⟩)), (11, .int .i64 ((n : Nat) : Int)), (12, .int .i64 ((k : Nat) : Int))]) ⟨rfl, rfl, rfl, rfl, rfl, rfl, rfl, trivial⟩ ?_)
              refine XX.next (V' := [(0, .slice y2.1 ((distinctF [] (fewF fs)).length) y2.2), (3, .bool true), (4, .slice y3.1 ((streams (distinctF [] (fewF fs))).length) y3.2), (5, .int .i64 ((i : Nat) : Int)), (8, .pointer (some ⟨g8, 0, none⟩)), (11, .int .i64 ((n : Nat) : Int)), (12, .int .i64 ((k : Nat) : Int))]) ⟨rfl, rfl, rfl, rfl, rfl, rfl, rfl, trivial⟩ ?_
              refine CX.region ?_
              refine RX.cons rfl rfl (op_w (yw_move rfl rfl) rfl rfl ?_)
              refine RX.cons rfl rfl (op_w (yw_add rfl rfl rfl (by omega) (by omega)) rfl rfl ?_)
              refine RX.cons rfl rfl (op_w (yw_assign rfl rfl) rfl rfl ?_)
              refine RX.nil (XX.againP ([]) (k + 1, n) (by dsimp only; omega) ⟨by dsimp only; omega, by dsimp only; rw [countP_succ hy, ← hn2]; simp [d138, alike]⟩ ⟨rfl, rfl, rfl, rfl, rfl, rfl, rfl, trivial⟩ ((perm_pick 0 rfl).trans (List.Perm.cons _ ((perm_pick 0 rfl).trans (List.Perm.cons _ ((perm_pick 0 rfl).trans (List.Perm.cons _ ((perm_pick 0 rfl).trans (List.Perm.cons _ ((perm_pick 0 rfl).trans (List.Perm.cons _ (List.Perm.refl _))))))))))))
          · refine CX.exit ?_
            refine XX.then_exit ?_
            refine XX.then_exit ?_
            refine XX.block_exit ?_
            refine XX.next (V' := [(0, .slice y2.1 ((distinctF [] (fewF fs)).length) y2.2), (3, .bool true), (4, .slice y3.1 ((streams (distinctF [] (fewF fs))).length) y3.2), (5, .int .i64 ((i : Nat) : Int)), (11, .int .i64 ((n : Nat) : Int))]) ⟨rfl, rfl, rfl, rfl, rfl, trivial⟩ ?_
            refine CX.seq ?_
            refine CX.region ?_
            refine RX.cons rfl rfl (op_w (yw_move rfl rfl) rfl rfl ?_)
            refine RX.cons rfl rfl (op_w (yw_gtr rfl rfl rfl) rfl rfl ?_)
            refine RX.nil (XX.next (V' := [(0, .slice y2.1 ((distinctF [] (fewF fs)).length) y2.2), (3, .bool true), (4, .slice y3.1 ((streams (distinctF [] (fewF fs))).length) y3.2), (5, .int .i64 ((i : Nat) : Int)), (161, .bool (decide (5 < ((n : Nat) : Int))))]) ⟨rfl, rfl, rfl, rfl, rfl, trivial⟩ ?_)
            refine CX.condD (p := 5 < ((n : Nat) : Int)) rfl (fun c161 => ?_) (fun c161 => ?_)
            · exfalso; omega
            · refine CX.skip (XX.inBlock (V' := [(0, .slice y2.1 ((distinctF [] (fewF fs)).length) y2.2), (3, .bool true), (4, .slice y3.1 ((streams (distinctF [] (fewF fs))).length) y3.2), (5, .int .i64 ((i : Nat) : Int))]) ⟨rfl, rfl, rfl, rfl, trivial⟩ ?_)
              refine XX.next (V' := [(0, .slice y2.1 ((distinctF [] (fewF fs)).length) y2.2), (3, .bool true), (4, .slice y3.1 ((streams (distinctF [] (fewF fs))).length) y3.2), (5, .int .i64 ((i : Nat) : Int))]) ⟨rfl, rfl, rfl, rfl, trivial⟩ ?_
              refine CX.region ?_
              refine RX.cons rfl rfl (op_w (yw_move rfl rfl) rfl rfl ?_)
              refine RX.cons rfl rfl (op_w (yw_add rfl rfl rfl (by omega) (by omega)) rfl rfl ?_)
              refine RX.cons rfl rfl (op_w (yw_assign rfl rfl) rfl rfl ?_)
              refine RX.nil (XX.againP ([.blk g8 (.cells (Strm.cells s) 30 (0, 0)), .blk g6 (.cells (Fct.cells (findF (distinctF [] (fewF fs)) s)) 33 (0, 0))]) (i + 1) (by omega) (by omega) ⟨rfl, rfl, rfl, rfl, trivial⟩ ((perm_pick 2 rfl).trans (List.Perm.cons _ ((perm_pick 2 rfl).trans (List.Perm.cons _ ((perm_pick 2 rfl).trans (List.Perm.cons _ (List.Perm.refl _))))))))
      · refine DX.skip 3 15 (by kernel_rfl) rfl rfl rfl rfl rfl rfl rfl rfl ?_
        refine DX.skip 4 31 (by kernel_rfl) rfl rfl rfl rfl rfl rfl rfl rfl ?_
        refine DX.skip 5 63 (by kernel_rfl) rfl rfl rfl rfl rfl rfl rfl rfl ?_
        refine DX.skip 6 127 (by kernel_rfl) rfl rfl rfl rfl rfl rfl rfl rfl ?_
        refine DX.skip 7 255 (by kernel_rfl) rfl rfl rfl rfl rfl rfl rfl rfl ?_
        refine DX.skip 8 511 (by kernel_rfl) rfl rfl rfl rfl rfl rfl rfl rfl ?_
        refine DX.skip 9 1023 (by kernel_rfl) rfl rfl rfl rfl rfl rfl rfl rfl ?_
        refine DX.skip 10 2047 (by kernel_rfl) rfl rfl rfl rfl rfl rfl rfl rfl ?_
        refine DX.skip 11 4095 (by kernel_rfl) rfl rfl rfl rfl rfl rfl rfl rfl ?_
        refine DX.takeW 12 8191 (by kernel_rfl) rfl rfl rfl rfl rfl (yw_pickF rfl rfl rfl) ?_
        refine DX.done (by kernel_rfl) (XX.next (V' := [(0, .slice y2.1 ((distinctF [] (fewF fs)).length) y2.2), (3, .bool true), (4, .slice y3.1 ((streams (distinctF [] (fewF fs))).length) y3.2), (5, .int .i64 ((i : Nat) : Int)), (8, .pointer (some ⟨g8, 0, none⟩)), (98, .bool false)]) ⟨rfl, rfl, rfl, rfl, rfl, rfl, trivial⟩ ?_)
        refine CX.condF rfl ?_
        refine CX.skip (XX.next (V' := [(0, .slice y2.1 ((distinctF [] (fewF fs)).length) y2.2), (3, .bool true), (4, .slice y3.1 ((streams (distinctF [] (fewF fs))).length) y3.2), (5, .int .i64 ((i : Nat) : Int)), (8, .pointer (some ⟨g8, 0, none⟩))]) ⟨rfl, rfl, rfl, rfl, rfl, trivial⟩ ?_)
        refine CX.seq ?_
        refine CX.region ?_
        refine RX.cons rfl rfl (op_w (yw_assign rfl rfl) rfl rfl ?_)
        refine RX.nil (XX.next (V' := [(0, .slice y2.1 ((distinctF [] (fewF fs)).length) y2.2), (3, .bool true), (4, .slice y3.1 ((streams (distinctF [] (fewF fs))).length) y3.2), (5, .int .i64 ((i : Nat) : Int)), (8, .pointer (some ⟨g8, 0, none⟩)), (11, .int .i64 0)]) ⟨rfl, rfl, rfl, rfl, rfl, rfl, trivial⟩ ?_)
        refine CX.seq ?_
        refine CX.seq ?_
        refine CX.region ?_
        refine RX.cons rfl rfl (op_w (yw_assign rfl rfl) rfl rfl ?_)
        refine RX.nil (XX.next (V' := [(0, .slice y2.1 ((distinctF [] (fewF fs)).length) y2.2), (3, .bool true), (4, .slice y3.1 ((streams (distinctF [] (fewF fs))).length) y3.2), (5, .int .i64 ((i : Nat) : Int)), (8, .pointer (some ⟨g8, 0, none⟩)), (11, .int .i64 0), (12, .int .i64 0)]) ⟨rfl, rfl, rfl, rfl, rfl, rfl, rfl, trivial⟩ ?_)
        refine CX.block ?_
        refine CX.loop (σ := Nat × Nat) (fun z => [(0, .slice y2.1 ((distinctF [] (fewF fs)).length) y2.2), (3, .bool true), (4, .slice y3.1 ((streams (distinctF [] (fewF fs))).length) y3.2), (5, .int .i64 ((i : Nat) : Int)), (8, .pointer (some ⟨g8, 0, none⟩)), (11, .int .i64 ((z.2 : Nat) : Int)), (12, .int .i64 ((z.1 : Nat) : Int))]) (fun z => [.blk g8 (.cells (Strm.cells s) 30 (0, 0)), .blk g6 (.cells (Fct.cells (findF (distinctF [] (fewF fs)) s)) 33 (0, 0)), .row y3.1 y3.2 30 9 (List.map Strm.cells (streams (distinctF [] (fewF fs)))), .row y2.1 y2.2 33 18 (List.map Fct.cells (distinctF [] (fewF fs))), .row y1.1 y1.2 33 18 (List.map Fct.cells (fewF fs))]) (fun z => z.1 ≤ i + 1 ∧ z.2 = (List.take z.1 (streams (distinctF [] (fewF fs)))).countP (alike s)) (fun z => i + 1 - z.1) (0, 0) ⟨Nat.zero_le _, by simp⟩ ⟨rfl, rfl, rfl, rfl, rfl, rfl, rfl, trivial⟩ rfl (fun z hI => ?_)
        obtain ⟨k, n⟩ := z
        dsimp only at hI ⊢
        obtain ⟨hk, hn2⟩ := hI
        have hn5 := alike_few (distinctF [] (fewF fs)) s k
        rw [← hn2] at hn5
        refine CX.seq ?_
        refine CX.seq ?_
        refine CX.region ?_
        refine RX.cons rfl rfl (op_w (yw_move rfl rfl) rfl rfl ?_)
        refine RX.cons rfl rfl (op_w (yw_move rfl rfl) rfl rfl ?_)
        refine RX.cons rfl rfl (op_w (yw_leq rfl rfl rfl) rfl rfl ?_)
        refine RX.nil (XX.next (V' := [(0, .slice y2.1 ((distinctF [] (fewF fs)).length) y2.2), (3, .bool true), (4, .slice y3.1 ((streams (distinctF [] (fewF fs))).length) y3.2), (5, .int .i64 ((i : Nat) : Int)), (8, .pointer (some ⟨g8, 0, none⟩)), (11, .int .i64 ((n : Nat) : Int)), (12, .int .i64 ((k : Nat) : Int)), (127, .bool (decide (((k : Nat) : Int) ≤ ((i : Nat) : Int))))]) ⟨rfl, rfl, rfl, rfl, rfl, rfl, rfl, rfl, trivial⟩ ?_)
        refine CX.condD (p := ((k : Nat) : Int) ≤ ((i : Nat) : Int)) rfl (fun c127 => ?_) (fun c127 => ?_)
        · obtain ⟨y, hy⟩ := get_some (l := (streams (distinctF [] (fewF fs)))) (k := k) (by omega)
          refine CX.skip (XX.next (V' := [(0, .slice y2.1 ((distinctF [] (fewF fs)).length) y2.2), (3, .bool true), (4, .slice y3.1 ((streams (distinctF [] (fewF fs))).length) y3.2), (5, .int .i64 ((i : Nat) : Int)), (8, .pointer (some ⟨g8, 0, none⟩)), (11, .int .i64 ((n : Nat) : Int)), (12, .int .i64 ((k : Nat) : Int))]) ⟨rfl, rfl, rfl, rfl, rfl, rfl, rfl, trivial⟩ ?_)
          refine CX.seq ?_
          refine CX.block ?_
          refine CX.seq ?_
          refine CX.draw 28 (by kernel_rfl) ?_
          refine DX.takeW 0 1 (by kernel_rfl) rfl rfl rfl rfl rfl (yw_move rfl rfl) ?_
          refine DX.takeW 1 3 (by kernel_rfl) rfl rfl rfl rfl rfl (yw_move rfl rfl) ?_
          refine DX.takeW 2 7 (by kernel_rfl) rfl rfl rfl rfl rfl (yw_index (k := k) rfl slt_23 rfl rfl (by omega) (by omega) hA) ?_
          refine DX.takeW 3 15 (by kernel_rfl) rfl rfl rfl rfl rfl (yw_field0 rfl fld_30_0 rfl) ?_
          refine DX.take 4 31 (by kernel_rfl) rfl rfl rfl rfl rfl (List.Sublist.refl _) (y_rowElemF (j := 0) (i := 2) rfl rfl one_3 rfl (map_get hy) rfl) ?_
          refine DX.takeW 5 63 (by kernel_rfl) rfl rfl rfl rfl rfl (yw_field0 rfl fld_30_0 rfl) ?_
          refine DX.take 6 127 (by kernel_rfl) rfl rfl rfl rfl rfl (List.Sublist.refl _) (y_load (i := 0) rfl rfl one_3 rfl rfl) ?_
          refine DX.takeW 7 255 (by kernel_rfl) rfl rfl rfl rfl rfl (yw_eql rfl rfl rfl) ?_
          refine DX.takeW 8 511 (by kernel_rfl) rfl rfl rfl rfl rfl (yw_move rfl rfl) ?_
          refine DX.splitD (t := 138) (p := y.device = s.device) rfl (fun d138 => ?_) (fun d138 => ?_)
          · refine DX.takeWG 9 1023 (by kernel_rfl) rfl rfl rfl rfl rfl rfl rfl rfl (yw_move rfl rfl) ?_
            refine DX.takeWG 10 2047 (by kernel_rfl) rfl rfl rfl rfl rfl rfl rfl rfl (yw_move rfl rfl) ?_
            refine DX.takeWG 11 4095 (by kernel_rfl) rfl rfl rfl rfl rfl rfl rfl rfl (yw_index (k := k) rfl slt_23 rfl rfl (by omega) (by omega) hA) ?_
            refine DX.takeWG 12 8191 (by kernel_rfl) rfl rfl rfl rfl rfl rfl rfl rfl (yw_fieldAddr rfl fld_30_7 rfl) ?_
            refine DX.takeG 13 16383 (by kernel_rfl) rfl rfl rfl rfl rfl rfl rfl rfl (List.Sublist.refl _) (y_rowElemF (i := 2) rfl rfl one_3 rfl (map_get hy) rfl) ?_
            refine DX.takeWG 14 32767 (by kernel_rfl) rfl rfl rfl rfl rfl rfl rfl rfl (yw_fieldAddr rfl fld_30_7 rfl) ?_
            refine DX.takeG 15 65535 (by kernel_rfl) rfl rfl rfl rfl rfl rfl rfl rfl (List.Sublist.refl _) (y_load (i := 0) rfl rfl one_3 rfl rfl) ?_
            refine DX.takeWG 16 131071 (by kernel_rfl) rfl rfl rfl rfl rfl rfl rfl rfl (yw_eql rfl rfl rfl) ?_
            refine DX.takeW 17 262143 (by kernel_rfl) rfl rfl rfl rfl rfl (yw_pickT rfl rfl rfl) ?_
            refine DX.takeW 18 524287 (by kernel_rfl) rfl rfl rfl rfl rfl (yw_move rfl rfl) ?_
            refine DX.splitD (t := 148) (p := y.session = s.session) rfl (fun d148 => ?_) (fun d148 => ?_)
            · refine DX.takeWG 19 1048575 (by kernel_rfl) rfl rfl rfl rfl rfl rfl rfl rfl (yw_move rfl rfl) ?_
              refine DX.takeWG 20 2097151 (by kernel_rfl) rfl rfl rfl rfl rfl rfl rfl rfl (yw_move rfl rfl) ?_
              refine DX.takeWG 21 4194303 (by kernel_rfl) rfl rfl rfl rfl rfl rfl rfl rfl (yw_index (k := k) rfl slt_23 rfl rfl (by omega) (by omega) hA) ?_
              refine DX.takeWG 22 8388607 (by kernel_rfl) rfl rfl rfl rfl rfl rfl rfl rfl (yw_fieldAddr rfl fld_30_3 rfl) ?_
              refine DX.takeG 23 16777215 (by kernel_rfl) rfl rfl rfl rfl rfl rfl rfl rfl (List.Sublist.refl _) (y_rowElemF (i := 2) rfl rfl one_3 rfl (map_get hy) rfl) ?_
              refine DX.takeWG 24 33554431 (by kernel_rfl) rfl rfl rfl rfl rfl rfl rfl rfl (yw_fieldAddr rfl fld_30_3 rfl) ?_
              refine DX.takeG 25 67108863 (by kernel_rfl) rfl rfl rfl rfl rfl rfl rfl rfl (List.Sublist.refl _) (y_load (i := 0) rfl rfl one_3 rfl rfl) ?_
              refine DX.takeWG 26 134217727 (by kernel_rfl) rfl rfl rfl rfl rfl rfl rfl rfl (yw_eql rfl rfl rfl) ?_
              refine DX.takeW 27 268435455 (by kernel_rfl) rfl rfl rfl rfl rfl (yw_pickT rfl rfl rfl) ?_
              refine DX.done (by kernel_rfl) (XX.next (V' := [(0, .slice y2.1 ((distinctF [] (fewF fs)).length) y2.2), (3, .bool true), (4, .slice y3.1 ((streams (distinctF [] (fewF fs))).length) y3.2), (5, .int .i64 ((i : Nat) : Int)), (8, .pointer (some ⟨g8, 0, none⟩)), (11, .int .i64 ((n : Nat) : Int)), (12, .int .i64 ((k : Nat) : Int)), (157, .bool (decide (y.recording = s.recording)))]) ⟨rfl, rfl, rfl, rfl, rfl, rfl, rfl, rfl, trivial⟩ ?_)
              refine CX.condD (p := y.recording = s.recording) rfl (fun c157 => ?_) (fun c157 => ?_)
              · refine CX.region ?_
                refine RX.cons rfl rfl (op_w (yw_move rfl rfl) rfl rfl ?_)
                refine RX.cons rfl rfl (op_w (yw_add rfl rfl rfl (by omega) (by omega)) rfl rfl ?_)
                refine RX.cons rfl rfl (op_w (yw_assign rfl rfl) rfl rfl ?_)
                refine RX.nil (XX.inBlock (V' := [(0, .slice y2.1 ((distinctF [] (fewF fs)).length) y2.2), (3, .bool true), (4, .slice y3.1 ((streams (distinctF [] (fewF fs))).length) y3.2), (5, .int .i64 ((i : Nat) : Int)), (8, .pointer (some ⟨g8, 0, none⟩)), (11, .int .i64 (((n : Nat) : Int) + 1)), (12, .int .i64 ((k : Nat) : Int))]) ⟨rfl, rfl, rfl, rfl, rfl, rfl, rfl, trivial⟩ ?_)
                refine XX.next (V' := [(0, .slice y2.1 ((distinctF [] (fewF fs)).length) y2.2), (3, .bool true), (4, .slice y3.1 ((streams (distinctF [] (fewF fs))).length) y3.2), (5, .int .i64 ((i : Nat) : Int)), (8, .pointer (some ⟨g8, 0, none⟩)), (11, .int .i64 (((n : Nat) : Int) + 1)), (12, .int .i64 ((k : Nat) : Int))]) ⟨rfl, rfl, rfl, rfl, rfl, rfl, rfl, trivial⟩ ?_
                refine CX.region ?_
                refine RX.cons rfl rfl (op_w (yw_move rfl rfl) rfl rfl ?_)
                refine RX.cons rfl rfl (op_w (yw_add rfl rfl rfl (by omega) (by omega)) rfl rfl ?_)
                refine RX.cons rfl rfl (op_w (yw_assign rfl rfl) rfl rfl ?_)
                refine RX.nil (XX.againP ([]) (k + 1, n + 1) (by dsimp only; omega) ⟨by dsimp only; omega, by dsimp only; rw [countP_succ hy, ← hn2]; simp [d138, d148, c157, alike]⟩ ⟨rfl, rfl, rfl, rfl, rfl, rfl, rfl, trivial⟩ ((perm_pick 0 rfl).trans (List.Perm.cons _ ((perm_pick 0 rfl).trans (List.Perm.cons _ ((perm_pick 0 rfl).trans (List.Perm.cons _ ((perm_pick 0 rfl).trans (List.Perm.cons _ ((perm_pick 0 rfl).trans (List.Perm.cons _ (List.Perm.refl _))))))))))))
              · refine CX.skip (XX.inBlock (V' := [(0, .slice y2.1 ((distinctF [] (fewF fs)).length) y2.2), (3, .bool true), (4, .slice y3.1 ((streams (distinctF [] (fewF fs))).length) y3.2), (5, .int .i64 ((i : Nat) : Int)), (8, .pointer (some ⟨g8, 0, none⟩)), (11, .int .i64 ((n : Nat) : Int)), (12, .int .i64 ((k : Nat) : Int))]) ⟨rfl, rfl, rfl, rfl, rfl, rfl, rfl, trivial⟩ ?_)
                refine XX.next (V' := [(0, .slice y2.1 ((distinctF [] (fewF fs)).length) y2.2), (3, .bool true), (4, .slice y3.1 ((streams (distinctF [] (fewF fs))).length) y3.2), (5, .int .i64 ((i : Nat) : Int)), (8, .pointer (some ⟨g8, 0, none⟩)), (11, .int .i64 ((n : Nat) : Int)), (12, .int .i64 ((k : Nat) : Int))]) ⟨rfl, rfl, rfl, rfl, rfl, rfl, rfl, trivial⟩ ?_
                refine CX.region ?_
                refine RX.cons rfl rfl (op_w (yw_move rfl rfl) rfl rfl ?_)
                refine RX.cons rfl rfl (op_w (yw_add rfl rfl rfl (by omega) (by omega)) rfl rfl ?_)
                refine RX.cons rfl rfl (op_w (yw_assign rfl rfl) rfl rfl ?_)
                refine RX.nil (XX.againP ([]) (k + 1, n) (by dsimp only; omega) ⟨by dsimp only; omega, by dsimp only; rw [countP_succ hy, ← hn2]; simp [d138, d148, c157, alike]⟩ ⟨rfl, rfl, rfl, rfl, rfl, rfl, rfl, trivial⟩ ((perm_pick 0 rfl).trans (List.Perm.cons _ ((perm_pick 0 rfl).trans (List.Perm.cons _ ((perm_pick 0 rfl).trans (List.Perm.cons _ ((perm_pick 0 rfl).trans (List.Perm.cons _ ((perm_pick 0 rfl).trans (List.Perm.cons _ (List.Perm.refl _))))))))))))
            · refine DX.skip 19 1048575 (by kernel_rfl) rfl rfl rfl rfl rfl rfl rfl rfl ?_
              refine DX.skip 20 2097151 (by kernel_rfl) rfl rfl rfl rfl rfl rfl rfl rfl ?_
              refine DX.skip 21 4194303 (by kernel_rfl) rfl rfl rfl rfl rfl rfl rfl rfl ?_
              refine DX.skip 22 8388607 (by kernel_rfl) rfl rfl rfl rfl rfl rfl rfl rfl ?_
              refine DX.skip 23 16777215 (by kernel_rfl) rfl rfl rfl rfl rfl rfl rfl rfl ?_
              refine DX.skip 24 33554431 (by kernel_rfl) rfl rfl rfl rfl rfl rfl rfl rfl ?_
              refine DX.skip 25 67108863 (by kernel_rfl) rfl rfl rfl rfl rfl rfl rfl rfl ?_
              refine DX.skip 26 134217727 (by kernel_rfl) rfl rfl rfl rfl rfl rfl rfl rfl ?_
              refine DX.takeW 27 268435455 (by kernel_rfl) rfl rfl rfl rfl rfl (yw_pickF rfl rfl rfl) ?_
              refine DX.done (by kernel_rfl) (XX.next (V' := [(0, .slice y2.1 ((distinctF [] (fewF fs)).length) y2.2), (3, .bool true), (4, .slice y3.1 ((streams (distinctF [] (fewF fs))).length) y3.2), (5, .int .i64 ((i : Nat) : Int)), (8, .pointer (some ⟨g8, 0, none⟩)), (11, .int .i64 ((n : Nat) : Int)), (12, .int .i64 ((k : Nat) : Int)), (157, .bool false)]) ⟨rfl, rfl, rfl, rfl, rfl, rfl, rfl, rfl, trivial⟩ ?_)
              refine CX.condF rfl ?_
              refine CX.skip (XX.inBlock (V' := [(0, .slice y2.1 ((distinctF [] (fewF fs)).length) y2.2), (3, .bool true), (4, .slice y3.1 ((streams (distinctF [] (fewF fs))).length) y3.2), (5, .int .i64 ((i : Nat) : Int)), (8, .pointer (some ⟨g8, 0, none⟩)), (11, .int .i64 ((n : Nat) : Int)), (12, .int .i64 ((k : Nat) : Int))]) ⟨rfl, rfl, rfl, rfl, rfl, rfl, rfl, trivial⟩ ?_)
              refine XX.next (V' := [(0, .slice y2.1 ((distinctF [] (fewF fs)).length) y2.2), (3, .bool true), (4, .slice y3.1 ((streams (distinctF [] (fewF fs))).length) y3.2), (5, .int .i64 ((i : Nat) : Int)), (8, .pointer (some ⟨g8, 0, none⟩)), (11, .int .i64 ((n : Nat) : Int)), (12, .int .i64 ((k : Nat) : Int))]) ⟨rfl, rfl, rfl, rfl, rfl, rfl, rfl, trivial⟩ ?_
              refine CX.region ?_
              refine RX.cons rfl rfl (op_w (yw_move rfl rfl) rfl rfl ?_)
              refine RX.cons rfl rfl (op_w (yw_add rfl rfl rfl (by omega) (by omega)) rfl rfl ?_)
              refine RX.cons rfl rfl (op_w (yw_assign rfl rfl) rfl rfl ?_)
              refine RX.nil (XX.againP ([]) (k + 1, n) (by dsimp only; omega) ⟨by dsimp only; omega, by dsimp only; rw [countP_succ hy, ← hn2]; simp [d138, d148, alike]⟩ ⟨rfl, rfl, rfl, rfl, rfl, rfl, rfl, trivial⟩ ((perm_pick 0 rfl).trans (List.Perm.cons _ ((perm_pick 0 rfl).trans (List.Perm.cons _ ((perm_pick 0 rfl).trans (List.Perm.cons _ ((perm_pick 0 rfl).trans (List.Perm.cons _ ((perm_pick 0 rfl).trans (List.Perm.cons _ (List.Perm.refl _))))))))))))
          · refine DX.skip 9 1023 (by kernel_rfl) rfl rfl rfl rfl rfl rfl rfl rfl ?_
            refine DX.skip 10 2047 (by kernel_rfl) rfl rfl rfl rfl rfl rfl rfl rfl ?_
            refine DX.skip 11 4095 (by kernel_rfl) rfl rfl rfl rfl rfl rfl rfl rfl ?_
            refine DX.skip 12 8191 (by kernel_rfl) rfl rfl rfl rfl rfl rfl rfl rfl ?_
            refine DX.skip 13 16383 (by kernel_rfl) rfl rfl rfl rfl rfl rfl rfl rfl ?_
            refine DX.skip 14 32767 (by kernel_rfl) rfl rfl rfl rfl rfl rfl rfl rfl ?_
            refine DX.skip 15 65535 (by kernel_rfl) rfl rfl rfl rfl rfl rfl rfl rfl ?_
            refine DX.skip 16 131071 (by kernel_rfl) rfl rfl rfl rfl rfl rfl rfl rfl ?_
            refine DX.takeW 17 262143 (by kernel_rfl) rfl rfl rfl rfl rfl (yw_pickF rfl rfl rfl) ?_
            refine DX.takeW 18 524287 (by kernel_rfl) rfl rfl rfl rfl rfl (yw_move rfl rfl) ?_
            refine DX.skip 19 1048575 (by kernel_rfl) rfl rfl rfl rfl rfl rfl rfl rfl ?_
            refine DX.skip 20 2097151 (by kernel_rfl) rfl rfl rfl rfl rfl rfl rfl rfl ?_
            refine DX.skip 21 4194303 (by kernel_rfl) rfl rfl rfl rfl rfl rfl rfl rfl ?_
            refine DX.skip 22 8388607 (by kernel_rfl) rfl rfl rfl rfl rfl rfl rfl rfl ?_
            refine DX.skip 23 16777215 (by kernel_rfl) rfl rfl rfl rfl rfl rfl rfl rfl ?_
            refine DX.skip 24 33554431 (by kernel_rfl) rfl rfl rfl rfl rfl rfl rfl rfl ?_
            refine DX.skip 25 67108863 (by kernel_rfl) rfl rfl rfl rfl rfl rfl rfl rfl ?_
            refine DX.skip 26 134217727 (by kernel_rfl) rfl rfl rfl rfl rfl rfl rfl rfl ?_
            refine DX.takeW 27 268435455 (by kernel_rfl) rfl rfl rfl rfl rfl (yw_pickF rfl rfl rfl) ?_
            refine DX.done (by kernel_rfl) (XX.next (V' := [(0, .slice y2.1 ((distinctF [] (fewF fs)).length) y2.2), (3, .bool true), (4, .slice y3.1 ((streams (distinctF [] (fewF fs))).length) y3.2), (5, .int .i64 ((i : Nat) : Int)), (8, .pointer (some ⟨g8, 0, none⟩)), (11, .int .i64 ((n : Nat) : Int)), (12, .int .i64 ((k : Nat) : Int)), (157, .bool false)]) ⟨rfl, rfl, rfl, rfl, rfl, rfl, rfl, rfl, trivial⟩ ?_)
            refine CX.condF rfl ?_
            refine CX.skip (XX.inBlock (V' := [(0, .slice y2.1 ((distinctF [] (fewF fs)).length) y2.2), (3, .bool true), (4, .slice y3.1 ((streams (distinctF [] (fewF fs))).length) y3.2), (5, .int .i64 ((i : Nat) : Int)), (8, .pointer (some ⟨g8, 0, none⟩)), (11, .int .i64 ((n : Nat) : Int)), (12, .int .i64 ((k : Nat) : Int))]) ⟨rfl, rfl, rfl, rfl, rfl, rfl, rfl, trivial⟩ ?_)
            refine XX.next (V' := [(0, .slice y2.1 ((distinctF [] (fewF fs)).length) y2.2), (3, .bool true), (4, .slice y3.1 ((streams (distinctF [] (fewF fs))).length) y3.2), (5, .int .i64 ((i : Nat) : Int)), (8, .pointer (some ⟨g8, 0, none⟩)), (11, .int .i64 ((n : Nat) : Int)), (12, .int .i64 ((k : Nat) : Int))]) ⟨rfl, rfl, rfl, rfl, rfl, rfl, rfl, trivial⟩ ?_
            refine CX.region ?_
            refine RX.cons rfl rfl (op_w (yw_move rfl rfl) rfl rfl ?_)
            refine RX.cons rfl rfl (op_w (yw_add rfl rfl rfl (by omega) (by omega)) rfl rfl ?_)
            refine RX.cons rfl rfl (op_w (yw_assign rfl rfl) rfl rfl ?_)
            refine RX.nil (XX.againP ([]) (k + 1, n) (by dsimp only; omega) ⟨by dsimp only; omega, by dsimp only; rw [countP_succ hy, ← hn2]; simp [d138, alike]⟩ ⟨rfl, rfl, rfl, rfl, rfl, rfl, rfl, trivial⟩ ((perm_pick 0 rfl).trans (List.Perm.cons _ ((perm_pick 0 rfl).trans (List.Perm.cons _ ((perm_pick 0 rfl).trans (List.Perm.cons _ ((perm_pick 0 rfl).trans (List.Perm.cons _ ((perm_pick 0 rfl).trans (List.Perm.cons _ (List.Perm.refl _))))))))))))
        · refine CX.exit ?_
          refine XX.then_exit ?_
          refine XX.then_exit ?_
          refine XX.block_exit ?_
          refine XX.next (V' := [(0, .slice y2.1 ((distinctF [] (fewF fs)).length) y2.2), (3, .bool true), (4, .slice y3.1 ((streams (distinctF [] (fewF fs))).length) y3.2), (5, .int .i64 ((i : Nat) : Int)), (11, .int .i64 ((n : Nat) : Int))]) ⟨rfl, rfl, rfl, rfl, rfl, trivial⟩ ?_
          refine CX.seq ?_
          refine CX.region ?_
          refine RX.cons rfl rfl (op_w (yw_move rfl rfl) rfl rfl ?_)
          refine RX.cons rfl rfl (op_w (yw_gtr rfl rfl rfl) rfl rfl ?_)
          refine RX.nil (XX.next (V' := [(0, .slice y2.1 ((distinctF [] (fewF fs)).length) y2.2), (3, .bool true), (4, .slice y3.1 ((streams (distinctF [] (fewF fs))).length) y3.2), (5, .int .i64 ((i : Nat) : Int)), (161, .bool (decide (5 < ((n : Nat) : Int))))]) ⟨rfl, rfl, rfl, rfl, rfl, trivial⟩ ?_)
          refine CX.condD (p := 5 < ((n : Nat) : Int)) rfl (fun c161 => ?_) (fun c161 => ?_)
          · exfalso; omega
          · refine CX.skip (XX.inBlock (V' := [(0, .slice y2.1 ((distinctF [] (fewF fs)).length) y2.2), (3, .bool true), (4, .slice y3.1 ((streams (distinctF [] (fewF fs))).length) y3.2), (5, .int .i64 ((i : Nat) : Int))]) ⟨rfl, rfl, rfl, rfl, trivial⟩ ?_)
            refine XX.next (V' := [(0, .slice y2.1 ((distinctF [] (fewF fs)).length) y2.2), (3, .bool true), (4, .slice y3.1 ((streams (distinctF [] (fewF fs))).length) y3.2), (5, .int .i64 ((i : Nat) : Int))]) ⟨rfl, rfl, rfl, rfl, trivial⟩ ?_
            refine CX.region ?_
            refine RX.cons rfl rfl (op_w (yw_move rfl rfl) rfl rfl ?_)
            refine RX.cons rfl rfl (op_w (yw_add rfl rfl rfl (by omega) (by omega)) rfl rfl ?_)
            refine RX.cons rfl rfl (op_w (yw_assign rfl rfl) rfl rfl ?_)
            refine RX.nil (XX.againP ([.blk g8 (.cells (Strm.cells s) 30 (0, 0)), .blk g6 (.cells (Fct.cells (findF (distinctF [] (fewF fs)) s)) 33 (0, 0))]) (i + 1) (by omega) (by omega) ⟨rfl, rfl, rfl, rfl, trivial⟩ ((perm_pick 2 rfl).trans (List.Perm.cons _ ((perm_pick 2 rfl).trans (List.Perm.cons _ ((perm_pick 2 rfl).trans (List.Perm.cons _ (List.Perm.refl _))))))))
    · refine DX.skip 3 15 (by kernel_rfl) rfl rfl rfl rfl rfl rfl rfl rfl ?_
      refine DX.skip 4 31 (by kernel_rfl) rfl rfl rfl rfl rfl rfl rfl rfl ?_
      refine DX.skip 5 63 (by kernel_rfl) rfl rfl rfl rfl rfl rfl rfl rfl ?_
      refine DX.skip 6 127 (by kernel_rfl) rfl rfl rfl rfl rfl rfl rfl rfl ?_
      refine DX.skip 7 255 (by kernel_rfl) rfl rfl rfl rfl rfl rfl rfl rfl ?_
      refine DX.skip 8 511 (by kernel_rfl) rfl rfl rfl rfl rfl rfl rfl rfl ?_
      refine DX.skip 9 1023 (by kernel_rfl) rfl rfl rfl rfl rfl rfl rfl rfl ?_
      refine DX.skip 10 2047 (by kernel_rfl) rfl rfl rfl rfl rfl rfl rfl rfl ?_
      refine DX.skip 11 4095 (by kernel_rfl) rfl rfl rfl rfl rfl rfl rfl rfl ?_
      refine DX.takeW 12 8191 (by kernel_rfl) rfl rfl rfl rfl rfl (yw_pickF rfl rfl rfl) ?_
      refine DX.done (by kernel_rfl) (XX.next (V' := [(0, .slice y2.1 ((distinctF [] (fewF fs)).length) y2.2), (3, .bool true), (4, .slice y3.1 ((streams (distinctF [] (fewF fs))).length) y3.2), (5, .int .i64 ((i : Nat) : Int)), (8, .pointer (some ⟨g8, 0, none⟩)), (85, .bool false)]) ⟨rfl, rfl, rfl, rfl, rfl, rfl, trivial⟩ ?_)
      refine CX.condF rfl ?_
      refine CX.skip (XX.next (V' := [(0, .slice y2.1 ((distinctF [] (fewF fs)).length) y2.2), (3, .bool true), (4, .slice y3.1 ((streams (distinctF [] (fewF fs))).length) y3.2), (5, .int .i64 ((i : Nat) : Int)), (8, .pointer (some ⟨g8, 0, none⟩))]) ⟨rfl, rfl, rfl, rfl, rfl, trivial⟩ ?_)
      refine CX.seq ?_
      refine CX.seq ?_
      refine CX.draw 13 (by kernel_rfl) ?_
      refine DX.takeW 0 1 (by kernel_rfl) rfl rfl rfl rfl rfl (yw_move rfl rfl) ?_
      refine DX.takeW 1 3 (by kernel_rfl) rfl rfl rfl rfl rfl (yw_gtr rfl rfl rfl) ?_
      refine DX.takeW 2 7 (by kernel_rfl) rfl rfl rfl rfl rfl (yw_move rfl rfl) ?_
      refine DX.splitD (t := 88) (p := 0 < ((i : Nat) : Int)) rfl (fun d88 => ?_) (fun d88 => ?_)
      · refine DX.takeWG 3 15 (by kernel_rfl) rfl rfl rfl rfl rfl rfl rfl rfl (yw_move rfl rfl) ?_
        refine DX.takeWG 4 31 (by kernel_rfl) rfl rfl rfl rfl rfl rfl rfl rfl (yw_move rfl rfl) ?_
        refine DX.takeWG 5 63 (by kernel_rfl) rfl rfl rfl rfl rfl rfl rfl rfl (yw_sub rfl rfl rfl (by omega) (by omega)) ?_
        refine DX.takeWG 6 127 (by kernel_rfl) rfl rfl rfl rfl rfl rfl rfl rfl (yw_index (k := (i - 1)) rfl slt_23 rfl rfl (by omega) (by omega) hA) ?_
        refine DX.takeWG 7 255 (by kernel_rfl) rfl rfl rfl rfl rfl rfl rfl rfl (yw_field0 rfl fld_30_0 rfl) ?_
        refine DX.takeG 8 511 (by kernel_rfl) rfl rfl rfl rfl rfl rfl rfl rfl (List.Sublist.refl _) (y_rowElemF (j := 0) (i := 2) rfl rfl one_3 rfl (map_get (hs'.resolve_left (by omega))) rfl) ?_
        refine DX.takeWG 9 1023 (by kernel_rfl) rfl rfl rfl rfl rfl rfl rfl rfl (yw_field0 rfl fld_30_0 rfl) ?_
        refine DX.takeG 10 2047 (by kernel_rfl) rfl rfl rfl rfl rfl rfl rfl rfl (List.Sublist.refl _) (y_load (i := 0) rfl rfl one_3 rfl rfl) ?_
        refine DX.takeWG 11 4095 (by kernel_rfl) rfl rfl rfl rfl rfl rfl rfl rfl (yw_eql rfl rfl rfl) ?_
        refine DX.takeW 12 8191 (by kernel_rfl) rfl rfl rfl rfl rfl (yw_pickT rfl rfl rfl) ?_
        refine DX.done (by kernel_rfl) (XX.next (V' := [(0, .slice y2.1 ((distinctF [] (fewF fs)).length) y2.2), (3, .bool true), (4, .slice y3.1 ((streams (distinctF [] (fewF fs))).length) y3.2), (5, .int .i64 ((i : Nat) : Int)), (8, .pointer (some ⟨g8, 0, none⟩)), (98, .bool (decide (s'.device = s.device)))]) ⟨rfl, rfl, rfl, rfl, rfl, rfl, trivial⟩ ?_)
        refine CX.condD (p := s'.device = s.device) rfl (fun c98 => ?_) (fun c98 => ?_)
        · obtain ⟨hq1, hq2⟩ := (hp (by omega)).2 c98
          have hr' := hh' (by omega)
          refine CX.seq ?_
          refine CX.region ?_
          refine RX.cons rfl rfl (op_w (yw_move rfl rfl) rfl rfl ?_)
          refine RX.cons rfl rfl (op_w (yw_move rfl rfl) rfl rfl ?_)
          refine RX.cons rfl rfl (op_w (yw_move rfl rfl) rfl rfl ?_)
          refine RX.cons rfl rfl (op_w (yw_sub rfl rfl rfl (by omega) (by omega)) rfl rfl ?_)
          refine RX.cons rfl rfl (op_w (yw_index (k := (i - 1)) rfl slt_23 rfl rfl (by omega) (by omega) hA) rfl rfl ?_)
          refine RX.cons rfl rfl (op_yld (y_rowElem (i := 2) rfl rfl agg_30 rfl (map_get (hs'.resolve_left (by omega)))) rfl rfl ?_)
          refine RX.cons rfl rfl (op_callV (v := .tuple #[.agg (Fct.cells (findF (distinctF [] (fewF fs)) s')), .bool (foundF (distinctF [] (fewF fs)) s')]) rfl rfl rfl rfl rfl ent_15 (fun w hw => w_find (distinctF [] (fewF fs)) s' (Ent.rd (hw.ents _ (List.mem_of_getElem? (i := 3) rfl))) (by omega)) ?_)
          refine RX.cons rfl rfl (op_w (yw_move rfl rfl) rfl rfl ?_)
          refine RX.cons rfl rfl (op_w (yw_extract rfl rfl rfl) rfl rfl ?_)
          refine RX.cons rfl rfl (op_w (yw_extract rfl rfl rfl) rfl rfl ?_)
          refine RX.cons rfl rfl (op_alloc rfl rfl rfl zero_33 fun g9 => ?_)
          refine RX.cons rfl rfl (op_storeAll (i := 0) rfl rfl rfl rfl szt_33 rfl (plain_of rfl) rfl rfl ?_)
          refine RX.cons rfl rfl (op_w (yw_assign rfl rfl) rfl rfl ?_)
          refine RX.nil (XX.next (V' := [(0, .slice y2.1 ((distinctF [] (fewF fs)).length) y2.2), (3, .bool true), (4, .slice y3.1 ((streams (distinctF [] (fewF fs))).length) y3.2), (5, .int .i64 ((i : Nat) : Int)), (8, .pointer (some ⟨g8, 0, none⟩)), (9, .pointer (some ⟨g9, 0, none⟩))]) ⟨rfl, rfl, rfl, rfl, rfl, rfl, trivial⟩ ?_)
          refine CX.seq ?_
          refine CX.draw 16 (by kernel_rfl) ?_
          refine DX.takeW 0 1 (by kernel_rfl) rfl rfl rfl rfl rfl (yw_fieldAddr rfl fld_30_5 rfl) ?_
          refine DX.take 1 3 (by kernel_rfl) rfl rfl rfl rfl rfl (List.Sublist.refl _) (y_load (i := 1) rfl rfl one_3 rfl rfl) ?_
          refine DX.take 2 7 (by kernel_rfl) rfl rfl rfl rfl rfl (List.Sublist.refl _) (y_loadA (i := 0) rfl rfl agg_33 rfl rfl) ?_
          refine DX.step 3 15 (by kernel_rfl) rfl rfl rfl (op_callV (v := .int .i64 (Fct.stop (findF (distinctF [] (fewF fs)) s'))) rfl rfl rfl rfl rfl ent_16 (fun w _ => w_refEnd (findF (distinctF [] (fewF fs)) s') hr'.s0 hr'.s1 hr'.a0 hr'.a1) (DXs.mk (List.Sublist.refl _) ?_))
          refine DX.takeW 4 31 (by kernel_rfl) rfl rfl rfl rfl rfl (yw_lss rfl rfl rfl) ?_
          refine DX.know (t := 113) (u := .bool false) rfl (congrArg Value.bool (decide_eq_false (by omega))) ?_
          refine DX.takeW 5 63 (by kernel_rfl) rfl rfl rfl rfl rfl (yw_move rfl rfl) ?_
          refine DX.takeWG 6 127 (by kernel_rfl) rfl rfl rfl rfl rfl rfl rfl rfl (yw_fieldAddr rfl fld_30_7 rfl) ?_
          refine DX.takeG 7 255 (by kernel_rfl) rfl rfl rfl rfl rfl rfl rfl rfl (List.Sublist.refl _) (y_load (i := 1) rfl rfl one_3 rfl rfl) ?_
          refine DX.takeWG 8 511 (by kernel_rfl) rfl rfl rfl rfl rfl rfl rfl rfl (yw_move rfl rfl) ?_
          refine DX.takeWG 9 1023 (by kernel_rfl) rfl rfl rfl rfl rfl rfl rfl rfl (yw_move rfl rfl) ?_
          refine DX.takeWG 10 2047 (by kernel_rfl) rfl rfl rfl rfl rfl rfl rfl rfl (yw_sub rfl rfl rfl (by omega) (by omega)) ?_
          refine DX.takeWG 11 4095 (by kernel_rfl) rfl rfl rfl rfl rfl rfl rfl rfl (yw_index (k := (i - 1)) rfl slt_23 rfl rfl (by omega) (by omega) hA) ?_
          refine DX.takeWG 12 8191 (by kernel_rfl) rfl rfl rfl rfl rfl rfl rfl rfl (yw_fieldAddr rfl fld_30_7 rfl) ?_
          refine DX.takeG 13 16383 (by kernel_rfl) rfl rfl rfl rfl rfl rfl rfl rfl (List.Sublist.refl _) (y_rowElemF (i := 3) rfl rfl one_3 rfl (map_get (hs'.resolve_left (by omega))) rfl) ?_
          refine DX.takeWG 14 32767 (by kernel_rfl) rfl rfl rfl rfl rfl rfl rfl rfl (yw_lss rfl rfl rfl) ?_
          refine DX.know (t := 123) (u := .bool false) rfl (congrArg Value.bool (decide_eq_false (by omega))) ?_
          refine DX.takeW 15 65535 (by kernel_rfl) rfl rfl rfl rfl rfl (yw_pickF rfl rfl rfl) ?_
          refine DX.done (by kernel_rfl) (XX.next (V' := [(0, .slice y2.1 ((distinctF [] (fewF fs)).length) y2.2), (3, .bool true), (4, .slice y3.1 ((streams (distinctF [] (fewF fs))).length) y3.2), (5, .int .i64 ((i : Nat) : Int)), (8, .pointer (some ⟨g8, 0, none⟩)), (124, .bool false)]) ⟨rfl, rfl, rfl, rfl, rfl, rfl, trivial⟩ ?_)
          refine CX.condF rfl ?_
          refine CX.skip (XX.next (V' := [(0, .slice y2.1 ((distinctF [] (fewF fs)).length) y2.2), (3, .bool true), (4, .slice y3.1 ((streams (distinctF [] (fewF fs))).length) y3.2), (5, .int .i64 ((i : Nat) : Int)), (8, .pointer (some ⟨g8, 0, none⟩))]) ⟨rfl, rfl, rfl, rfl, rfl, trivial⟩ ?_)
          refine CX.seq ?_
          refine CX.region ?_
          refine RX.cons rfl rfl (op_w (yw_assign rfl rfl) rfl rfl ?_)
          refine RX.nil (XX.next (V' := [(0, .slice y2.1 ((distinctF [] (fewF fs)).length) y2.2), (3, .bool true), (4, .slice y3.1 ((streams (distinctF [] (fewF fs))).length) y3.2), (5, .int .i64 ((i : Nat) : Int)), (8, .pointer (some ⟨g8, 0, none⟩)), (11, .int .i64 0)]) ⟨rfl, rfl, rfl, rfl, rfl, rfl, trivial⟩ ?_)
          refine CX.seq ?_
          refine CX.seq ?_
          refine CX.region ?_
          refine RX.cons rfl rfl (op_w (yw_assign rfl rfl) rfl rfl ?_)
          refine RX.nil (XX.next (V' := [(0, .slice y2.1 ((distinctF [] (fewF fs)).length) y2.2), (3, .bool true), (4, .slice y3.1 ((streams (distinctF [] (fewF fs))).length) y3.2), (5, .int .i64 ((i : Nat) : Int)), (8, .pointer (some ⟨g8, 0, none⟩)), (11, .int .i64 0), (12, .int .i64 0)]) ⟨rfl, rfl, rfl, rfl, rfl, rfl, rfl, trivial⟩ ?_)
          refine CX.block ?_
          refine CX.loop (σ := Nat × Nat) (fun z => [(0, .slice y2.1 ((distinctF [] (fewF fs)).length) y2.2), (3, .bool true), (4, .slice y3.1 ((streams (distinctF [] (fewF fs))).length) y3.2), (5, .int .i64 ((i : Nat) : Int)), (8, .pointer (some ⟨g8, 0, none⟩)), (11, .int .i64 ((z.2 : Nat) : Int)), (12, .int .i64 ((z.1 : Nat) : Int))]) (fun z => [.blk g9 (.cells (Fct.cells (findF (distinctF [] (fewF fs)) s')) 33 (0, 0)), .blk g8 (.cells (Strm.cells s) 30 (0, 0)), .blk g6 (.cells (Fct.cells (findF (distinctF [] (fewF fs)) s)) 33 (0, 0)), .row y3.1 y3.2 30 9 (List.map Strm.cells (streams (distinctF [] (fewF fs)))), .row y2.1 y2.2 33 18 (List.map Fct.cells (distinctF [] (fewF fs))), .row y1.1 y1.2 33 18 (List.map Fct.cells (fewF fs))]) (fun z => z.1 ≤ i + 1 ∧ z.2 = (List.take z.1 (streams (distinctF [] (fewF fs)))).countP (alike s)) (fun z => i + 1 - z.1) (0, 0) ⟨Nat.zero_le _, by simp⟩ ⟨rfl, rfl, rfl, rfl, rfl, rfl, rfl, trivial⟩ rfl (fun z hI => ?_)
          obtain ⟨k, n⟩ := z
          dsimp only at hI ⊢
          obtain ⟨hk, hn2⟩ := hI
          have hn5 := alike_few (distinctF [] (fewF fs)) s k
          rw [← hn2] at hn5
          refine CX.seq ?_
          refine CX.seq ?_
          refine CX.region ?_
          refine RX.cons rfl rfl (op_w (yw_move rfl rfl) rfl rfl ?_)
          refine RX.cons rfl rfl (op_w (yw_move rfl rfl) rfl rfl ?_)
          refine RX.cons rfl rfl (op_w (yw_leq rfl rfl rfl) rfl rfl ?_)
          refine RX.nil (XX.next (V' := [(0, .slice y2.1 ((distinctF [] (fewF fs)).length) y2.2), (3, .bool true), (4, .slice y3.1 ((streams (distinctF [] (fewF fs))).length) y3.2), (5, .int .i64 ((i : Nat) : Int)), (8, .pointer (some ⟨g8, 0, none⟩)), (11, .int .i64 ((n : Nat) : Int)), (12, .int .i64 ((k : Nat) : Int)), (127, .bool (decide (((k : Nat) : Int) ≤ ((i : Nat) : Int))))]) ⟨rfl, rfl, rfl, rfl, rfl, rfl, rfl, rfl, trivial⟩ ?_)
          refine CX.condD (p := ((k : Nat) : Int) ≤ ((i : Nat) : Int)) rfl (fun c127 => ?_) (fun c127 => ?_)
          · obtain ⟨y, hy⟩ := get_some (l := (streams (distinctF [] (fewF fs)))) (k := k) (by omega)
            refine CX.skip (XX.next (V' := [(0, .slice y2.1 ((distinctF [] (fewF fs)).length) y2.2), (3, .bool true), (4, .slice y3.1 ((streams (distinctF [] (fewF fs))).length) y3.2), (5, .int .i64 ((i : Nat) : Int)), (8, .pointer (some ⟨g8, 0, none⟩)), (11, .int .i64 ((n : Nat) : Int)), (12, .int .i64 ((k : Nat) : Int))]) ⟨rfl, rfl, rfl, rfl, rfl, rfl, rfl, trivial⟩ ?_)
            refine CX.seq ?_
            refine CX.block ?_
            refine CX.seq ?_
            refine CX.draw 28 (by kernel_rfl) ?_
            refine DX.takeW 0 1 (by kernel_rfl) rfl rfl rfl rfl rfl (yw_move rfl rfl) ?_
            refine DX.takeW 1 3 (by kernel_rfl) rfl rfl rfl rfl rfl (yw_move rfl rfl) ?_
            refine DX.takeW 2 7 (by kernel_rfl) rfl rfl rfl rfl rfl (yw_index (k := k) rfl slt_23 rfl rfl (by omega) (by omega) hA) ?_
            refine DX.takeW 3 15 (by kernel_rfl) rfl rfl rfl rfl rfl (yw_field0 rfl fld_30_0 rfl) ?_
            refine DX.take 4 31 (by kernel_rfl) rfl rfl rfl rfl rfl (List.Sublist.refl _) (y_rowElemF (j := 0) (i := 3) rfl rfl one_3 rfl (map_get hy) rfl) ?_
            refine DX.takeW 5 63 (by kernel_rfl) rfl rfl rfl rfl rfl (yw_field0 rfl fld_30_0 rfl) ?_
            refine DX.take 6 127 (by kernel_rfl) rfl rfl rfl rfl rfl (List.Sublist.refl _) (y_load (i := 1) rfl rfl one_3 rfl rfl) ?_
            refine DX.takeW 7 255 (by kernel_rfl) rfl rfl rfl rfl rfl (yw_eql rfl rfl rfl) ?_
            refine DX.takeW 8 511 (by kernel_rfl) rfl rfl rfl rfl rfl (yw_move rfl rfl) ?_
            refine DX.splitD (t := 138) (p := y.device = s.device) rfl (fun d138 => ?_) (fun d138 => ?_)
            · refine DX.takeWG 9 1023 (by kernel_rfl) rfl rfl rfl rfl rfl rfl rfl rfl (yw_move rfl rfl) ?_
              refine DX.takeWG 10 2047 (by kernel_rfl) rfl rfl rfl rfl rfl rfl rfl rfl (yw_move rfl rfl) ?_
              refine DX.takeWG 11 4095 (by kernel_rfl) rfl rfl rfl rfl rfl rfl rfl rfl (yw_index (k := k) rfl slt_23 rfl rfl (by omega) (by omega) hA) ?_
              refine DX.takeWG 12 8191 (by kernel_rfl) rfl rfl rfl rfl rfl rfl rfl rfl (yw_fieldAddr rfl fld_30_7 rfl) ?_
              refine DX.takeG 13 16383 (by kernel_rfl) rfl rfl rfl rfl rfl rfl rfl rfl (List.Sublist.refl _) (y_rowElemF (i := 3) rfl rfl one_3 rfl (map_get hy) rfl) ?_
              refine DX.takeWG 14 32767 (by kernel_rfl) rfl rfl rfl rfl rfl rfl rfl rfl (yw_fieldAddr rfl fld_30_7 rfl) ?_
              refine DX.takeG 15 65535 (by kernel_rfl) rfl rfl rfl rfl rfl rfl rfl rfl (List.Sublist.refl _) (y_load (i := 1) rfl rfl one_3 rfl rfl) ?_
              refine DX.takeWG 16 131071 (by kernel_rfl) rfl rfl rfl rfl rfl rfl rfl rfl (yw_eql rfl rfl rfl) ?_
              refine DX.takeW 17 262143 (by kernel_rfl) rfl rfl rfl rfl rfl (yw_pickT rfl rfl rfl) ?_
              refine DX.takeW 18 524287 (by kernel_rfl) rfl rfl rfl rfl rfl (yw_move rfl rfl) ?_
              refine DX.splitD (t := 148) (p := y.session = s.session) rfl (fun d148 => ?_) (fun d148 => ?_)
              · refine DX.takeWG 19 1048575 (by kernel_rfl) rfl rfl rfl rfl rfl rfl rfl rfl (yw_move rfl rfl) ?_
                refine DX.takeWG 20 2097151 (by kernel_rfl) rfl rfl rfl rfl rfl rfl rfl rfl (yw_move rfl rfl) ?_
                refine DX.takeWG 21 4194303 (by kernel_rfl) rfl rfl rfl rfl rfl rfl rfl rfl (yw_index (k := k) rfl slt_23 rfl rfl (by omega) (by omega) hA) ?_
                refine DX.takeWG 22 8388607 (by kernel_rfl) rfl rfl rfl rfl rfl rfl rfl rfl (yw_fieldAddr rfl fld_30_3 rfl) ?_
                refine DX.takeG 23 16777215 (by kernel_rfl) rfl rfl rfl rfl rfl rfl rfl rfl (List.Sublist.refl _) (y_rowElemF (i := 3) rfl rfl one_3 rfl (map_get hy) rfl) ?_
                refine DX.takeWG 24 33554431 (by kernel_rfl) rfl rfl rfl rfl rfl rfl rfl rfl (yw_fieldAddr rfl fld_30_3 rfl) ?_
                refine DX.takeG 25 67108863 (by kernel_rfl) rfl rfl rfl rfl rfl rfl rfl rfl (List.Sublist.refl _) (y_load (i := 1) rfl rfl one_3 rfl rfl) ?_
                refine DX.takeWG 26 134217727 (by kernel_rfl) rfl rfl rfl rfl rfl rfl rfl rfl (yw_eql rfl rfl rfl) ?_
                refine DX.takeW 27 268435455 (by kernel_rfl) rfl rfl rfl rfl rfl (yw_pickT rfl rfl rfl) ?_
                refine DX.done (by kernel_rfl) (XX.next (V' := [(0, .slice y2.1 ((distinctF [] (fewF fs)).length) y2.2), (3, .bool true), (4, .slice y3.1 ((streams (distinctF [] (fewF fs))).length) y3.2), (5, .int .i64 ((i : Nat) : Int)), (8, .pointer (some ⟨g8, 0, none⟩)), (11, .int .i64 ((n : Nat) : Int)), (12, .int .i64 ((k : Nat) : Int)), (157, .bool (decide (y.recording = s.recording)))]) ⟨rfl, rfl, rfl, rfl, rfl, rfl, rfl, rfl, trivial⟩ ?_)
                refine CX.condD (p := y.recording = s.recording) rfl (fun c157 => ?_) (fun c157 => ?_)
                · refine CX.region ?_
                  refine RX.cons rfl rfl (op_w (yw_move rfl rfl) rfl rfl ?_)
                  refine RX.cons rfl rfl (op_w (yw_add rfl rfl rfl (by omega) (by omega)) rfl rfl ?_)
                  refine RX.cons rfl rfl (op_w (yw_assign rfl rfl) rfl rfl ?_)
                  refine RX.nil (XX.inBlock (V' := [(0, .slice y2.1 ((distinctF [] (fewF fs)).length) y2.2), (3, .bool true), (4, .slice y3.1 ((streams (distinctF [] (fewF fs))).length) y3.2), (5, .int .i64 ((i : Nat) : Int)), (8, .pointer (some ⟨g8, 0, none⟩)), (11, .int .i64 (((n : Nat) : Int) + 1)), (12, .int .i64 ((k : Nat) : Int))]) ⟨rfl, rfl, rfl, rfl, rfl, rfl, rfl, trivial⟩ ?_)
                  refine XX.next (V' := [(0, .slice y2.1 ((distinctF [] (fewF fs)).length) y2.2), (3, .bool true), (4, .slice y3.1 ((streams (distinctF [] (fewF fs))).length) y3.2), (5, .int .i64 ((i : Nat) : Int)), (8, .pointer (some ⟨g8, 0, none⟩)), (11, .int .i64 (((n : Nat) : Int) + 1)), (12, .int .i64 ((k : Nat) : Int))]) ⟨rfl, rfl, rfl, rfl, rfl, rfl, rfl, trivial⟩ ?_
                  refine CX.region ?_
                  refine RX.cons rfl rfl (op_w (yw_move rfl rfl) rfl rfl ?_)
                  refine RX.cons rfl rfl (op_w (yw_add rfl rfl rfl (by omega) (by omega)) rfl rfl ?_)
                  refine RX.cons rfl rfl (op_w (yw_assign rfl rfl) rfl rfl ?_)
                  refine RX.nil (XX.againP ([]) (k + 1, n + 1) (by dsimp only; omega) ⟨by dsimp only; omega, by dsimp only; rw [countP_succ hy, ← hn2]; simp [d138, d148, c157, alike]⟩ ⟨rfl, rfl, rfl, rfl, rfl, rfl, rfl, trivial⟩ ((perm_pick 0 rfl).trans (List.Perm.cons _ ((perm_pick 0 rfl).trans (List.Perm.cons _ ((perm_pick 0 rfl).trans (List.Perm.cons _ ((perm_pick 0 rfl).trans (List.Perm.cons _ ((perm_pick 0 rfl).trans (List.Perm.cons _ ((perm_pick 0 rfl).trans (List.Perm.cons _ (List.Perm.refl _))))))))))))))
                · refine CX.skip (XX.inBlock (V' := [(0, .slice y2.1 ((distinctF [] (fewF fs)).length) y2.2), (3, .bool true), (4, .slice y3.1 ((streams (distinctF [] (fewF fs))).length) y3.2), (5, .int .i64 ((i : Nat) : Int)), (8, .pointer (some ⟨g8, 0, none⟩)), (11, .int .i64 ((n : Nat) : Int)), (12, .int .i64 ((k : Nat) : Int))]) ⟨rfl, rfl, rfl, rfl, rfl, rfl, rfl, trivial⟩ ?_)
                  refine XX.next (V' := [(0, .slice y2.1 ((distinctF [] (fewF fs)).length) y2.2), (3, .bool true), (4, .slice y3.1 ((streams (distinctF [] (fewF fs))).length) y3.2), (5, .int .i64 ((i : Nat) : Int)), (8, .pointer (some ⟨g8, 0, none⟩)), (11, .int .i64 ((n : Nat) : Int)), (12, .int .i64 ((k : Nat) : Int))]) ⟨rfl, rfl, rfl, rfl, rfl, rfl, rfl, trivial⟩ ?_
                  refine CX.region ?_
                  refine RX.cons rfl rfl (op_w (yw_move rfl rfl) rfl rfl ?_)
                  refine RX.cons rfl rfl (op_w (yw_add rfl rfl rfl (by omega) (by omega)) rfl rfl ?_)
                  refine RX.cons rfl rfl (op_w (yw_assign rfl rfl) rfl rfl ?_)
                  refine RX.nil (XX.againP ([]) (k + 1, n) (by dsimp only; omega) ⟨by dsimp only; omega, by dsimp only; rw [countP_succ hy, ← hn2]; simp [d138, d148, c157, alike]⟩ ⟨rfl, rfl, rfl, rfl, rfl, rfl, rfl, trivial⟩ ((perm_pick 0 rfl).trans (List.Perm.cons _ ((perm_pick 0 rfl).trans (List.Perm.cons _ ((perm_pick 0 rfl).trans (List.Perm.cons _ ((perm_pick 0 rfl).trans (List.Perm.cons _ ((perm_pick 0 rfl).trans (List.Perm.cons _ ((perm_pick 0 rfl).trans (List.Perm.cons _ (List.Perm.refl _))))))))))))))
              · refine DX.skip 19 1048575 (by kernel_rfl) rfl rfl rfl rfl rfl rfl rfl rfl ?_
                refine DX.skip 20 2097151 (by kernel_rfl) rfl rfl rfl rfl rfl rfl rfl rfl ?_
                refine DX.skip 21 4194303 (by kernel_rfl) rfl rfl rfl rfl rfl rfl rfl rfl ?_
                refine DX.skip 22 8388607 (by kernel_rfl) rfl rfl rfl rfl rfl rfl rfl rfl ?_
                refine DX.skip 23 16777215 (by kernel_rfl) rfl rfl rfl rfl rfl rfl rfl rfl ?_
                refine DX.skip 24 33554431 (by kernel_rfl) rfl rfl rfl rfl rfl rfl rfl rfl ?_
                refine DX.skip 25 67108863 (by kernel_rfl) rfl rfl rfl rfl rfl rfl rfl rfl ?_
                refine DX.skip 26 134217727 (by kernel_rfl) rfl rfl rfl rfl rfl rfl rfl rfl ?_
                refine DX.takeW 27 268435455 (by kernel_rfl) rfl rfl rfl rfl rfl (yw_pickF rfl rfl rfl) ?_
                refine DX.done (by kernel_rfl) (XX.next (V' := [(0, .slice y2.1 ((distinctF [] (fewF fs)).length) y2.2), (3, .bool true), (4, .slice y3.1 ((streams (distinctF [] (fewF fs))).length) y3.2), (5, .int .i64 ((i : Nat) : Int)), (8, .pointer (some ⟨g8, 0, none⟩)), (11, .int .i64 ((n : Nat) : Int)), (12, .int .i64 ((k : Nat) : Int)), (157, .bool false)]) ⟨rfl, rfl, rfl, rfl, rfl, rfl, rfl, rfl, trivial⟩ ?_)
                refine CX.condF rfl ?_
                refine CX.skip (XX.inBlock (V' := [(0, .slice y2.1 ((distinctF [] (fewF fs)).length) y2.2), (3, .bool true), (4, .slice y3.1 ((streams (distinctF [] (fewF fs))).length) y3.2), (5, .int .i64 ((i : Nat) : Int)), (8, .pointer (some ⟨g8, 0, none⟩)), (11, .int .i64 ((n : Nat) : Int)), (12, .int .i64 ((k : Nat) : Int))]) ⟨rfl, rfl, rfl, rfl, rfl, rfl, rfl, trivial⟩ ?_)
                refine XX.next (V' := [(0, .slice y2.1 ((distinctF [] (fewF fs)).length) y2.2), (3, .bool true), (4, .slice y3.1 ((streams (distinctF [] (fewF fs))).length) y3.2), (5, .int .i64 ((i : Nat) : Int)), (8, .pointer (some ⟨g8, 0, none⟩)), (11, .int .i64 ((n : Nat) : Int)), (12, .int .i64 ((k : Nat) : Int))]) ⟨rfl, rfl, rfl, rfl, rfl, rfl, rfl, trivial⟩ ?_
                refine CX.region ?_
                refine RX.cons rfl rfl (op_w (yw_move rfl rfl) rfl rfl ?_)
                refine RX.cons rfl rfl (op_w (yw_add rfl rfl rfl (by omega) (by omega)) rfl rfl ?_)
                refine RX.cons rfl rfl (op_w (yw_assign rfl rfl) rfl rfl ?_)
                refine RX.nil (XX.againP ([]) (k + 1, n) (by dsimp only; omega) ⟨by dsimp only; omega, by dsimp only; rw [countP_succ hy, ← hn2]; simp [d138, d148, alike]⟩ ⟨rfl, rfl, rfl, rfl, rfl, rfl, rfl, trivial⟩ ((perm_pick 0 rfl).trans (List.Perm.cons _ ((perm_pick 0 rfl).trans (List.Perm.cons _ ((perm_pick 0 rfl).trans (List.Perm.cons _ ((perm_pick 0 rfl).trans (List.Perm.cons _ ((perm_pick 0 rfl).trans (List.Perm.cons _ ((perm_pick 0 rfl).trans (List.Perm.cons _ (List.Perm.refl _))))))))))))))
            · refine DX.skip 9 1023 (by kernel_rfl) rfl rfl rfl rfl rfl rfl rfl rfl ?_
              refine DX.skip 10 2047 (by kernel_rfl) rfl rfl rfl rfl rfl rfl rfl rfl ?_
              refine DX.skip 11 4095 (by kernel_rfl) rfl rfl rfl rfl rfl rfl rfl rfl ?_
              refine DX.skip 12 8191 (by kernel_rfl) rfl rfl rfl rfl rfl rfl rfl rfl ?_
              refine DX.skip 13 16383 (by kernel_rfl) rfl rfl rfl rfl rfl rfl rfl rfl ?_
              refine DX.skip 14 32767 (by kernel_rfl) rfl rfl rfl rfl rfl rfl rfl rfl ?_
              refine DX.skip 15 65535 (by kernel_rfl) rfl rfl rfl rfl rfl rfl rfl rfl ?_
              refine DX.skip 16 131071 (by kernel_rfl) rfl rfl rfl rfl rfl rfl rfl rfl ?_
              refine DX.takeW 17 262143 (by kernel_rfl) rfl rfl rfl rfl rfl (yw_pickF rfl rfl rfl) ?_
              refine DX.takeW 18 524287 (by kernel_rfl) rfl rfl rfl rfl rfl (yw_move rfl rfl) ?_
              refine DX.skip 19 1048575 (by kernel_rfl) rfl rfl rfl rfl rfl rfl rfl rfl ?_
              refine DX.skip 20 2097151 (by kernel_rfl) rfl rfl rfl rfl rfl rfl rfl rfl ?_
              refine DX.skip 21 4194303 (by kernel_rfl) rfl rfl rfl rfl rfl rfl rfl rfl ?_
              refine DX.skip 22 8388607 (by kernel_rfl) rfl rfl rfl rfl rfl rfl rfl rfl ?_
              refine DX.skip 23 16777215 (by kernel_rfl) rfl rfl rfl rfl rfl rfl rfl rfl ?_
              refine DX.skip 24 33554431 (by kernel_rfl) rfl rfl rfl rfl rfl rfl rfl rfl ?_
              refine DX.skip 25 67108863 (by kernel_rfl) rfl rfl rfl rfl rfl rfl rfl rfl ?_
              refine DX.skip 26 134217727 (by kernel_rfl) rfl rfl rfl rfl rfl rfl rfl rfl ?_
              refine DX.takeW 27 268435455 (by kernel_rfl) rfl rfl rfl rfl rfl (yw_pickF rfl rfl rfl) ?_
              refine DX.done (by kernel_rfl) (XX.next (V' := [(0, .slice y2.1 ((distinctF [] (fewF fs)).length) y2.2), (3, .bool true), (4, .slice y3.1 ((streams (distinctF [] (fewF fs))).length) y3.2), (5, .int .i64 ((i : Nat) : Int)), (8, .pointer (some ⟨g8, 0, none⟩)), (11, .int .i64 ((n : Nat) : Int)), (12, .int .i64 ((k : Nat) : Int)), (157, .bool false)]) ⟨rfl, rfl, rfl, rfl, rfl, rfl, rfl, rfl, trivial⟩ ?_)
              refine CX.condF rfl ?_
              refine CX.skip (XX.inBlock (V' := [(0, .slice y2.1 ((distinctF [] (fewF fs)).length) y2.2), (3, .bool true), (4, .slice y3.1 ((streams (distinctF [] (fewF fs))).length) y3.2), (5, .int .i64 ((i : Nat) : Int)), (8, .pointer (some ⟨g8, 0, none⟩)), (11, .int .i64 ((n : Nat) : Int)), (12, .int .i64 ((k : Nat) : Int))]) ⟨rfl, rfl, rfl, rfl, rfl, rfl, rfl, trivial⟩ ?_)
              refine XX.next (V' := [(0, .slice y2.1 ((distinctF [] (fewF fs)).length) y2.2), (3, .bool true), (4, .slice y3.1 ((streams (distinctF [] (fewF fs))).length) y3.2), (5, .int .i64 ((i : Nat) : Int)), (8, .pointer (some ⟨g8, 0, none⟩)), (11, .int .i64 ((n : Nat) : Int)), (12, .int .i64 ((k : Nat) : Int))]) ⟨rfl, rfl, rfl, rfl, rfl, rfl, rfl, trivial⟩ ?_
              refine CX.region ?_
              refine RX.cons rfl rfl (op_w (yw_move rfl rfl) rfl rfl ?_)
              refine RX.cons rfl rfl (op_w (yw_add rfl rfl rfl (by omega) (by omega)) rfl rfl ?_)
              refine RX.cons rfl rfl (op_w (yw_assign rfl rfl) rfl rfl ?_)
              refine RX.nil (XX.againP ([]) (k + 1, n) (by dsimp only; omega) ⟨by dsimp only; omega, by dsimp only; rw [countP_succ hy, ← hn2]; simp [d138, alike]⟩ ⟨rfl, rfl, rfl, rfl, rfl, rfl, rfl, trivial⟩ ((perm_pick 0 rfl).trans (List.Perm.cons _ ((perm_pick 0 rfl).trans (List.Perm.cons _ ((perm_pick 0 rfl).trans (List.Perm.cons _ ((perm_pick 0 rfl).trans (List.Perm.cons _ ((perm_pick 0 rfl).trans (List.Perm.cons _ ((perm_pick 0 rfl).trans (List.Perm.cons _ (List.Perm.refl _))))))))))))))
          · refine CX.exit ?_
            refine XX.then_exit ?_
            refine XX.then_exit ?_
            refine XX.block_exit ?_
            refine XX.next (V' := [(0, .slice y2.1 ((distinctF [] (fewF fs)).length) y2.2), (3, .bool true), (4, .slice y3.1 ((streams (distinctF [] (fewF fs))).length) y3.2), (5, .int .i64 ((i : Nat) : Int)), (11, .int .i64 ((n : Nat) : Int))]) ⟨rfl, rfl, rfl, rfl, rfl, trivial⟩ ?_
            refine CX.seq ?_
            refine CX.region ?_
            refine RX.cons rfl rfl (op_w (yw_move rfl rfl) rfl rfl ?_)
            refine RX.cons rfl rfl (op_w (yw_gtr rfl rfl rfl) rfl rfl ?_)
            refine RX.nil (XX.next (V' := [(0, .slice y2.1 ((distinctF [] (fewF fs)).length) y2.2), (3, .bool true), (4, .slice y3.1 ((streams (distinctF [] (fewF fs))).length) y3.2), (5, .int .i64 ((i : Nat) : Int)), (161, .bool (decide (5 < ((n : Nat) : Int))))]) ⟨rfl, rfl, rfl, rfl, rfl, trivial⟩ ?_)
            refine CX.condD (p := 5 < ((n : Nat) : Int)) rfl (fun c161 => ?_) (fun c161 => ?_)
            · exfalso; omega
            · refine CX.skip (XX.inBlock (V' := [(0, .slice y2.1 ((distinctF [] (fewF fs)).length) y2.2), (3, .bool true), (4, .slice y3.1 ((streams (distinctF [] (fewF fs))).length) y3.2), (5, .int .i64 ((i : Nat) : Int))]) ⟨rfl, rfl, rfl, rfl, trivial⟩ ?_)
              refine XX.next (V' := [(0, .slice y2.1 ((distinctF [] (fewF fs)).length) y2.2), (3, .bool true), (4, .slice y3.1 ((streams (distinctF [] (fewF fs))).length) y3.2), (5, .int .i64 ((i : Nat) : Int))]) ⟨rfl, rfl, rfl, rfl, trivial⟩ ?_
              refine CX.region ?_
              refine RX.cons rfl rfl (op_w (yw_move rfl rfl) rfl rfl ?_)
              refine RX.cons rfl rfl (op_w (yw_add rfl rfl rfl (by omega) (by omega)) rfl rfl ?_)
              refine RX.cons rfl rfl (op_w (yw_assign rfl rfl) rfl rfl ?_)
              refine RX.nil (XX.againP ([.blk g9 (.cells (Fct.cells (findF (distinctF [] (fewF fs)) s')) 33 (0, 0)), .blk g8 (.cells (Strm.cells s) 30 (0, 0)), .blk g6 (.cells (Fct.cells (findF (distinctF [] (fewF fs)) s)) 33 (0, 0))]) (i + 1) (by omega) (by omega) ⟨rfl, rfl, rfl, rfl, trivial⟩ ((perm_pick 3 rfl).trans (List.Perm.cons _ ((perm_pick 3 rfl).trans (List.Perm.cons _ ((perm_pick 3 rfl).trans (List.Perm.cons _ (List.Perm.refl _))))))))
        · refine CX.skip (XX.next (V' := [(0, .slice y2.1 ((distinctF [] (fewF fs)).length) y2.2), (3, .bool true), (4, .slice y3.1 ((streams (distinctF [] (fewF fs))).length) y3.2), (5, .int .i64 ((i : Nat) : Int)), (8, .pointer (some ⟨g8, 0, none⟩))]) ⟨rfl, rfl, rfl, rfl, rfl, trivial⟩ ?_)
          refine CX.seq ?_
          refine CX.region ?_
          refine RX.cons rfl rfl (op_w (yw_assign rfl rfl) rfl rfl ?_)
          refine RX.nil (XX.next (V' := [(0, .slice y2.1 ((distinctF [] (fewF fs)).length) y2.2), (3, .bool true), (4, .slice y3.1 ((streams (distinctF [] (fewF fs))).length) y3.2), (5, .int .i64 ((i : Nat) : Int)), (8, .pointer (some ⟨g8, 0, none⟩)), (11, .int .i64 0)]) ⟨rfl, rfl, rfl, rfl, rfl, rfl, trivial⟩ ?_)
          refine CX.seq ?_
          refine CX.seq ?_
          refine CX.region ?_
          refine RX.cons rfl rfl (op_w (yw_assign rfl rfl) rfl rfl ?_)
          refine RX.nil (XX.next (V' := [(0, .slice y2.1 ((distinctF [] (fewF fs)).length) y2.2), (3, .bool true), (4, .slice y3.1 ((streams (distinctF [] (fewF fs))).length) y3.2), (5, .int .i64 ((i : Nat) : Int)), (8, .pointer (some ⟨g8, 0, none⟩)), (11, .int .i64 0), (12, .int .i64 0)]) ⟨rfl, rfl, rfl, rfl, rfl, rfl, rfl, trivial⟩ ?_)
          refine CX.block ?_
          refine CX.loop (σ := Nat × Nat) (fun z => [(0, .slice y2.1 ((distinctF [] (fewF fs)).length) y2.2), (3, .bool true), (4, .slice y3.1 ((streams (distinctF [] (fewF fs))).length) y3.2), (5, .int .i64 ((i : Nat) : Int)), (8, .pointer (some ⟨g8, 0, none⟩)), (11, .int .i64 ((z.2 : Nat) : Int)), (12, .int .i64 ((z.1 : Nat) : Int))]) (fun z => [.blk g8 (.cells (Strm.cells s) 30 (0, 0)), .blk g6 (.cells (Fct.cells (findF (distinctF [] (fewF fs)) s)) 33 (0, 0)), .row y3.1 y3.2 30 9 (List.map Strm.cells (streams (distinctF [] (fewF fs)))), .row y2.1 y2.2 33 18 (List.map Fct.cells (distinctF [] (fewF fs))), .row y1.1 y1.2 33 18 (List.map Fct.cells (fewF fs))]) (fun z => z.1 ≤ i + 1 ∧ z.2 = (List.take z.1 (streams (distinctF [] (fewF fs)))).countP (alike s)) (fun z => i + 1 - z.1) (0, 0) ⟨Nat.zero_le _, by simp⟩ ⟨rfl, rfl, rfl, rfl, rfl, rfl, rfl, trivial⟩ rfl (fun z hI => ?_)
          obtain ⟨k, n⟩ := z
          dsimp only at hI ⊢
          obtain ⟨hk, hn2⟩ := hI
          have hn5 := alike_few (distinctF [] (fewF fs)) s k
          rw [← hn2] at hn5
          refine CX.seq ?_
          refine CX.seq ?_
          refine CX.region ?_
          refine RX.cons rfl rfl (op_w (yw_move rfl rfl) rfl rfl ?_)
          refine RX.cons rfl rfl (op_w (yw_move rfl rfl) rfl rfl ?_)
          refine RX.cons rfl rfl (op_w (yw_leq rfl rfl rfl) rfl rfl ?_)
          refine RX.nil (XX.next (V' := [(0, .slice y2.1 ((distinctF [] (fewF fs)).length) y2.2), (3, .bool true), (4, .slice y3.1 ((streams (distinctF [] (fewF fs))).length) y3.2), (5, .int .i64 ((i : Nat) : Int)), (8, .pointer (some ⟨g8, 0, none⟩)), (11, .int .i64 ((n : Nat) : Int)), (12, .int .i64 ((k : Nat) : Int)), (127, .bool (decide (((k : Nat) : Int) ≤ ((i : Nat) : Int))))]) ⟨rfl, rfl, rfl, rfl, rfl, rfl, rfl, rfl, trivial⟩ ?_)
          refine CX.condD (p := ((k : Nat) : Int) ≤ ((i : Nat) : Int)) rfl (fun c127 => ?_) (fun c127 => ?_)
          · obtain ⟨y, hy⟩ := get_some (l := (streams (distinctF [] (fewF fs)))) (k := k) (by omega)
            refine CX.skip (XX.next (V' := [(0, .slice y2.1 ((distinctF [] (fewF fs)).length) y2.2), (3, .bool true), (4, .slice y3.1 ((streams (distinctF [] (fewF fs))).length) y3.2), (5, .int .i64 ((i : Nat) : Int)), (8, .pointer (some ⟨g8, 0, none⟩)), (11, .int .i64 ((n : Nat) : Int)), (12, .int .i64 ((k : Nat) : Int))]) ⟨rfl, rfl, rfl, rfl, rfl, rfl, rfl, trivial⟩ ?_)
            refine CX.seq ?_
            refine CX.block ?_
            refine CX.seq ?_
            refine CX.draw 28 (by kernel_rfl) ?_
            refine DX.takeW 0 1 (by kernel_rfl) rfl rfl rfl rfl rfl (yw_move rfl rfl) ?_
            refine DX.takeW 1 3 (by kernel_rfl) rfl rfl rfl rfl rfl (yw_move rfl rfl) ?_
            refine DX.takeW 2 7 (by kernel_rfl) rfl rfl rfl rfl rfl (yw_index (k := k) rfl slt_23 rfl rfl (by omega) (by omega) hA) ?_
            refine DX.takeW 3 15 (by kernel_rfl) rfl rfl rfl rfl rfl (yw_field0 rfl fld_30_0 rfl) ?_
            refine DX.take 4 31 (by kernel_rfl) rfl rfl rfl rfl rfl (List.Sublist.refl _) (y_rowElemF (j := 0) (i := 2) rfl rfl one_3 rfl (map_get hy) rfl) ?_
            refine DX.takeW 5 63 (by kernel_rfl) rfl rfl rfl rfl rfl (yw_field0 rfl fld_30_0 rfl) ?_
            refine DX.take 6 127 (by kernel_rfl) rfl rfl rfl rfl rfl (List.Sublist.refl _) (y_load (i := 0) rfl rfl one_3 rfl rfl) ?_
            refine DX.takeW 7 255 (by kernel_rfl) rfl rfl rfl rfl rfl (yw_eql rfl rfl rfl) ?_
            refine DX.takeW 8 511 (by kernel_rfl) rfl rfl rfl rfl rfl (yw_move rfl rfl) ?_
            refine DX.splitD (t := 138) (p := y.device = s.device) rfl (fun d138 => ?_) (fun d138 => ?_)
            · refine DX.takeWG 9 1023 (by kernel_rfl) rfl rfl rfl rfl rfl rfl rfl rfl (yw_move rfl rfl) ?_
              refine DX.takeWG 10 2047 (by kernel_rfl) rfl rfl rfl rfl rfl rfl rfl rfl (yw_move rfl rfl) ?_
              refine DX.takeWG 11 4095 (by kernel_rfl) rfl rfl rfl rfl rfl rfl rfl rfl (yw_index (k := k) rfl slt_23 rfl rfl (by omega) (by omega) hA) ?_
              refine DX.takeWG 12 8191 (by kernel_rfl) rfl rfl rfl rfl rfl rfl rfl rfl (yw_fieldAddr rfl fld_30_7 rfl) ?_
              refine DX.takeG 13 16383 (by kernel_rfl) rfl rfl rfl rfl rfl rfl rfl rfl (List.Sublist.refl _) (y_rowElemF (i := 2) rfl rfl one_3 rfl (map_get hy) rfl) ?_
              refine DX.takeWG 14 32767 (by kernel_rfl) rfl rfl rfl rfl rfl rfl rfl rfl (yw_fieldAddr rfl fld_30_7 rfl) ?_
              refine DX.takeG 15 65535 (by kernel_rfl) rfl rfl rfl rfl rfl rfl rfl rfl (List.Sublist.refl _) (y_load (i := 0) rfl rfl one_3 rfl rfl) ?_
              refine DX.takeWG 16 131071 (by kernel_rfl) rfl rfl rfl rfl rfl rfl rfl rfl (yw_eql rfl rfl rfl) ?_
              refine DX.takeW 17 262143 (by kernel_rfl) rfl rfl rfl rfl rfl (yw_pickT rfl rfl rfl) ?_
              refine DX.takeW 18 524287 (by kernel_rfl) rfl rfl rfl rfl rfl (yw_move rfl rfl) ?_
              refine DX.splitD (t := 148) (p := y.session = s.session) rfl (fun d148 => ?_) (fun d148 => ?_)
              · refine DX.takeWG 19 1048575 (by kernel_rfl) rfl rfl rfl rfl rfl rfl rfl rfl (yw_move rfl rfl) ?_
                refine DX.takeWG 20 2097151 (by kernel_rfl) rfl rfl rfl rfl rfl rfl rfl rfl (yw_move rfl rfl) ?_
                refine DX.takeWG 21 4194303 (by kernel_rfl) rfl rfl rfl rfl rfl rfl rfl rfl (yw_index (k := k) rfl slt_23 rfl rfl (by omega) (by omega) hA) ?_
                refine DX.takeWG 22 8388607 (by kernel_rfl) rfl rfl rfl rfl rfl rfl rfl rfl (yw_fieldAddr rfl fld_30_3 rfl) ?_
                refine DX.takeG 23 16777215 (by kernel_rfl) rfl rfl rfl rfl rfl rfl rfl rfl (List.Sublist.refl _) (y_rowElemF (i := 2) rfl rfl one_3 rfl (map_get hy) rfl) ?_
                refine DX.takeWG 24 33554431 (by kernel_rfl) rfl rfl rfl rfl rfl rfl rfl rfl (yw_fieldAddr rfl fld_30_3 rfl) ?_
                refine DX.takeG 25 67108863 (by kernel_rfl) rfl rfl rfl rfl rfl rfl rfl rfl (List.Sublist.refl _) (y_load (i := 0) rfl rfl one_3 rfl rfl) ?_
                refine DX.takeWG 26 134217727 (by kernel_rfl) rfl rfl rfl rfl rfl rfl rfl rfl (yw_eql rfl rfl rfl) ?_
                refine DX.takeW 27 268435455 (by kernel_rfl) rfl rfl rfl rfl rfl (yw_pickT rfl rfl rfl) ?_
                refine DX.done (by kernel_rfl) (XX.next (V' := [(0, .slice y2.1 ((distinctF [] (fewF fs)).length) y2.2), (3, .bool true), (4, .slice y3.1 ((streams (distinctF [] (fewF fs))).length) y3.2), (5, .int .i64 ((i : Nat) : Int)), (8, .pointer (some ⟨g8, 0, none⟩)), (11, .int .i64 ((n : Nat) : Int)), (12, .int .i64 ((k : Nat) : Int)), (157, .bool (decide (y.recording = s.recording)))]) ⟨rfl, rfl, rfl, rfl, rfl, rfl, rfl, rfl, trivial⟩ ?_)
                refine CX.condD (p := y.recording = s.recording) rfl (fun c157 => ?_) (fun c157 => ?_)
                · refine CX.region ?_
                  refine RX.cons rfl rfl (op_w (yw_move rfl rfl) rfl rfl ?_)
                  refine RX.cons rfl rfl (op_w (yw_add rfl rfl rfl (by omega) (by omega)) rfl rfl ?_)
                  refine RX.cons rfl rfl (op_w (yw_assign rfl rfl) rfl rfl ?_)
                  refine RX.nil (XX.inBlock (V' := [(0, .slice y2.1 ((distinctF [] (fewF fs)).length) y2.2), (3, .bool true), (4, .slice y3.1 ((streams (distinctF [] (fewF fs))).length) y3.2), (5, .int .i64 ((i : Nat) : Int)), (8, .pointer (some ⟨g8, 0, none⟩)), (11, .int .i64 (((n : Nat) : Int) + 1)), (12, .int .i64 ((k : Nat) : Int))]) ⟨rfl, rfl, rfl, rfl, rfl, rfl, rfl, trivial⟩ ?_)
                  refine XX.next (V' := [(0, .slice y2.1 ((distinctF [] (fewF fs)).length) y2.2), (3, .bool true), (4, .slice y3.1 ((streams (distinctF [] (fewF fs))).length) y3.2), (5, .int .i64 ((i : Nat) : Int)), (8, .pointer (some ⟨g8, 0, none⟩)), (11, .int .i64 (((n : Nat) : Int) + 1)), (12, .int .i64 ((k : Nat) : Int))]) ⟨rfl, rfl, rfl, rfl, rfl, rfl, rfl, trivial⟩ ?_
                  refine CX.region ?_
                  refine RX.cons rfl rfl (op_w (yw_move rfl rfl) rfl rfl ?_)
                  refine RX.cons rfl rfl (op_w (yw_add rfl rfl rfl (by omega) (by omega)) rfl rfl ?_)
                  refine RX.cons rfl rfl (op_w (yw_assign rfl rfl) rfl rfl ?_)
                  refine RX.nil (XX.againP ([]) (k + 1, n + 1) (by dsimp only; omega) ⟨by dsimp only; omega, by dsimp only; rw [countP_succ hy, ← hn2]; simp [d138, d148, c157, alike]⟩ ⟨rfl, rfl, rfl, rfl, rfl, rfl, rfl, trivial⟩ ((perm_pick 0 rfl).trans (List.Perm.cons _ ((perm_pick 0 rfl).trans (List.Perm.cons _ ((perm_pick 0 rfl).trans (List.Perm.cons _ ((perm_pick 0 rfl).trans (List.Perm.cons _ ((perm_pick 0 rfl).trans (List.Perm.cons _ (List.Perm.refl _))))))))))))
                · refine CX.skip (XX.inBlock (V' := [(0, .slice y2.1 ((distinctF [] (fewF fs)).length) y2.2), (3, .bool true), (4, .slice y3.1 ((streams (distinctF [] (fewF fs))).length) y3.2), (5, .int .i64 ((i : Nat) : Int)), (8, .pointer (some ⟨g8, 0, none⟩)), (11, .int .i64 ((n : Nat) : Int)), (12, .int .i64 ((k : Nat) : Int))]) ⟨rfl, rfl, rfl, rfl, rfl, rfl, rfl, trivial⟩ ?_)
                  refine XX.next (V' := [(0, .slice y2.1 ((distinctF [] (fewF fs)).length) y2.2), (3, .bool true), (4, .slice y3.1 ((streams (distinctF [] (fewF fs))).length) y3.2), (5, .int .i64 ((i : Nat) : Int)), (8, .pointer (some ⟨g8, 0, none⟩)), (11, .int .i64 ((n : Nat) : Int)), (12, .int .i64 ((k : Nat) : Int))]) ⟨rfl, rfl, rfl, rfl, rfl, rfl, rfl, trivial⟩ ?_
                  refine CX.region ?_
                  refine RX.cons rfl rfl (op_w (yw_move rfl rfl) rfl rfl ?_)
                  refine RX.cons rfl rfl (op_w (yw_add rfl rfl rfl (by omega) (by omega)) rfl rfl ?_)
                  refine RX.cons rfl rfl (op_w (yw_assign rfl rfl) rfl rfl ?_)
                  refine RX.nil (XX.againP ([]) (k + 1, n) (by dsimp only; omega) ⟨by dsimp only; omega, by dsimp only; rw [countP_succ hy, ← hn2]; simp [d138, d148, c157, alike]⟩ ⟨rfl, rfl, rfl, rfl, rfl, rfl, rfl, trivial⟩ ((perm_pick 0 rfl).trans (List.Perm.cons _ ((perm_pick 0 rfl).trans (List.Perm.cons _ ((perm_pick 0 rfl).trans (List.Perm.cons _ ((perm_pick 0 rfl).trans (List.Perm.cons _ ((perm_pick 0 rfl).trans (List.Perm.cons _ (List.Perm.refl _))))))))))))
              · refine DX.skip 19 1048575 (by kernel_rfl) rfl rfl rfl rfl rfl rfl rfl rfl ?_
                refine DX.skip 20 2097151 (by kernel_rfl) rfl rfl rfl rfl rfl rfl rfl rfl ?_
                refine DX.skip 21 4194303 (by kernel_rfl) rfl rfl rfl rfl rfl rfl rfl rfl ?_
                refine DX.skip 22 8388607 (by kernel_rfl) rfl rfl rfl rfl rfl rfl rfl rfl ?_
                refine DX.skip 23 16777215 (by kernel_rfl) rfl rfl rfl rfl rfl rfl rfl rfl ?_
                refine DX.skip 24 33554431 (by kernel_rfl) rfl rfl rfl rfl rfl rfl rfl rfl ?_
                refine DX.skip 25 67108863 (by kernel_rfl) rfl rfl rfl rfl rfl rfl rfl rfl ?_
                refine DX.skip 26 134217727 (by kernel_rfl) rfl rfl rfl rfl rfl rfl rfl rfl ?_
                refine DX.takeW 27 268435455 (by kernel_rfl) rfl rfl rfl rfl rfl (yw_pickF rfl rfl rfl) ?_
                refine DX.done (by kernel_rfl) (XX.next (V' := [(0, .slice y2.1 ((distinctF [] (fewF fs)).length) y2.2), (3, .bool true), (4, .slice y3.1 ((streams (distinctF [] (fewF fs))).length) y3.2), (5, .int .i64 ((i : Nat) : Int)), (8, .pointer (some ⟨g8, 0, none⟩)), (11, .int .i64 ((n : Nat) : Int)), (12, .int .i64 ((k : Nat) : Int)), (157, .bool false)]) ⟨rfl, rfl, rfl, rfl, rfl, rfl, rfl, rfl, trivial⟩ ?_)
                refine CX.condF rfl ?_
                refine CX.skip (XX.inBlock (V' := [(0, .slice y2.1 ((distinctF [] (fewF fs)).length) y2.2), (3, .bool true), (4, .slice y3.1 ((streams (distinctF [] (fewF fs))).length) y3.2), (5, .int .i64 ((i : Nat) : Int)), (8, .pointer (some ⟨g8, 0, none⟩)), (11, .int .i64 ((n : Nat) : Int)), (12, .int .i64 ((k : Nat) : Int))]) ⟨rfl, rfl, rfl, rfl, rfl, rfl, rfl, trivial⟩ ?_)
                refine XX.next (V' := [(0, .slice y2.1 ((distinctF [] (fewF fs)).length) y2.2), (3, .bool true), (4, .slice y3.1 ((streams (distinctF [] (fewF fs))).length) y3.2), (5, .int .i64 ((i : Nat) : Int)), (8, .pointer (some ⟨g8, 0, none⟩)), (11, .int .i64 ((n : Nat) : Int)), (12, .int .i64 ((k : Nat) : Int))]) ⟨rfl, rfl, rfl, rfl, rfl, rfl, rfl, trivial⟩ ?_
                refine CX.region ?_
                refine RX.cons rfl rfl (op_w (yw_move rfl rfl) rfl rfl ?_)
                refine RX.cons rfl rfl (op_w (yw_add rfl rfl rfl (by omega) (by omega)) rfl rfl ?_)
                refine RX.cons rfl rfl (op_w (yw_assign rfl rfl) rfl rfl ?_)
                refine RX.nil (XX.againP ([]) (k + 1, n) (by dsimp only; omega) ⟨by dsimp only; omega, by dsimp only; rw [countP_succ hy, ← hn2]; simp [d138, d148, alike]⟩ ⟨rfl, rfl, rfl, rfl, rfl, rfl, rfl, trivial⟩ ((perm_pick 0 rfl).trans (List.Perm.cons _ ((perm_pick 0 rfl).trans (List.Perm.cons _ ((perm_pick 0 rfl).trans (List.Perm.cons _ ((perm_pick 0 rfl).trans (List.Perm.cons _ ((perm_pick 0 rfl).trans (List.Perm.cons _ (List.Perm.refl _))))))))))))
            · refine DX.skip 9 1023 (by kernel_rfl) rfl rfl rfl rfl rfl rfl rfl rfl ?_
              refine DX.skip 10 2047 (by kernel_rfl) rfl rfl rfl rfl rfl rfl rfl rfl ?_
              refine DX.skip 11 4095 (by kernel_rfl) rfl rfl rfl rfl rfl rfl rfl rfl ?_
              refine DX.skip 12 8191 (by kernel_rfl) rfl rfl rfl rfl rfl rfl rfl rfl ?_
              refine DX.skip 13 16383 (by kernel_rfl) rfl rfl rfl rfl rfl rfl rfl rfl ?_
              refine DX.skip 14 32767 (by kernel_rfl) rfl rfl rfl rfl rfl rfl rfl rfl ?_
              refine DX.skip 15 65535 (by kernel_rfl) rfl rfl rfl rfl rfl rfl rfl rfl ?_
              refine DX.skip 16 131071 (by kernel_rfl) rfl rfl rfl rfl rfl rfl rfl rfl ?_
              refine DX.takeW 17 262143 (by kernel_rfl) rfl rfl rfl rfl rfl (yw_pickF rfl rfl rfl) ?_
              refine DX.takeW 18 524287 (by kernel_rfl) rfl rfl rfl rfl rfl (yw_move rfl rfl) ?_
              refine DX.skip 19 1048575 (by kernel_rfl) rfl rfl rfl rfl rfl rfl rfl rfl ?_
              refine DX.skip 20 2097151 (by kernel_rfl) rfl rfl rfl rfl rfl rfl rfl rfl ?_
              refine DX.skip 21 4194303 (by kernel_rfl) rfl rfl rfl rfl rfl rfl rfl rfl ?_
              refine DX.skip 22 8388607 (by kernel_rfl) rfl rfl rfl rfl rfl rfl rfl rfl ?_
              refine DX.skip 23 16777215 (by kernel_rfl) rfl rfl rfl rfl rfl rfl rfl rfl ?_
              refine DX.skip 24 33554431 (by kernel_rfl) rfl rfl rfl rfl rfl rfl rfl rfl ?_
              refine DX.skip 25 67108863 (by kernel_rfl) rfl rfl rfl rfl rfl rfl rfl rfl ?_
              refine DX.skip 26 134217727 (by kernel_rfl) rfl rfl rfl rfl rfl rfl rfl rfl ?_
              refine DX.takeW 27 268435455 (by kernel_rfl) rfl rfl rfl rfl rfl (yw_pickF rfl rfl rfl) ?_
              refine DX.done (by kernel_rfl) (XX.next (V' := [(0, .slice y2.1 ((distinctF [] (fewF fs)).length) y2.2), (3, .bool true), (4, .slice y3.1 ((streams (distinctF [] (fewF fs))).length) y3.2), (5, .int .i64 ((i : Nat) : Int)), (8, .pointer (some ⟨g8, 0, none⟩)), (11, .int .i64 ((n : Nat) : Int)), (12, .int .i64 ((k : Nat) : Int)), (157, .bool false)]) ⟨rfl, rfl, rfl, rfl, rfl, rfl, rfl, rfl, trivial⟩ ?_)
              refine CX.condF rfl ?_
              refine CX.skip (XX.inBlock (V' := [(0, .slice y2.1 ((distinctF [] (fewF fs)).length) y2.2), (3, .bool true), (4, .slice y3.1 ((streams (distinctF [] (fewF fs))).length) y3.2), (5, .int .i64 ((i : Nat) : Int)), (8, .pointer (some ⟨g8, 0, none⟩)), (11, .int .i64 ((n : Nat) : Int)), (12, .int .i64 ((k : Nat) : Int))]) ⟨rfl, rfl, rfl, rfl, rfl, rfl, rfl, trivial⟩ ?_)
              refine XX.next (V' := [(0, .slice y2.1 ((distinctF [] (fewF fs)).length) y2.2), (3, .bool true), (4, .slice y3.1 ((streams (distinctF [] (fewF fs))).length) y3.2), (5, .int .i64 ((i : Nat) : Int)), (8, .pointer (some ⟨g8, 0, none⟩)), (11, .int .i64 ((n : Nat) : Int)), (12, .int .i64 ((k : Nat) : Int))]) ⟨rfl, rfl, rfl, rfl, rfl, rfl, rfl, trivial⟩ ?_
              refine CX.region ?_
              refine RX.cons rfl rfl (op_w (yw_move rfl rfl) rfl rfl ?_)
              refine RX.cons rfl rfl (op_w (yw_add rfl rfl rfl (by omega) (by omega)) rfl rfl ?_)
              refine RX.cons rfl rfl (op_w (yw_assign rfl rfl) rfl rfl ?_)
              refine RX.nil (XX.againP ([]) (k + 1, n) (by dsimp only; omega) ⟨by dsimp only; omega, by dsimp only; rw [countP_succ hy, ← hn2]; simp [d138, alike]⟩ ⟨rfl, rfl, rfl, rfl, rfl, rfl, rfl, trivial⟩ ((perm_pick 0 rfl).trans (List.Perm.cons _ ((perm_pick 0 rfl).trans (List.Perm.cons _ ((perm_pick 0 rfl).trans (List.Perm.cons _ ((perm_pick 0 rfl).trans (List.Perm.cons _ ((perm_pick 0 rfl).trans (List.Perm.cons _ (List.Perm.refl _))))))))))))
          · refine CX.exit ?_
            refine XX.then_exit ?_
            refine XX.then_exit ?_
            refine XX.block_exit ?_
            refine XX.next (V' := [(0, .slice y2.1 ((distinctF [] (fewF fs)).length) y2.2), (3, .bool true), (4, .slice y3.1 ((streams (distinctF [] (fewF fs))).length) y3.2), (5, .int .i64 ((i : Nat) : Int)), (11, .int .i64 ((n : Nat) : Int))]) ⟨rfl, rfl, rfl, rfl, rfl, trivial⟩ ?_
            refine CX.seq ?_
            refine CX.region ?_
            refine RX.cons rfl rfl (op_w (yw_move rfl rfl) rfl rfl ?_)
            refine RX.cons rfl rfl (op_w (yw_gtr rfl rfl rfl) rfl rfl ?_)
            refine RX.nil (XX.next (V' := [(0, .slice y2.1 ((distinctF [] (fewF fs)).length) y2.2), (3, .bool true), (4, .slice y3.1 ((streams (distinctF [] (fewF fs))).length) y3.2), (5, .int .i64 ((i : Nat) : Int)), (161, .bool (decide (5 < ((n : Nat) : Int))))]) ⟨rfl, rfl, rfl, rfl, rfl, trivial⟩ ?_)
            refine CX.condD (p := 5 < ((n : Nat) : Int)) rfl (fun c161 => ?_) (fun c161 => ?_)
            · exfalso; omega
            · refine CX.skip (XX.inBlock (V' := [(0, .slice y2.1 ((distinctF [] (fewF fs)).length) y2.2), (3, .bool true), (4, .slice y3.1 ((streams (distinctF [] (fewF fs))).length) y3.2), (5, .int .i64 ((i : Nat) : Int))]) ⟨rfl, rfl, rfl, rfl, trivial⟩ ?_)
              refine XX.next (V' := [(0, .slice y2.1 ((distinctF [] (fewF fs)).length) y2.2), (3, .bool true), (4, .slice y3.1 ((streams (distinctF [] (fewF fs))).length) y3.2), (5, .int .i64 ((i : Nat) : Int))]) ⟨rfl, rfl, rfl, rfl, trivial⟩ ?_
              refine CX.region ?_
              refine RX.cons rfl rfl (op_w (yw_move rfl rfl) rfl rfl ?_)
              refine RX.cons rfl rfl (op_w (yw_add rfl rfl rfl (by omega) (by omega)) rfl rfl ?_)
              refine RX.cons rfl rfl (op_w (yw_assign rfl rfl) rfl rfl ?_)
              refine RX.nil (XX.againP ([.blk g8 (.cells (Strm.cells s) 30 (0, 0)), .blk g6 (.cells (Fct.cells (findF (distinctF [] (fewF fs)) s)) 33 (0, 0))]) (i + 1) (by omega) (by omega) ⟨rfl, rfl, rfl, rfl, trivial⟩ ((perm_pick 2 rfl).trans (List.Perm.cons _ ((perm_pick 2 rfl).trans (List.Perm.cons _ ((perm_pick 2 rfl).trans (List.Perm.cons _ (List.Perm.refl _))))))))
      · refine DX.skip 3 15 (by kernel_rfl) rfl rfl rfl rfl rfl rfl rfl rfl ?_
        refine DX.skip 4 31 (by kernel_rfl) rfl rfl rfl rfl rfl rfl rfl rfl ?_
        refine DX.skip 5 63 (by kernel_rfl) rfl rfl rfl rfl rfl rfl rfl rfl ?_
        refine DX.skip 6 127 (by kernel_rfl) rfl rfl rfl rfl rfl rfl rfl rfl ?_
        refine DX.skip 7 255 (by kernel_rfl) rfl rfl rfl rfl rfl rfl rfl rfl ?_
        refine DX.skip 8 511 (by kernel_rfl) rfl rfl rfl rfl rfl rfl rfl rfl ?_
        refine DX.skip 9 1023 (by kernel_rfl) rfl rfl rfl rfl rfl rfl rfl rfl ?_
        refine DX.skip 10 2047 (by kernel_rfl) rfl rfl rfl rfl rfl rfl rfl rfl ?_
        refine DX.skip 11 4095 (by kernel_rfl) rfl rfl rfl rfl rfl rfl rfl rfl ?_
        refine DX.takeW 12 8191 (by kernel_rfl) rfl rfl rfl rfl rfl (yw_pickF rfl rfl rfl) ?_
        refine DX.done (by kernel_rfl) (XX.next (V' := [(0, .slice y2.1 ((distinctF [] (fewF fs)).length) y2.2), (3, .bool true), (4, .slice y3.1 ((streams (distinctF [] (fewF fs))).length) y3.2), (5, .int .i64 ((i : Nat) : Int)), (8, .pointer (some ⟨g8, 0, none⟩)), (98, .bool false)]) ⟨rfl, rfl, rfl, rfl, rfl, rfl, trivial⟩ ?_)
        refine CX.condF rfl ?_
        refine CX.skip (XX.next (V' := [(0, .slice y2.1 ((distinctF [] (fewF fs)).length) y2.2), (3, .bool true), (4, .slice y3.1 ((streams (distinctF [] (fewF fs))).length) y3.2), (5, .int .i64 ((i : Nat) : Int)), (8, .pointer (some ⟨g8, 0, none⟩))]) ⟨rfl, rfl, rfl, rfl, rfl, trivial⟩ ?_)
        refine CX.seq ?_
        refine CX.region ?_
        refine RX.cons rfl rfl (op_w (yw_assign rfl rfl) rfl rfl ?_)
        refine RX.nil (XX.next (V' := [(0, .slice y2.1 ((distinctF [] (fewF fs)).length) y2.2), (3, .bool true), (4, .slice y3.1 ((streams (distinctF [] (fewF fs))).length) y3.2), (5, .int .i64 ((i : Nat) : Int)), (8, .pointer (some ⟨g8, 0, none⟩)), (11, .int .i64 0)]) ⟨rfl, rfl, rfl, rfl, rfl, rfl, trivial⟩ ?_)
        refine CX.seq ?_
        refine CX.seq ?_
        refine CX.region ?_
        refine RX.cons rfl rfl (op_w (yw_assign rfl rfl) rfl rfl ?_)
        refine RX.nil (XX.next (V' := [(0, .slice y2.1 ((distinctF [] (fewF fs)).length) y2.2), (3, .bool true), (4, .slice y3.1 ((streams (distinctF [] (fewF fs))).length) y3.2), (5, .int .i64 ((i : Nat) : Int)), (8, .pointer (some ⟨g8, 0, none⟩)), (11, .int .i64 0), (12, .int .i64 0)]) ⟨rfl, rfl, rfl, rfl, rfl, rfl, rfl, trivial⟩ ?_)
        refine CX.block ?_
        refine CX.loop (σ := Nat × Nat) (fun z => [(0, .slice y2.1 ((distinctF [] (fewF fs)).length) y2.2), (3, .bool true), (4, .slice y3.1 ((streams (distinctF [] (fewF fs))).length) y3.2), (5, .int .i64 ((i : Nat) : Int)), (8, .pointer (some ⟨g8, 0, none⟩)), (11, .int .i64 ((z.2 : Nat) : Int)), (12, .int .i64 ((z.1 : Nat) : Int))]) (fun z => [.blk g8 (.cells (Strm.cells s) 30 (0, 0)), .blk g6 (.cells (Fct.cells (findF (distinctF [] (fewF fs)) s)) 33 (0, 0)), .row y3.1 y3.2 30 9 (List.map Strm.cells (streams (distinctF [] (fewF fs)))), .row y2.1 y2.2 33 18 (List.map Fct.cells (distinctF [] (fewF fs))), .row y1.1 y1.2 33 18 (List.map Fct.cells (fewF fs))]) (fun z => z.1 ≤ i + 1 ∧ z.2 = (List.take z.1 (streams (distinctF [] (fewF fs)))).countP (alike s)) (fun z => i + 1 - z.1) (0, 0) ⟨Nat.zero_le _, by simp⟩ ⟨rfl, rfl, rfl, rfl, rfl, rfl, rfl, trivial⟩ rfl (fun z hI => ?_)
        obtain ⟨k, n⟩ := z
        dsimp only at hI ⊢
        obtain ⟨hk, hn2⟩ := hI
        have hn5 := alike_few (distinctF [] (fewF fs)) s k
        rw [← hn2] at hn5
        refine CX.seq ?_
        refine CX.seq ?_
        refine CX.region ?_
        refine RX.cons rfl rfl (op_w (yw_move rfl rfl) rfl rfl ?_)
        refine RX.cons rfl rfl (op_w (yw_move rfl rfl) rfl rfl ?_)
        refine RX.cons rfl rfl (op_w (yw_leq rfl rfl rfl) rfl rfl ?_)
        refine RX.nil (XX.next (V' := [(0, .slice y2.1 ((distinctF [] (fewF fs)).length) y2.2), (3, .bool true), (4, .slice y3.1 ((streams (distinctF [] (fewF fs))).length) y3.2), (5, .int .i64 ((i : Nat) : Int)), (8, .pointer (some ⟨g8, 0, none⟩)), (11, .int .i64 ((n : Nat) : Int)), (12, .int .i64 ((k : Nat) : Int)), (127, .bool (decide (((k : Nat) : Int) ≤ ((i : Nat) : Int))))]) ⟨rfl, rfl, rfl, rfl, rfl, rfl, rfl, rfl, trivial⟩ ?_)
        refine CX.condD (p := ((k : Nat) : Int) ≤ ((i : Nat) : Int)) rfl (fun c127 => ?_) (fun c127 => ?_)
        · obtain ⟨y, hy⟩ := get_some (l := (streams (distinctF [] (fewF fs)))) (k := k) (by omega)
          refine CX.skip (XX.next (V' := [(0, .slice y2.1 ((distinctF [] (fewF fs)).length) y2.2), (3, .bool true), (4, .slice y3.1 ((streams (distinctF [] (fewF fs))).length) y3.2), (5, .int .i64 ((i : Nat) : Int)), (8, .pointer (some ⟨g8, 0, none⟩)), (11, .int .i64 ((n : Nat) : Int)), (12, .int .i64 ((k : Nat) : Int))]) ⟨rfl, rfl, rfl, rfl, rfl, rfl, rfl, trivial⟩ ?_)
          refine CX.seq ?_
          refine CX.block ?_
          refine CX.seq ?_
          refine CX.draw 28 (by kernel_rfl) ?_
          refine DX.takeW 0 1 (by kernel_rfl) rfl rfl rfl rfl rfl (yw_move rfl rfl) ?_
          refine DX.takeW 1 3 (by kernel_rfl) rfl rfl rfl rfl rfl (yw_move rfl rfl) ?_
          refine DX.takeW 2 7 (by kernel_rfl) rfl rfl rfl rfl rfl (yw_index (k := k) rfl slt_23 rfl rfl (by omega) (by omega) hA) ?_
          refine DX.takeW 3 15 (by kernel_rfl) rfl rfl rfl rfl rfl (yw_field0 rfl fld_30_0 rfl) ?_
          refine DX.take 4 31 (by kernel_rfl) rfl rfl rfl rfl rfl (List.Sublist.refl _) (y_rowElemF (j := 0) (i := 2) rfl rfl one_3 rfl (map_get hy) rfl) ?_
          refine DX.takeW 5 63 (by kernel_rfl) rfl rfl rfl rfl rfl (yw_field0 rfl fld_30_0 rfl) ?_
          refine DX.take 6 127 (by kernel_rfl) rfl rfl rfl rfl rfl (List.Sublist.refl _) (y_load (i := 0) rfl rfl one_3 rfl rfl) ?_
          refine DX.takeW 7 255 (by kernel_rfl) rfl rfl rfl rfl rfl (yw_eql rfl rfl rfl) ?_
          refine DX.takeW 8 511 (by kernel_rfl) rfl rfl rfl rfl rfl (yw_move rfl rfl) ?_
          refine DX.splitD (t := 138) (p := y.device = s.device) rfl (fun d138 => ?_) (fun d138 => ?_)
          · refine DX.takeWG 9 1023 (by kernel_rfl) rfl rfl rfl rfl rfl rfl rfl rfl (yw_move rfl rfl) ?_
            refine DX.takeWG 10 2047 (by kernel_rfl) rfl rfl rfl rfl rfl rfl rfl rfl (yw_move rfl rfl) ?_
            refine DX.takeWG 11 4095 (by kernel_rfl) rfl rfl rfl rfl rfl rfl rfl rfl (yw_index (k := k) rfl slt_23 rfl rfl (by omega) (by omega) hA) ?_
            refine DX.takeWG 12 8191 (by kernel_rfl) rfl rfl rfl rfl rfl rfl rfl rfl (yw_fieldAddr rfl fld_30_7 rfl) ?_
            refine DX.takeG 13 16383 (by kernel_rfl) rfl rfl rfl rfl rfl rfl rfl rfl (List.Sublist.refl _) (y_rowElemF (i := 2) rfl rfl one_3 rfl (map_get hy) rfl) ?_
            refine DX.takeWG 14 32767 (by kernel_rfl) rfl rfl rfl rfl rfl rfl rfl rfl (yw_fieldAddr rfl fld_30_7 rfl) ?_
            refine DX.takeG 15 65535 (by kernel_rfl) rfl rfl rfl rfl rfl rfl rfl rfl (List.Sublist.refl _) (y_load (i := 0) rfl rfl one_3 rfl rfl) ?_
            refine DX.takeWG 16 131071 (by kernel_rfl) rfl rfl rfl rfl rfl rfl rfl rfl (yw_eql rfl rfl rfl) ?_
            refine DX.takeW 17 262143 (by kernel_rfl) rfl rfl rfl rfl rfl (yw_pickT rfl rfl rfl) ?_
            refine DX.takeW 18 524287 (by kernel_rfl) rfl rfl rfl rfl rfl (yw_move rfl rfl) ?_
            refine DX.splitD (t := 148) (p := y.session = s.session) rfl (fun d148 => ?_) (fun d148 => ?_)
            · refine DX.takeWG 19 1048575 (by kernel_rfl) rfl rfl rfl rfl rfl rfl rfl rfl (yw_move rfl rfl) ?_
              refine DX.takeWG 20 2097151 (by kernel_rfl) rfl rfl rfl rfl rfl rfl rfl rfl (yw_move rfl rfl) ?_
              refine DX.takeWG 21 4194303 (by kernel_rfl) rfl rfl rfl rfl rfl rfl rfl rfl (yw_index (k := k) rfl slt_23 rfl rfl (by omega) (by omega) hA) ?_
              refine DX.takeWG 22 8388607 (by kernel_rfl) rfl rfl rfl rfl rfl rfl rfl rfl (yw_fieldAddr rfl fld_30_3 rfl) ?_
              refine DX.takeG 23 16777215 (by kernel_rfl) rfl rfl rfl rfl rfl rfl rfl rfl (List.Sublist.refl _) (y_rowElemF (i := 2) rfl rfl one_3 rfl (map_get hy) rfl) ?_
              refine DX.takeWG 24 33554431 (by kernel_rfl) rfl rfl rfl rfl rfl rfl rfl rfl (yw_fieldAddr rfl fld_30_3 rfl) ?_
              refine DX.takeG 25 67108863 (by kernel_rfl) rfl rfl rfl rfl rfl rfl rfl rfl (List.Sublist.refl _) (y_load (i := 0) rfl rfl one_3 rfl rfl) ?_
              refine DX.takeWG 26 134217727 (by kernel_rfl) rfl rfl rfl rfl rfl rfl rfl rfl (yw_eql rfl rfl rfl) ?_
              refine DX.takeW 27 268435455 (by kernel_rfl) rfl rfl rfl rfl rfl (yw_pickT rfl rfl rfl) ?_
              refine DX.done (by kernel_rfl) (XX.next (V' := [(0, .slice y2.1 ((distinctF [] (fewF fs)).length) y2.2), (3, .bool true), (4, .slice y3.1 ((streams (distinctF [] (fewF fs))).length) y3.2), (5, .int .i64 ((i : Nat) : Int)), (8, .pointer (some ⟨g8, 0, none⟩)), (11, .int .i64 ((n : Nat) : Int)), (12, .int .i64 ((k : Nat) : Int)), (157, .bool (decide (y.recording = s.recording)))]) ⟨rfl, rfl, rfl, rfl, rfl, rfl, rfl, rfl, trivial⟩ ?_)
              refine CX.condD (p := y.recording = s.recording) rfl (fun c157 => ?_) (fun c157 => ?_)
              · refine CX.region ?_
                refine RX.cons rfl rfl (op_w (yw_move rfl rfl) rfl rfl ?_)
                refine RX.cons rfl rfl (op_w (yw_add rfl rfl rfl (by omega) (by omega)) rfl rfl ?_)
                refine RX.cons rfl rfl (op_w (yw_assign rfl rfl) rfl rfl ?_)
                refine RX.nil (XX.inBlock (V' := [(0, .slice y2.1 ((distinctF [] (fewF fs)).length) y2.2), (3, .bool true), (4, .slice y3.1 ((streams (distinctF [] (fewF fs))).length) y3.2), (5, .int .i64 ((i : Nat) : Int)), (8, .pointer (some ⟨g8, 0, none⟩)), (11, .int .i64 (((n : Nat) : Int) + 1)), (12, .int .i64 ((k : Nat) : Int))]) ⟨rfl, rfl, rfl, rfl, rfl, rfl, rfl, trivial⟩ ?_)
                refine XX.next (V' := [(0, .slice y2.1 ((distinctF [] (fewF fs)).length) y2.2), (3, .bool true), (4, .slice y3.1 ((streams (distinctF [] (fewF fs))).length) y3.2), (5, .int .i64 ((i : Nat) : Int)), (8, .pointer (some ⟨g8, 0, none⟩)), (11, .int .i64 (((n : Nat) : Int) + 1)), (12, .int .i64 ((k : Nat) : Int))]) ⟨rfl, rfl, rfl, rfl, rfl, rfl, rfl, trivial⟩ ?_
                refine CX.region ?_
                refine RX.cons rfl rfl (op_w (yw_move rfl rfl) rfl rfl ?_)
                refine RX.cons rfl rfl (op_w (yw_add rfl rfl rfl (by omega) (by omega)) rfl rfl ?_)
                refine RX.cons rfl rfl (op_w (yw_assign rfl rfl) rfl rfl ?_)
                refine RX.nil (XX.againP ([]) (k + 1, n + 1) (by dsimp only; omega) ⟨by dsimp only; omega, by dsimp only; rw [countP_succ hy, ← hn2]; simp [d138, d148, c157, alike]⟩ ⟨rfl, rfl, rfl, rfl, rfl, rfl, rfl, trivial⟩ ((perm_pick 0 rfl).trans (List.Perm.cons _ ((perm_pick 0 rfl).trans (List.Perm.cons _ ((perm_pick 0 rfl).trans (List.Perm.cons _ ((perm_pick 0 rfl).trans (List.Perm.cons _ ((perm_pick 0 rfl).trans (List.Perm.cons _ (List.Perm.refl _))))))))))))
              · refine CX.skip (XX.inBlock (V' := [(0, .slice y2.1 ((distinctF [] (fewF fs)).length) y2.2), (3, .bool true), (4, .slice y3.1 ((streams (distinctF [] (fewF fs))).length) y3.2), (5, .int .i64 ((i : Nat) : Int)), (8, .pointer (some ⟨g8, 0, none⟩)), (11, .int .i64 ((n : Nat) : Int)), (12, .int .i64 ((k : Nat) : Int))]) ⟨rfl, rfl, rfl, rfl, rfl, rfl, rfl, trivial⟩ ?_)
                refine XX.next (V' := [(0, .slice y2.1 ((distinctF [] (fewF fs)).length) y2.2), (3, .bool true), (4, .slice y3.1 ((streams (distinctF [] (fewF fs))).length) y3.2), (5, .int .i64 ((i : Nat) : Int)), (8, .pointer (some ⟨g8, 0, none⟩)), (11, .int .i64 ((n : Nat) : Int)), (12, .int .i64 ((k : Nat) : Int))]) ⟨rfl, rfl, rfl, rfl, rfl, rfl, rfl, trivial⟩ ?_
                refine CX.region ?_
                refine RX.cons rfl rfl (op_w (yw_move rfl rfl) rfl rfl ?_)
                refine RX.cons rfl rfl (op_w (yw_add rfl rfl rfl (by omega) (by omega)) rfl rfl ?_)
                refine RX.cons rfl rfl (op_w (yw_assign rfl rfl) rfl rfl ?_)
                refine RX.nil (XX.againP ([]) (k + 1, n) (by dsimp only; omega) ⟨by dsimp only; omega, by dsimp only; rw [countP_succ hy, ← hn2]; simp [d138, d148, c157, alike]⟩ ⟨rfl, rfl, rfl, rfl, rfl, rfl, rfl, trivial⟩ ((perm_pick 0 rfl).trans (List.Perm.cons _ ((perm_pick 0 rfl).trans (List.Perm.cons _ ((perm_pick 0 rfl).trans (List.Perm.cons _ ((perm_pick 0 rfl).trans (List.Perm.cons _ ((perm_pick 0 rfl).trans (List.Perm.cons _ (List.Perm.refl _))))))))))))
            · refine DX.skip 19 1048575 (by kernel_rfl) rfl rfl rfl rfl rfl rfl rfl rfl ?_
              refine DX.skip 20 2097151 (by kernel_rfl) rfl rfl rfl rfl rfl rfl rfl rfl ?_
              refine DX.skip 21 4194303 (by kernel_rfl) rfl rfl rfl rfl rfl rfl rfl rfl ?_
              refine DX.skip 22 8388607 (by kernel_rfl) rfl rfl rfl rfl rfl rfl rfl rfl ?_
              refine DX.skip 23 16777215 (by kernel_rfl) rfl rfl rfl rfl rfl rfl rfl rfl ?_
              refine DX.skip 24 33554431 (by kernel_rfl) rfl rfl rfl rfl rfl rfl rfl rfl ?_
              refine DX.skip 25 67108863 (by kernel_rfl) rfl rfl rfl rfl rfl rfl rfl rfl ?_
              refine DX.skip 26 134217727 (by kernel_rfl) rfl rfl rfl rfl rfl rfl rfl rfl ?_
              refine DX.takeW 27 268435455 (by kernel_rfl) rfl rfl rfl rfl rfl (yw_pickF rfl rfl rfl) ?_
              refine DX.done (by kernel_rfl) (XX.next (V' := [(0, .slice y2.1 ((distinctF [] (fewF fs)).length) y2.2), (3, .bool true), (4, .slice y3.1 ((streams (distinctF [] (fewF fs))).length) y3.2), (5, .int .i64 ((i : Nat) : Int)), (8, .pointer (some ⟨g8, 0, none⟩)), (11, .int .i64 ((n : Nat) : Int)), (12, .int .i64 ((k : Nat) : Int)), (157, .bool false)]) ⟨rfl, rfl, rfl, rfl, rfl, rfl, rfl, rfl, trivial⟩ ?_)
              refine CX.condF rfl ?_
              refine CX.skip (XX.inBlock (V' := [(0, .slice y2.1 ((distinctF [] (fewF fs)).length) y2.2), (3, .bool true), (4, .slice y3.1 ((streams (distinctF [] (fewF fs))).length) y3.2), (5, .int .i64 ((i : Nat) : Int)), (8, .pointer (some ⟨g8, 0, none⟩)), (11, .int .i64 ((n : Nat) : Int)), (12, .int .i64 ((k : Nat) : Int))]) ⟨rfl, rfl, rfl, rfl, rfl, rfl, rfl, trivial⟩ ?_)
              refine XX.next (V' := [(0, .slice y2.1 ((distinctF [] (fewF fs)).length) y2.2), (3, .bool true), (4, .slice y3.1 ((streams (distinctF [] (fewF fs))).length) y3.2), (5, .int .i64 ((i : Nat) : Int)), (8, .pointer (some ⟨g8, 0, none⟩)), (11, .int .i64 ((n : Nat) : Int)), (12, .int .i64 ((k : Nat) : Int))]) ⟨rfl, rfl, rfl, rfl, rfl, rfl, rfl, trivial⟩ ?_
              refine CX.region ?_
              refine RX.cons rfl rfl (op_w (yw_move rfl rfl) rfl rfl ?_)
              refine RX.cons rfl rfl (op_w (yw_add rfl rfl rfl (by omega) (by omega)) rfl rfl ?_)
              refine RX.cons rfl rfl (op_w (yw_assign rfl rfl) rfl rfl ?_)
              refine RX.nil (XX.againP ([]) (k + 1, n) (by dsimp only; omega) ⟨by dsimp only; omega, by dsimp only; rw [countP_succ hy, ← hn2]; simp [d138, d148, alike]⟩ ⟨rfl, rfl, rfl, rfl, rfl, rfl, rfl, trivial⟩ ((perm_pick 0 rfl).trans (List.Perm.cons _ ((perm_pick 0 rfl).trans (List.Perm.cons _ ((perm_pick 0 rfl).trans (List.Perm.cons _ ((perm_pick 0 rfl).trans (List.Perm.cons _ ((perm_pick 0 rfl).trans (List.Perm.cons _ (List.Perm.refl _))))))))))))
          · refine DX.skip 9 1023 (by kernel_rfl) rfl rfl rfl rfl rfl rfl rfl rfl ?_
            refine DX.skip 10 2047 (by kernel_rfl) rfl rfl rfl rfl rfl rfl rfl rfl ?_
            refine DX.skip 11 4095 (by kernel_rfl) rfl rfl rfl rfl rfl rfl rfl rfl ?_
            refine DX.skip 12 8191 (by kernel_rfl) rfl rfl rfl rfl rfl rfl rfl rfl ?_
            refine DX.skip 13 16383 (by kernel_rfl) rfl rfl rfl rfl rfl rfl rfl rfl ?_
            refine DX.skip 14 32767 (by kernel_rfl) rfl rfl rfl rfl rfl rfl rfl rfl ?_
            refine DX.skip 15 65535 (by kernel_rfl) rfl rfl rfl rfl rfl rfl rfl rfl ?_
            refine DX.skip 16 131071 (by kernel_rfl) rfl rfl rfl rfl rfl rfl rfl rfl ?_
            refine DX.takeW 17 262143 (by kernel_rfl) rfl rfl rfl rfl rfl (yw_pickF rfl rfl rfl) ?_
            refine DX.takeW 18 524287 (by kernel_rfl) rfl rfl rfl rfl rfl (yw_move rfl rfl) ?_
            refine DX.skip 19 1048575 (by kernel_rfl) rfl rfl rfl rfl rfl rfl rfl rfl ?_
            refine DX.skip 20 2097151 (by kernel_rfl) rfl rfl rfl rfl rfl rfl rfl rfl ?_
            refine DX.skip 21 4194303 (by kernel_rfl) rfl rfl rfl rfl rfl rfl rfl rfl ?_
            refine DX.skip 22 8388607 (by kernel_rfl) rfl rfl rfl rfl rfl rfl rfl rfl ?_
            refine DX.skip 23 16777215 (by kernel_rfl) rfl rfl rfl rfl rfl rfl rfl rfl ?_
            refine DX.skip 24 33554431 (by kernel_rfl) rfl rfl rfl rfl rfl rfl rfl rfl ?_
            refine DX.skip 25 67108863 (by kernel_rfl) rfl rfl rfl rfl rfl rfl rfl rfl ?_
            refine DX.skip 26 134217727 (by kernel_rfl) rfl rfl rfl rfl rfl rfl rfl rfl ?_
            refine DX.takeW 27 268435455 (by kernel_rfl) rfl rfl rfl rfl rfl (yw_pickF rfl rfl rfl) ?_
            refine DX.done (by kernel_rfl) (XX.next (V' := [(0, .slice y2.1 ((distinctF [] (fewF fs)).length) y2.2), (3, .bool true), (4, .slice y3.1 ((streams (distinctF [] (fewF fs))).length) y3.2), (5, .int .i64 ((i : Nat) : Int)), (8, .pointer (some ⟨g8, 0, none⟩)), (11, .int .i64 ((n : Nat) : Int)), (12, .int .i64 ((k : Nat) : Int)), (157, .bool false)]) ⟨rfl, rfl, rfl, rfl, rfl, rfl, rfl, rfl, trivial⟩ ?_)
            refine CX.condF rfl ?_
            refine CX.skip (XX.inBlock (V' := [(0, .slice y2.1 ((distinctF [] (fewF fs)).length) y2.2), (3, .bool true), (4, .slice y3.1 ((streams (distinctF [] (fewF fs))).length) y3.2), (5, .int .i64 ((i : Nat) : Int)), (8, .pointer (some ⟨g8, 0, none⟩)), (11, .int .i64 ((n : Nat) : Int)), (12, .int .i64 ((k : Nat) : Int))]) ⟨rfl, rfl, rfl, rfl, rfl, rfl, rfl, trivial⟩ ?_)
            refine XX.next (V' := [(0, .slice y2.1 ((distinctF [] (fewF fs)).length) y2.2), (3, .bool true), (4, .slice y3.1 ((streams (distinctF [] (fewF fs))).length) y3.2), (5, .int .i64 ((i : Nat) : Int)), (8, .pointer (some ⟨g8, 0, none⟩)), (11, .int .i64 ((n : Nat) : Int)), (12, .int .i64 ((k : Nat) : Int))]) ⟨rfl, rfl, rfl, rfl, rfl, rfl, rfl, trivial⟩ ?_
            refine CX.region ?_
            refine RX.cons rfl rfl (op_w (yw_move rfl rfl) rfl rfl ?_)
            refine RX.cons rfl rfl (op_w (yw_add rfl rfl rfl (by omega) (by omega)) rfl rfl ?_)
            refine RX.cons rfl rfl (op_w (yw_assign rfl rfl) rfl rfl ?_)
            refine RX.nil (XX.againP ([]) (k + 1, n) (by dsimp only; omega) ⟨by dsimp only; omega, by dsimp only; rw [countP_succ hy, ← hn2]; simp [d138, alike]⟩ ⟨rfl, rfl, rfl, rfl, rfl, rfl, rfl, trivial⟩ ((perm_pick 0 rfl).trans (List.Perm.cons _ ((perm_pick 0 rfl).trans (List.Perm.cons _ ((perm_pick 0 rfl).trans (List.Perm.cons _ ((perm_pick 0 rfl).trans (List.Perm.cons _ ((perm_pick 0 rfl).trans (List.Perm.cons _ (List.Perm.refl _))))))))))))
        · refine CX.exit ?_
          refine XX.then_exit ?_
          refine XX.then_exit ?_
          refine XX.block_exit ?_
          refine XX.next (V' := [(0, .slice y2.1 ((distinctF [] (fewF fs)).length) y2.2), (3, .bool true), (4, .slice y3.1 ((streams (distinctF [] (fewF fs))).length) y3.2), (5, .int .i64 ((i : Nat) : Int)), (11, .int .i64 ((n : Nat) : Int))]) ⟨rfl, rfl, rfl, rfl, rfl, trivial⟩ ?_
          refine CX.seq ?_
          refine CX.region ?_
          refine RX.cons rfl rfl (op_w (yw_move rfl rfl) rfl rfl ?_)
          refine RX.cons rfl rfl (op_w (yw_gtr rfl rfl rfl) rfl rfl ?_)
          refine RX.nil (XX.next (V' := [(0, .slice y2.1 ((distinctF [] (fewF fs)).length) y2.2), (3, .bool true), (4, .slice y3.1 ((streams (distinctF [] (fewF fs))).length) y3.2), (5, .int .i64 ((i : Nat) : Int)), (161, .bool (decide (5 < ((n : Nat) : Int))))]) ⟨rfl, rfl, rfl, rfl, rfl, trivial⟩ ?_)
          refine CX.condD (p := 5 < ((n : Nat) : Int)) rfl (fun c161 => ?_) (fun c161 => ?_)
          · exfalso; omega
          · refine CX.skip (XX.inBlock (V' := [(0, .slice y2.1 ((distinctF [] (fewF fs)).length) y2.2), (3, .bool true), (4, .slice y3.1 ((streams (distinctF [] (fewF fs))).length) y3.2), (5, .int .i64 ((i : Nat) : Int))]) ⟨rfl, rfl, rfl, rfl, trivial⟩ ?_)
            refine XX.next (V' := [(0, .slice y2.1 ((distinctF [] (fewF fs)).length) y2.2), (3, .bool true), (4, .slice y3.1 ((streams (distinctF [] (fewF fs))).length) y3.2), (5, .int .i64 ((i : Nat) : Int))]) ⟨rfl, rfl, rfl, rfl, trivial⟩ ?_
            refine CX.region ?_
            refine RX.cons rfl rfl (op_w (yw_move rfl rfl) rfl rfl ?_)
            refine RX.cons rfl rfl (op_w (yw_add rfl rfl rfl (by omega) (by omega)) rfl rfl ?_)
            refine RX.cons rfl rfl (op_w (yw_assign rfl rfl) rfl rfl ?_)
            refine RX.nil (XX.againP ([.blk g8 (.cells (Strm.cells s) 30 (0, 0)), .blk g6 (.cells (Fct.cells (findF (distinctF [] (fewF fs)) s)) 33 (0, 0))]) (i + 1) (by omega) (by omega) ⟨rfl, rfl, rfl, rfl, trivial⟩ ((perm_pick 2 rfl).trans (List.Perm.cons _ ((perm_pick 2 rfl).trans (List.Perm.cons _ ((perm_pick 2 rfl).trans (List.Perm.cons _ (List.Perm.refl _))))))))
  · refine CX.exit ?_
    refine XX.then_exit ?_
    refine XX.then_exit ?_
    refine XX.block_exit ?_
    refine XX.next (V' := [(3, .bool true)]) ⟨rfl, trivial⟩ ?_
    refine CX.seq ?_
    refine CX.region ?_
    refine RX.cons rfl rfl (op_w (yw_move rfl rfl) rfl rfl ?_)
    refine RX.cons rfl rfl (op_w (yw_assign rfl rfl) rfl rfl ?_)
    refine RX.nil (XX.next (V' := [(2, .bool true)]) ⟨rfl, trivial⟩ ?_)
    refine CX.ret ?_
    exact ret_tmp rfl rfl fun w1 hw => ⟨rfl, hw.sub (List.nil_sublist _)⟩

end Go.Proofs.YtmndhiaaolfepaaDoor
