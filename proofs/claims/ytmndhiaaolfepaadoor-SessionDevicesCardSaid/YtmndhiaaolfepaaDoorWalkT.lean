/- Walks, printed by a program. -/
import Derived.Test.YtmndhiaaolfepaaDoorWalkS
import Derived.Test.YtmndhiaaolfepaaDoorLast
import Derived.Test.YtmndhiaaolfepaaDoorAid
namespace Go.Proofs.YtmndhiaaolfepaaDoor
set_option linter.all false
open Go Go.RowKit
set_option maxRecDepth 100000
theorem ent_8 : ∀ args w, (callFunc 8 args).run Tryd.prog w = .ok (.enter 8 args) w := enters_of Tryd.func8 (by kernel_rfl) rfl
theorem ent_11 : ∀ args w, (callFunc 11 args).run Tryd.prog w = .ok (.enter 11 args) w := enters_of Tryd.func11 (by kernel_rfl) rfl
theorem ent_9 : ∀ args w, (callFunc 9 args).run Tryd.prog w = .ok (.enter 9 args) w := enters_of Tryd.func9 (by kernel_rfl) rfl
theorem ent_13 : ∀ args w, (callFunc 13 args).run Tryd.prog w = .ok (.enter 13 args) w := enters_of Tryd.func13 (by kernel_rfl) rfl
set_option maxRecDepth 100000 in
theorem w_periods {w : World} {A B : Option Addr} {cap cb : Nat} (fs : List Fct) (ss : List Strm) (p : Int) (hG : Lens w) (hr : Rd w A 18 (fs.map Fct.cells)) (hn : fs.length ≤ 9223372036854775807) (hx : ∀ f ∈ fs, f.text.size ≤ 9223372036854775807) (hr2 : Rd w B 9 (ss.map Strm.cells)) (hcb : ss.length ≤ cb) :
    Calls Tryd.prog 3 #[.slice A fs.length cap, .slice B ss.length cb, .int .i64 p] w (fun e w' => e = .returned (.bool true) ∧ SL w [] w' []) := by
  obtain ⟨ts, hts⟩ : ∃ ts, ts = ss.take 60 := ⟨_, rfl⟩
  have htl : ts.length = min ss.length 60 := by rw [hts, List.length_take]; omega
  have hrt : Rd w B 9 (ts.map Strm.cells) := by rw [hts, List.map_take]; exact hr2.take 60
  have hgl := few_length fs
  have hul := streams_length (fewF fs)
  have hper := stream_period (fewF fs)
  refine calls_of_CX (O := []) (L := []) (args := [.slice A fs.length cap, .slice B ss.length cb, .int .i64 p]) Tryd.func3 rfl (by simp [Tryd.ntmps3]) (SL.refl w) ?_
  refine CX.sub (V' := [(0, .slice A fs.length cap), (1, .slice B ss.length cb), (2, .int .i64 p)]) ⟨rfl, rfl, rfl, trivial⟩ ?_
  refine CX.seq ?_
  refine CX.region ?_
  refine RX.cons rfl rfl (op_w (yw_assign rfl rfl) rfl rfl ?_)
  refine RX.nil (XX.next (V' := [(0, .slice A fs.length cap), (1, .slice B ss.length cb), (2, .int .i64 p)]) ⟨rfl, rfl, rfl, trivial⟩ ?_)
  refine CX.seq ?_
  refine CX.region ?_
  refine RX.cons rfl rfl (op_callV (v := .bool true) rfl rfl rfl rfl rfl ent_8 (fun w hw => w_sane (hG.keep hw (by simp))) ?_)
  refine RX.cons rfl rfl (op_w (yw_assign rfl rfl) rfl rfl ?_)
  refine RX.nil (XX.next (V' := [(0, .slice A fs.length cap), (1, .slice B ss.length cb), (2, .int .i64 p), (7, .bool true)]) ⟨rfl, rfl, rfl, rfl, trivial⟩ ?_)
  refine CX.seq ?_
  refine CX.region ?_
  refine RX.cons rfl rfl (op_w (yw_move rfl rfl) rfl rfl ?_)
  refine RX.cons rfl rfl (op_w (yw_move rfl rfl) rfl rfl ?_)
  refine RX.cons rfl rfl (op_w (yw_lenS rfl Tryd.underlying23 rfl) rfl rfl ?_)
  refine RX.cons rfl rfl (op_w (yw_min rfl rfl rfl) rfl rfl ?_)
  refine RX.cons rfl rfl (op_w (yw_sliceTo (k := ts.length) rfl slt_23 rfl rfl (by omega) (by omega)) rfl rfl ?_)
  refine RX.cons rfl rfl (op_w (yw_assign rfl rfl) rfl rfl ?_)
  refine RX.nil (XX.next (V' := [(0, .slice A fs.length cap), (1, .slice B ts.length cb), (2, .int .i64 p), (7, .bool true)]) ⟨rfl, rfl, rfl, rfl, trivial⟩ ?_)
  refine CX.seq ?_
  refine CX.seq ?_
  refine CX.region ?_
  refine RX.cons rfl rfl (op_w (yw_move rfl rfl) rfl rfl ?_)
  refine RX.cons rfl rfl (op_w (yw_move rfl rfl) rfl rfl ?_)
  refine RX.cons rfl rfl (op_callE rfl rfl rfl rfl rfl ent_10 (fun w hw => w_periodF ts p (hw.rd hrt (by simp)) (by omega)) (fun y1 _ => ?_))
  refine RX.cons rfl rfl (op_w (yw_move rfl rfl) rfl rfl ?_)
  refine RX.cons rfl rfl (op_w (yw_move rfl rfl) rfl rfl ?_)
  refine RX.cons rfl rfl (op_callE rfl rfl rfl rfl rfl ent_11 (fun w hw => w_refPeriodOf ts p (hw.rd hrt (by simp)) (by omega)) (fun y2 _ => ?_))
  refine RX.cons rfl rfl (op_callV (v := .bool (decide ((List.filter (inPeriod p) ts) = (List.filter (inPeriod p) ts)))) rfl rfl rfl rfl rfl ent_9 (fun w hw => w_same (List.filter (inPeriod p) ts) (List.filter (inPeriod p) ts) (Ent.rd (hw.ents _ (List.mem_of_getElem? (i := 1) rfl))) (Ent.rd (hw.ents _ (List.mem_of_getElem? (i := 0) rfl))) (by have := List.length_filter_le (inPeriod p) ts; omega)) ?_)
  refine RX.know (t := 26) (u := .bool true) rfl (congrArg Value.bool (decide_eq_true rfl)) ?_
  refine RX.cons rfl rfl (op_w (yw_not rfl rfl) rfl rfl ?_)
  refine RX.nil (XX.next (V' := [(0, .slice A fs.length cap), (7, .bool true), (27, .bool false)]) ⟨rfl, rfl, rfl, trivial⟩ ?_)
  refine CX.condF rfl ?_
  refine CX.skip (XX.next (V' := [(0, .slice A fs.length cap), (7, .bool true)]) ⟨rfl, rfl, trivial⟩ ?_)
  refine CX.seq ?_
  refine CX.region ?_
  refine RX.cons rfl rfl (op_w (yw_move rfl rfl) rfl rfl ?_)
  refine RX.cons rfl rfl (op_callE rfl rfl rfl rfl rfl ent_13 (fun w hw => w_few fs (hw.rd hr (by simp)) hn hx) (fun y3 _ => ?_))
  refine RX.cons rfl rfl (op_callE rfl rfl rfl rfl rfl ent_12 (fun w hw => w_streams (fewF fs) (Ent.rd (hw.ents _ (List.mem_of_getElem? (i := 0) rfl))) (by omega) (hG.keep hw (by simp))) (fun y4 _ => ?_))
  refine RX.cons rfl rfl (op_w (yw_assign rfl rfl) rfl rfl ?_)
  refine RX.nil (XX.next (V' := [(7, .bool true), (8, .slice y4.1 ((streams (fewF fs)).length) y4.2)]) ⟨rfl, rfl, trivial⟩ ?_)
  refine CX.seq ?_
  refine CX.region ?_
  refine RX.cons rfl rfl (op_w (yw_assign rfl rfl) rfl rfl ?_)
  refine RX.nil (XX.next (V' := [(7, .bool true), (8, .slice y4.1 ((streams (fewF fs)).length) y4.2), (9, .int .i64 0)]) ⟨rfl, rfl, rfl, trivial⟩ ?_)
  refine CX.seq ?_
  refine CX.region ?_
  refine RX.cons rfl rfl (op_w (yw_assign rfl rfl) rfl rfl ?_)
  refine RX.nil (XX.next (V' := [(7, .bool true), (8, .slice y4.1 ((streams (fewF fs)).length) y4.2), (9, .int .i64 0), (10, .int .i64 (-1))]) ⟨rfl, rfl, rfl, rfl, trivial⟩ ?_)
  refine CX.seq ?_
  refine CX.seq ?_
  refine CX.region ?_
  refine RX.cons rfl rfl (op_w (yw_assign rfl rfl) rfl rfl ?_)
  refine RX.nil (XX.next (V' := [(7, .bool true), (8, .slice y4.1 ((streams (fewF fs)).length) y4.2), (9, .int .i64 0), (10, .int .i64 (-1)), (11, .int .i64 0)]) ⟨rfl, rfl, rfl, rfl, rfl, trivial⟩ ?_)
  refine CX.block ?_
  refine CX.loop (σ := Nat × Int × Nat) (fun z => [(7, .bool true), (8, .slice y4.1 ((streams (fewF fs)).length) y4.2), (9, .int .i64 ((z.2.2 : Nat) : Int)), (10, .int .i64 z.2.1), (11, .int .i64 ((z.1 : Nat) : Int))]) (fun z => [.row y4.1 y4.2 30 9 (List.map Strm.cells (streams (fewF fs))), .row y3.1 y3.2 33 18 (List.map Fct.cells (fewF fs)), .row y2.1 y2.2 30 9 (List.map Strm.cells (List.filter (inPeriod p) ts)), .row y1.1 y1.2 30 9 (List.map Strm.cells (List.filter (inPeriod p) ts))]) (fun z => z.1 ≤ (streams (fewF fs)).length ∧ z.2.2 = cntP (streams (fewF fs)) z.1 ∧ (z.2.1 = -1 ∨ ∃ s ∈ List.take z.1 (streams (fewF fs)), s.period = z.2.1)) (fun z => (streams (fewF fs)).length - z.1) (0, -1, 0) ⟨Nat.zero_le _, (cntP_zero _).symm, .inl rfl⟩ ⟨rfl, rfl, rfl, rfl, rfl, trivial⟩ rfl (fun z hI => ?_)
  obtain ⟨i, q, n⟩ := z
  dsimp only at hI ⊢
  obtain ⟨hi, hn', hq⟩ := hI
  have hnl := cntP_le (streams (fewF fs)) i
  refine CX.seq ?_
  refine CX.seq ?_
  refine CX.region ?_
  refine RX.cons rfl rfl (op_w (yw_move rfl rfl) rfl rfl ?_)
  refine RX.cons rfl rfl (op_w (yw_move rfl rfl) rfl rfl ?_)
  refine RX.cons rfl rfl (op_w (yw_lenS rfl Tryd.underlying23 rfl) rfl rfl ?_)
  refine RX.cons rfl rfl (op_w (yw_lss rfl rfl rfl) rfl rfl ?_)
  refine RX.nil (XX.next (V' := [(7, .bool true), (8, .slice y4.1 ((streams (fewF fs)).length) y4.2), (9, .int .i64 ((n : Nat) : Int)), (10, .int .i64 q), (11, .int .i64 ((i : Nat) : Int)), (34, .bool (decide (((i : Nat) : Int) < (((streams (fewF fs)).length : Nat) : Int))))]) ⟨rfl, rfl, rfl, rfl, rfl, rfl, trivial⟩ ?_)
  refine CX.condD (p := ((i : Nat) : Int) < (((streams (fewF fs)).length : Nat) : Int)) rfl (fun c34 => ?_) (fun c34 => ?_)
  · obtain ⟨s, hs⟩ := get_some (l := (streams (fewF fs))) (k := i) (by omega)
    have hsp := hper s (List.mem_of_getElem? hs)
    refine CX.rowSome 0 rfl (by simp; omega) (fun hA => ?_)
    refine CX.skip (XX.next (V' := [(7, .bool true), (8, .slice y4.1 ((streams (fewF fs)).length) y4.2), (9, .int .i64 ((n : Nat) : Int)), (10, .int .i64 q), (11, .int .i64 ((i : Nat) : Int))]) ⟨rfl, rfl, rfl, rfl, rfl, trivial⟩ ?_)
    refine CX.seq ?_
    refine CX.block ?_
    refine CX.seq ?_
    refine CX.seq ?_
    refine CX.region ?_
    refine RX.cons rfl rfl (op_w (yw_move rfl rfl) rfl rfl ?_)
    refine RX.cons rfl rfl (op_w (yw_move rfl rfl) rfl rfl ?_)
    refine RX.cons rfl rfl (op_w (yw_index (k := i) rfl slt_23 rfl rfl (by omega) (by omega) hA) rfl rfl ?_)
    refine RX.cons rfl rfl (op_w (yw_fieldAddr rfl fld_30_6 rfl) rfl rfl ?_)
    refine RX.cons rfl rfl (op_yld (y_rowElemF (i := 0) rfl rfl one_3 rfl (map_get hs) rfl) rfl rfl ?_)
    refine RX.cons rfl rfl (op_w (yw_lss rfl rfl rfl) rfl rfl ?_)
    refine RX.cons rfl rfl (op_w (yw_move rfl rfl) rfl rfl ?_)
    refine RX.splitD (t := 43) (p := s.period < 0) rfl (fun d43 => ?_) (fun d43 => ?_)
    · exfalso; omega
    · refine RX.consG rfl rfl rfl rfl rfl (op_w (yw_move rfl rfl) rfl rfl ?_)
      refine RX.consG rfl rfl rfl rfl rfl (op_w (yw_move rfl rfl) rfl rfl ?_)
      refine RX.consG rfl rfl rfl rfl rfl (op_w (yw_index (k := i) rfl slt_23 rfl rfl (by omega) (by omega) hA) rfl rfl ?_)
      refine RX.consG rfl rfl rfl rfl rfl (op_w (yw_fieldAddr rfl fld_30_6 rfl) rfl rfl ?_)
      refine RX.consG rfl rfl rfl rfl rfl (op_yld (y_rowElemF (i := 0) rfl rfl one_3 rfl (map_get hs) rfl) rfl rfl ?_)
      refine RX.consG rfl rfl rfl rfl rfl (op_w (yw_geq rfl rfl rfl) rfl rfl ?_)
      refine RX.cons rfl rfl (op_w (yw_pickF rfl rfl rfl) rfl rfl ?_)
      refine RX.nil (XX.next (V' := [(7, .bool true), (8, .slice y4.1 ((streams (fewF fs)).length) y4.2), (9, .int .i64 ((n : Nat) : Int)), (10, .int .i64 q), (11, .int .i64 ((i : Nat) : Int)), (50, .bool (decide (1200 ≤ s.period)))]) ⟨rfl, rfl, rfl, rfl, rfl, rfl, trivial⟩ ?_)
      refine CX.condD (p := 1200 ≤ s.period) rfl (fun c50 => ?_) (fun c50 => ?_)
      · exfalso; omega
      · refine CX.skip (XX.next (V' := [(7, .bool true), (8, .slice y4.1 ((streams (fewF fs)).length) y4.2), (9, .int .i64 ((n : Nat) : Int)), (10, .int .i64 q), (11, .int .i64 ((i : Nat) : Int))]) ⟨rfl, rfl, rfl, rfl, rfl, trivial⟩ ?_)
        refine CX.seq ?_
        refine CX.region ?_
        refine RX.cons rfl rfl (op_w (yw_move rfl rfl) rfl rfl ?_)
        refine RX.cons rfl rfl (op_w (yw_move rfl rfl) rfl rfl ?_)
        refine RX.cons rfl rfl (op_w (yw_index (k := i) rfl slt_23 rfl rfl (by omega) (by omega) hA) rfl rfl ?_)
        refine RX.cons rfl rfl (op_w (yw_fieldAddr rfl fld_30_6 rfl) rfl rfl ?_)
        refine RX.cons rfl rfl (op_yld (y_rowElemF (i := 0) rfl rfl one_3 rfl (map_get hs) rfl) rfl rfl ?_)
        refine RX.cons rfl rfl (op_w (yw_move rfl rfl) rfl rfl ?_)
        refine RX.cons rfl rfl (op_w (yw_neq rfl rfl rfl) rfl rfl ?_)
        refine RX.nil (XX.next (V' := [(7, .bool true), (8, .slice y4.1 ((streams (fewF fs)).length) y4.2), (9, .int .i64 ((n : Nat) : Int)), (10, .int .i64 q), (11, .int .i64 ((i : Nat) : Int)), (57, .bool (decide (s.period ≠ q)))]) ⟨rfl, rfl, rfl, rfl, rfl, rfl, trivial⟩ ?_)
        refine CX.condD (p := s.period ≠ q) rfl (fun c57 => ?_) (fun c57 => ?_)
        · refine CX.seq ?_
          refine CX.region ?_
          refine RX.cons rfl rfl (op_w (yw_move rfl rfl) rfl rfl ?_)
          refine RX.cons rfl rfl (op_w (yw_move rfl rfl) rfl rfl ?_)
          refine RX.cons rfl rfl (op_w (yw_index (k := i) rfl slt_23 rfl rfl (by omega) (by omega) hA) rfl rfl ?_)
          refine RX.cons rfl rfl (op_w (yw_fieldAddr rfl fld_30_6 rfl) rfl rfl ?_)
          refine RX.cons rfl rfl (op_yld (y_rowElemF (i := 0) rfl rfl one_3 rfl (map_get hs) rfl) rfl rfl ?_)
          refine RX.cons rfl rfl (op_w (yw_assign rfl rfl) rfl rfl ?_)
          refine RX.nil (XX.next (V' := [(7, .bool true), (8, .slice y4.1 ((streams (fewF fs)).length) y4.2), (9, .int .i64 ((n : Nat) : Int)), (10, .int .i64 s.period), (11, .int .i64 ((i : Nat) : Int))]) ⟨rfl, rfl, rfl, rfl, rfl, trivial⟩ ?_)
          refine CX.seq ?_
          refine CX.region ?_
          refine RX.cons rfl rfl (op_w (yw_assign rfl rfl) rfl rfl ?_)
          refine RX.nil (XX.next (V' := [(7, .bool true), (8, .slice y4.1 ((streams (fewF fs)).length) y4.2), (9, .int .i64 ((n : Nat) : Int)), (10, .int .i64 s.period), (11, .int .i64 ((i : Nat) : Int)), (12, .bool false)]) ⟨rfl, rfl, rfl, rfl, rfl, rfl, trivial⟩ ?_)
          refine CX.seq ?_
          refine CX.seq ?_
          refine CX.region ?_
          refine RX.cons rfl rfl (op_w (yw_assign rfl rfl) rfl rfl ?_)
          refine RX.nil (XX.next (V' := [(7, .bool true), (8, .slice y4.1 ((streams (fewF fs)).length) y4.2), (9, .int .i64 ((n : Nat) : Int)), (10, .int .i64 s.period), (11, .int .i64 ((i : Nat) : Int)), (12, .bool false), (13, .int .i64 0)]) ⟨rfl, rfl, rfl, rfl, rfl, rfl, rfl, trivial⟩ ?_)
          refine CX.block ?_
          refine CX.loop (σ := Nat × Bool) (fun z2 => [(7, .bool true), (8, .slice y4.1 ((streams (fewF fs)).length) y4.2), (9, .int .i64 ((n : Nat) : Int)), (10, .int .i64 s.period), (11, .int .i64 ((i : Nat) : Int)), (12, .bool z2.2), (13, .int .i64 ((z2.1 : Nat) : Int))]) (fun z2 => [.row y4.1 y4.2 30 9 (List.map Strm.cells (streams (fewF fs))), .row y3.1 y3.2 33 18 (List.map Fct.cells (fewF fs)), .row y2.1 y2.2 30 9 (List.map Strm.cells (List.filter (inPeriod p) ts)), .row y1.1 y1.2 30 9 (List.map Strm.cells (List.filter (inPeriod p) ts))]) (fun z2 => z2.1 ≤ i ∧ z2.2 = seenBy (streams (fewF fs)) s.period z2.1) (fun z2 => i - z2.1) (0, false) ⟨Nat.zero_le _, rfl⟩ ⟨rfl, rfl, rfl, rfl, rfl, rfl, rfl, trivial⟩ rfl (fun z2 hI => ?_)
          obtain ⟨j, b⟩ := z2
          dsimp only at hI ⊢
          obtain ⟨hj, hb⟩ := hI
          refine CX.seq ?_
          refine CX.seq ?_
          refine CX.region ?_
          refine RX.cons rfl rfl (op_w (yw_move rfl rfl) rfl rfl ?_)
          refine RX.cons rfl rfl (op_w (yw_move rfl rfl) rfl rfl ?_)
          refine RX.cons rfl rfl (op_w (yw_lss rfl rfl rfl) rfl rfl ?_)
          refine RX.nil (XX.next (V' := [(7, .bool true), (8, .slice y4.1 ((streams (fewF fs)).length) y4.2), (9, .int .i64 ((n : Nat) : Int)), (10, .int .i64 s.period), (11, .int .i64 ((i : Nat) : Int)), (12, .bool b), (13, .int .i64 ((j : Nat) : Int)), (65, .bool (decide (((j : Nat) : Int) < ((i : Nat) : Int))))]) ⟨rfl, rfl, rfl, rfl, rfl, rfl, rfl, rfl, trivial⟩ ?_)
          refine CX.condD (p := ((j : Nat) : Int) < ((i : Nat) : Int)) rfl (fun c65 => ?_) (fun c65 => ?_)
          · obtain ⟨y, hy⟩ := get_some (l := (streams (fewF fs))) (k := j) (by omega)
            refine CX.skip (XX.next (V' := [(7, .bool true), (8, .slice y4.1 ((streams (fewF fs)).length) y4.2), (9, .int .i64 ((n : Nat) : Int)), (10, .int .i64 s.period), (11, .int .i64 ((i : Nat) : Int)), (12, .bool b), (13, .int .i64 ((j : Nat) : Int))]) ⟨rfl, rfl, rfl, rfl, rfl, rfl, rfl, trivial⟩ ?_)
            refine CX.seq ?_
            refine CX.block ?_
            refine CX.region ?_
            refine RX.cons rfl rfl (op_w (yw_move rfl rfl) rfl rfl ?_)
            refine RX.cons rfl rfl (op_w (yw_move rfl rfl) rfl rfl ?_)
            refine RX.split (t := 69) (b := b) rfl (fun d69 => ?_) (fun d69 => ?_)
            · refine RX.skip rfl rfl rfl rfl rfl rfl rfl ?_
              refine RX.skip rfl rfl rfl rfl rfl rfl rfl ?_
              refine RX.skip rfl rfl rfl rfl rfl rfl rfl ?_
              refine RX.skip rfl rfl rfl rfl rfl rfl rfl ?_
              refine RX.skip rfl rfl rfl rfl rfl rfl rfl ?_
              refine RX.skip rfl rfl rfl rfl rfl rfl rfl ?_
              refine RX.skip rfl rfl rfl rfl rfl rfl rfl ?_
              refine RX.cons rfl rfl (op_w (yw_pickT rfl rfl rfl) rfl rfl ?_)
              refine RX.cons rfl rfl (op_w (yw_assign rfl rfl) rfl rfl ?_)
              refine RX.nil (XX.inBlock (V' := [(7, .bool true), (8, .slice y4.1 ((streams (fewF fs)).length) y4.2), (9, .int .i64 ((n : Nat) : Int)), (10, .int .i64 s.period), (11, .int .i64 ((i : Nat) : Int)), (12, .bool true), (13, .int .i64 ((j : Nat) : Int))]) ⟨rfl, rfl, rfl, rfl, rfl, rfl, rfl, trivial⟩ ?_)
              refine XX.next (V' := [(7, .bool true), (8, .slice y4.1 ((streams (fewF fs)).length) y4.2), (9, .int .i64 ((n : Nat) : Int)), (10, .int .i64 s.period), (11, .int .i64 ((i : Nat) : Int)), (12, .bool true), (13, .int .i64 ((j : Nat) : Int))]) ⟨rfl, rfl, rfl, rfl, rfl, rfl, rfl, trivial⟩ ?_
              refine CX.region ?_
              refine RX.cons rfl rfl (op_w (yw_move rfl rfl) rfl rfl ?_)
              refine RX.cons rfl rfl (op_w (yw_add rfl rfl rfl (by omega) (by omega)) rfl rfl ?_)
              refine RX.cons rfl rfl (op_w (yw_assign rfl rfl) rfl rfl ?_)
              refine RX.nil (XX.againP ([]) (j + 1, true) (by dsimp only; omega) ⟨by dsimp only; omega, by dsimp only; rw [seenBy_succ hy, ← hb, d69, Bool.true_or]⟩ ⟨rfl, rfl, rfl, rfl, rfl, rfl, rfl, trivial⟩ ((perm_pick 0 rfl).trans (List.Perm.cons _ ((perm_pick 0 rfl).trans (List.Perm.cons _ ((perm_pick 0 rfl).trans (List.Perm.cons _ ((perm_pick 0 rfl).trans (List.Perm.cons _ (List.Perm.refl _))))))))))
            · refine RX.consG rfl rfl rfl rfl rfl (op_w (yw_move rfl rfl) rfl rfl ?_)
              refine RX.consG rfl rfl rfl rfl rfl (op_w (yw_move rfl rfl) rfl rfl ?_)
              refine RX.consG rfl rfl rfl rfl rfl (op_w (yw_index (k := j) rfl slt_23 rfl rfl (by omega) (by omega) hA) rfl rfl ?_)
              refine RX.consG rfl rfl rfl rfl rfl (op_w (yw_fieldAddr rfl fld_30_6 rfl) rfl rfl ?_)
              refine RX.consG rfl rfl rfl rfl rfl (op_yld (y_rowElemF (i := 0) rfl rfl one_3 rfl (map_get hy) rfl) rfl rfl ?_)
              refine RX.consG rfl rfl rfl rfl rfl (op_w (yw_move rfl rfl) rfl rfl ?_)
              refine RX.consG rfl rfl rfl rfl rfl (op_w (yw_eql rfl rfl rfl) rfl rfl ?_)
              refine RX.cons rfl rfl (op_w (yw_pickF rfl rfl rfl) rfl rfl ?_)
              refine RX.cons rfl rfl (op_w (yw_assign rfl rfl) rfl rfl ?_)
              refine RX.nil (XX.inBlock (V' := [(7, .bool true), (8, .slice y4.1 ((streams (fewF fs)).length) y4.2), (9, .int .i64 ((n : Nat) : Int)), (10, .int .i64 s.period), (11, .int .i64 ((i : Nat) : Int)), (12, .bool (decide (y.period = s.period))), (13, .int .i64 ((j : Nat) : Int))]) ⟨rfl, rfl, rfl, rfl, rfl, rfl, rfl, trivial⟩ ?_)
              refine XX.next (V' := [(7, .bool true), (8, .slice y4.1 ((streams (fewF fs)).length) y4.2), (9, .int .i64 ((n : Nat) : Int)), (10, .int .i64 s.period), (11, .int .i64 ((i : Nat) : Int)), (12, .bool (decide (y.period = s.period))), (13, .int .i64 ((j : Nat) : Int))]) ⟨rfl, rfl, rfl, rfl, rfl, rfl, rfl, trivial⟩ ?_
              refine CX.region ?_
              refine RX.cons rfl rfl (op_w (yw_move rfl rfl) rfl rfl ?_)
              refine RX.cons rfl rfl (op_w (yw_add rfl rfl rfl (by omega) (by omega)) rfl rfl ?_)
              refine RX.cons rfl rfl (op_w (yw_assign rfl rfl) rfl rfl ?_)
              refine RX.nil (XX.againP ([]) (j + 1, decide (y.period = s.period)) (by dsimp only; omega) ⟨by dsimp only; omega, by dsimp only; rw [seenBy_succ hy, ← hb, d69, Bool.false_or]⟩ ⟨rfl, rfl, rfl, rfl, rfl, rfl, rfl, trivial⟩ ((perm_pick 0 rfl).trans (List.Perm.cons _ ((perm_pick 0 rfl).trans (List.Perm.cons _ ((perm_pick 0 rfl).trans (List.Perm.cons _ ((perm_pick 0 rfl).trans (List.Perm.cons _ (List.Perm.refl _))))))))))
          · have hbi : b = seenBy (streams (fewF fs)) s.period i := by rw [hb]; congr 1; omega
            refine CX.exit ?_
            refine XX.then_exit ?_
            refine XX.then_exit ?_
            refine XX.block_exit ?_
            refine XX.next (V' := [(7, .bool true), (8, .slice y4.1 ((streams (fewF fs)).length) y4.2), (9, .int .i64 ((n : Nat) : Int)), (10, .int .i64 s.period), (11, .int .i64 ((i : Nat) : Int)), (12, .bool b)]) ⟨rfl, rfl, rfl, rfl, rfl, rfl, trivial⟩ ?_
            refine CX.seq ?_
            refine CX.region ?_
            refine RX.cons rfl rfl (op_w (yw_move rfl rfl) rfl rfl ?_)
            refine RX.cons rfl rfl (op_w (yw_not rfl rfl) rfl rfl ?_)
            refine RX.nil (XX.next (V' := [(7, .bool true), (8, .slice y4.1 ((streams (fewF fs)).length) y4.2), (9, .int .i64 ((n : Nat) : Int)), (10, .int .i64 s.period), (11, .int .i64 ((i : Nat) : Int)), (79, .bool (!b))]) ⟨rfl, rfl, rfl, rfl, rfl, rfl, trivial⟩ ?_)
            refine CX.cond (b := !b) rfl (fun c79 => ?_) (fun c79 => ?_)
            · refine CX.region ?_
              refine RX.cons rfl rfl (op_w (yw_move rfl rfl) rfl rfl ?_)
              refine RX.cons rfl rfl (op_w (yw_move rfl rfl) rfl rfl ?_)
              refine RX.cons rfl rfl (op_w (yw_move rfl rfl) rfl rfl ?_)
              refine RX.cons rfl rfl (op_callE rfl rfl rfl rfl rfl ent_10 (fun w hw => w_periodF (streams (fewF fs)) s.period (Ent.rd (hw.ents _ (List.mem_of_getElem? (i := 0) rfl))) (by omega)) (fun y5 _ => ?_))
              refine RX.cons rfl rfl (op_w (yw_lenS rfl Tryd.underlying23 rfl) rfl rfl ?_)
              refine RX.cons rfl rfl (op_w (yw_add rfl rfl rfl (by have := List.length_filter_le (inPeriod s.period) (streams (fewF fs)); omega) (by have := List.length_filter_le (inPeriod s.period) (streams (fewF fs)); omega)) rfl rfl ?_)
              refine RX.know (t := 85) (u := .int .i64 ((n + (List.filter (inPeriod s.period) (streams (fewF fs))).length : Nat) : Int)) rfl (congrArg (Value.int .i64) (by simp)) ?_
              refine RX.cons rfl rfl (op_w (yw_assign rfl rfl) rfl rfl ?_)
              refine RX.nil (XX.inBlock (V' := [(7, .bool true), (8, .slice y4.1 ((streams (fewF fs)).length) y4.2), (9, .int .i64 ((n + (List.filter (inPeriod s.period) (streams (fewF fs))).length : Nat) : Int)), (10, .int .i64 s.period), (11, .int .i64 ((i : Nat) : Int))]) ⟨rfl, rfl, rfl, rfl, rfl, trivial⟩ ?_)
              refine XX.next (V' := [(7, .bool true), (8, .slice y4.1 ((streams (fewF fs)).length) y4.2), (9, .int .i64 ((n + (List.filter (inPeriod s.period) (streams (fewF fs))).length : Nat) : Int)), (10, .int .i64 s.period), (11, .int .i64 ((i : Nat) : Int))]) ⟨rfl, rfl, rfl, rfl, rfl, trivial⟩ ?_
              refine CX.region ?_
              refine RX.cons rfl rfl (op_w (yw_move rfl rfl) rfl rfl ?_)
              refine RX.cons rfl rfl (op_w (yw_add rfl rfl rfl (by omega) (by omega)) rfl rfl ?_)
              refine RX.cons rfl rfl (op_w (yw_assign rfl rfl) rfl rfl ?_)
              refine RX.nil (XX.againP ([.row y5.1 y5.2 30 9 (List.map Strm.cells (List.filter (inPeriod s.period) (streams (fewF fs))))]) (i + 1, s.period, n + (List.filter (inPeriod s.period) (streams (fewF fs))).length) (by dsimp only; omega) ⟨by dsimp only; omega, by dsimp only; rw [cntP_new hs (by rw [← hbi]; simpa using c79), hn'], .inr ⟨s, mem_take_succ hs, rfl⟩⟩ ⟨rfl, rfl, rfl, rfl, rfl, trivial⟩ ((perm_pick 1 rfl).trans (List.Perm.cons _ ((perm_pick 1 rfl).trans (List.Perm.cons _ ((perm_pick 1 rfl).trans (List.Perm.cons _ ((perm_pick 1 rfl).trans (List.Perm.cons _ (List.Perm.refl _))))))))))
            · refine CX.skip (XX.inBlock (V' := [(7, .bool true), (8, .slice y4.1 ((streams (fewF fs)).length) y4.2), (9, .int .i64 ((n : Nat) : Int)), (10, .int .i64 s.period), (11, .int .i64 ((i : Nat) : Int))]) ⟨rfl, rfl, rfl, rfl, rfl, trivial⟩ ?_)
              refine XX.next (V' := [(7, .bool true), (8, .slice y4.1 ((streams (fewF fs)).length) y4.2), (9, .int .i64 ((n : Nat) : Int)), (10, .int .i64 s.period), (11, .int .i64 ((i : Nat) : Int))]) ⟨rfl, rfl, rfl, rfl, rfl, trivial⟩ ?_
              refine CX.region ?_
              refine RX.cons rfl rfl (op_w (yw_move rfl rfl) rfl rfl ?_)
              refine RX.cons rfl rfl (op_w (yw_add rfl rfl rfl (by omega) (by omega)) rfl rfl ?_)
              refine RX.cons rfl rfl (op_w (yw_assign rfl rfl) rfl rfl ?_)
              refine RX.nil (XX.againP ([]) (i + 1, s.period, n) (by dsimp only; omega) ⟨by dsimp only; omega, by dsimp only; rw [cntP_old hs (by rw [← hbi]; simpa using c79), hn'], .inr ⟨s, mem_take_succ hs, rfl⟩⟩ ⟨rfl, rfl, rfl, rfl, rfl, trivial⟩ ((perm_pick 0 rfl).trans (List.Perm.cons _ ((perm_pick 0 rfl).trans (List.Perm.cons _ ((perm_pick 0 rfl).trans (List.Perm.cons _ ((perm_pick 0 rfl).trans (List.Perm.cons _ (List.Perm.refl _))))))))))
        · refine CX.skip (XX.inBlock (V' := [(7, .bool true), (8, .slice y4.1 ((streams (fewF fs)).length) y4.2), (9, .int .i64 ((n : Nat) : Int)), (10, .int .i64 q), (11, .int .i64 ((i : Nat) : Int))]) ⟨rfl, rfl, rfl, rfl, rfl, trivial⟩ ?_)
          refine XX.next (V' := [(7, .bool true), (8, .slice y4.1 ((streams (fewF fs)).length) y4.2), (9, .int .i64 ((n : Nat) : Int)), (10, .int .i64 q), (11, .int .i64 ((i : Nat) : Int))]) ⟨rfl, rfl, rfl, rfl, rfl, trivial⟩ ?_
          refine CX.region ?_
          refine RX.cons rfl rfl (op_w (yw_move rfl rfl) rfl rfl ?_)
          refine RX.cons rfl rfl (op_w (yw_add rfl rfl rfl (by omega) (by omega)) rfl rfl ?_)
          refine RX.cons rfl rfl (op_w (yw_assign rfl rfl) rfl rfl ?_)
          refine RX.nil (XX.againP ([]) (i + 1, q, n) (by dsimp only; omega) ⟨by dsimp only; omega, by dsimp only; rw [cntP_old hs (seen_last (by rcases hq with h | h; omega; rw [show s.period = q from by omega]; exact h)), hn'], .inr ⟨s, mem_take_succ hs, by dsimp only; omega⟩⟩ ⟨rfl, rfl, rfl, rfl, rfl, trivial⟩ ((perm_pick 0 rfl).trans (List.Perm.cons _ ((perm_pick 0 rfl).trans (List.Perm.cons _ ((perm_pick 0 rfl).trans (List.Perm.cons _ ((perm_pick 0 rfl).trans (List.Perm.cons _ (List.Perm.refl _))))))))))
  · have hi' : i = (streams (fewF fs)).length := by omega
    have hn2 : n = (streams (fewF fs)).length := by rw [hn', hi', cntP_all]
    refine CX.exit ?_
    refine XX.then_exit ?_
    refine XX.then_exit ?_
    refine XX.block_exit ?_
    refine XX.next (V' := [(7, .bool true), (8, .slice y4.1 ((streams (fewF fs)).length) y4.2), (9, .int .i64 ((n : Nat) : Int))]) ⟨rfl, rfl, rfl, trivial⟩ ?_
    refine CX.seq ?_
    refine CX.region ?_
    refine RX.cons rfl rfl (op_w (yw_move rfl rfl) rfl rfl ?_)
    refine RX.cons rfl rfl (op_w (yw_move rfl rfl) rfl rfl ?_)
    refine RX.consG rfl rfl rfl rfl rfl (op_w (yw_move rfl rfl) rfl rfl ?_)
    refine RX.consG rfl rfl rfl rfl rfl (op_w (yw_move rfl rfl) rfl rfl ?_)
    refine RX.consG rfl rfl rfl rfl rfl (op_w (yw_lenS rfl Tryd.underlying23 rfl) rfl rfl ?_)
    refine RX.consG rfl rfl rfl rfl rfl (op_w (yw_eql rfl rfl rfl) rfl rfl ?_)
    refine RX.cons rfl rfl (op_w (yw_pickT rfl rfl rfl) rfl rfl ?_)
    refine RX.cons rfl rfl (op_w (yw_assign rfl rfl) rfl rfl ?_)
    refine RX.nil (XX.next (V' := [(6, .bool (decide (((n : Nat) : Int) = (((streams (fewF fs)).length : Nat) : Int))))]) ⟨rfl, trivial⟩ ?_)
    refine CX.ret ?_
    exact ret_tmp rfl rfl fun w1 hw => ⟨by rw [hn2, decide_eq_true rfl], hw.sub (List.nil_sublist _)⟩

end Go.Proofs.YtmndhiaaolfepaaDoor
