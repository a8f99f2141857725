/- Walks, printed by a program. -/
import Derived.Test.YtmndhiaaolfepaaDoorWalkV
namespace Go.Proofs.YtmndhiaaolfepaaDoor
set_option linter.all false
open Go Go.RowKit
set_option maxRecDepth 100000
set_option maxRecDepth 100000 in
theorem w_late {w : World} {A : Option Addr} {cap : Nat} (fs : List Fct) (f : Fct) (hG : Lens w) (hr : Rd w A 18 (fs.map Fct.cells)) (hn : fs.length ≤ 9223372036854775807) (hx : ∀ f ∈ fs, f.text.size ≤ 9223372036854775807) (hfx : f.text.size ≤ 9223372036854775807) :
    Calls Tryd.prog 6 #[.slice A fs.length cap, .agg (Fct.cells f)] w (fun e w' => e = .returned (.bool true) ∧ SL w [] w' []) := by
  have hgl := few_length fs
  have hsl := streams_length (fewF fs)
  have hil : (streams ((fewF fs) ++ [(cutF f)])).length ≤ 61 := by have := streams_length ((fewF fs) ++ [(cutF f)]); simp only [List.length_append, List.length_cons, List.length_nil] at this; omega
  refine calls_of_CX (O := []) (L := []) (args := [.slice A fs.length cap, .agg (Fct.cells f)]) Tryd.func6 rfl (by simp [Tryd.ntmps6]) (SL.refl w) ?_
  refine CX.sub (V' := [(0, .slice A fs.length cap), (1, .agg (Fct.cells f))]) ⟨rfl, rfl, trivial⟩ ?_
  refine CX.seq ?_
  refine CX.region ?_
  refine RX.cons rfl rfl (op_box rfl rfl rfl rfl fun gF => ?_)
  refine RX.cons rfl rfl (op_w (yw_assign rfl rfl) rfl rfl ?_)
  refine RX.nil (XX.next (V' := [(0, .slice A fs.length cap), (3, .pointer (some ⟨gF, 0, none⟩))]) ⟨rfl, rfl, trivial⟩ ?_)
  refine CX.seq ?_
  refine CX.region ?_
  refine RX.cons rfl rfl (op_callV (v := .bool true) rfl rfl rfl rfl rfl ent_8 (fun w hw => w_sane (hG.keep hw (by simp))) ?_)
  refine RX.cons rfl rfl (op_w (yw_assign rfl rfl) rfl rfl ?_)
  refine RX.nil (XX.next (V' := [(0, .slice A fs.length cap), (3, .pointer (some ⟨gF, 0, none⟩)), (5, .bool true)]) ⟨rfl, rfl, rfl, trivial⟩ ?_)
  refine CX.seq ?_
  refine CX.region ?_
  refine RX.cons rfl rfl (op_w (yw_move rfl rfl) rfl rfl ?_)
  refine RX.cons rfl rfl (op_callE rfl rfl rfl rfl rfl ent_13 (fun w hw => w_few fs (hw.rd hr (by simp)) hn hx) (fun few _ => ?_))
  refine RX.cons rfl rfl (op_w (yw_assign rfl rfl) rfl rfl ?_)
  refine RX.nil (XX.next (V' := [(0, .slice few.1 ((fewF fs).length) few.2), (3, .pointer (some ⟨gF, 0, none⟩)), (5, .bool true)]) ⟨rfl, rfl, rfl, trivial⟩ ?_)
  refine CX.seq ?_
  refine CX.region ?_
  refine RX.cons rfl rfl (op_w (yw_fieldAddr rfl fld_33_17 rfl) rfl rfl ?_)
  refine RX.cons rfl rfl (op_yld (y_load (i := 1) rfl rfl one_9 rfl rfl) rfl rfl ?_)
  refine RX.cons rfl rfl (op_w (yw_fieldAddr rfl fld_33_17 rfl) rfl rfl ?_)
  refine RX.cons rfl rfl (op_yld (y_load (i := 1) rfl rfl one_9 rfl rfl) rfl rfl ?_)
  refine RX.cons rfl rfl (op_w (yw_lenStr rfl Tryd.underlying9 rfl) rfl rfl ?_)
  refine RX.cons rfl rfl (op_w (yw_min rfl rfl rfl) rfl rfl ?_)
  refine RX.know (t := 23) (u := .int .i64 (((min f.text.size 2010) : Nat) : Int)) rfl (congrArg (Value.int .i64) (by omega)) ?_
  refine RX.cons rfl rfl (op_w (yw_strTo (k := (min f.text.size 2010)) rfl Tryd.underlying9 rfl rfl (by omega) (by omega)) rfl rfl ?_)
  refine RX.cons rfl rfl (op_w (yw_fieldAddr rfl fld_33_17 rfl) rfl rfl ?_)
  refine RX.cons rfl rfl (op_store1 (i := 1) (cs' := #[.int .i64 f.kind, .int .i64 f.id, .int .i64 f.version, .int .i64 f.period, .int .i64 f.second, .int .i64 f.account, .int .i64 f.device, .int .i64 f.recording, .int .i64 f.territory, .int .i64 f.holder, .int .i64 f.role, .int .i64 f.since, .int .i64 f.till, .int .i64 f.amount, .int .i64 f.share, .int .i64 f.currency, .int .i64 f.mark, .string (ByteArray.extract f.text 0 (min f.text.size 2010))]) rfl rfl rfl rfl szt_9 rfl rfl rfl rfl ?_)
  refine RX.know1 1 (q := .blk gF (.cells (Fct.cells (cutF f)) 33 (0, 0))) rfl rfl ?_
  refine RX.nil (XX.next (V' := [(0, .slice few.1 ((fewF fs).length) few.2), (3, .pointer (some ⟨gF, 0, none⟩)), (5, .bool true)]) ⟨rfl, rfl, rfl, trivial⟩ ?_)
  refine CX.seq ?_
  refine CX.seq ?_
  refine CX.region ?_
  refine RX.cons rfl rfl (op_w (yw_assign rfl rfl) rfl rfl ?_)
  refine RX.nil (XX.next (V' := [(0, .slice few.1 ((fewF fs).length) few.2), (3, .pointer (some ⟨gF, 0, none⟩)), (5, .bool true), (6, .int .i64 0)]) ⟨rfl, rfl, rfl, rfl, trivial⟩ ?_)
  refine CX.block ?_
  refine CX.loop (σ := Nat) (fun i => [(0, .slice few.1 ((fewF fs).length) few.2), (3, .pointer (some ⟨gF, 0, none⟩)), (5, .bool true), (6, .int .i64 ((i : Nat) : Int))]) (fun i => [.row few.1 few.2 33 18 (List.map Fct.cells (fewF fs)), .blk gF (.cells (Fct.cells (cutF f)) 33 (0, 0))]) (fun i => i ≤ (fewF fs).length) (fun i => (fewF fs).length - i) 0 (Nat.zero_le _) ⟨rfl, rfl, rfl, rfl, trivial⟩ rfl (fun i hI => ?_)
  have hi := hI
  refine CX.seq ?_
  refine CX.seq ?_
  refine CX.region ?_
  refine RX.cons rfl rfl (op_w (yw_move rfl rfl) rfl rfl ?_)
  refine RX.cons rfl rfl (op_w (yw_move rfl rfl) rfl rfl ?_)
  refine RX.cons rfl rfl (op_w (yw_lenS rfl Tryd.underlying22 rfl) rfl rfl ?_)
  refine RX.cons rfl rfl (op_w (yw_lss rfl rfl rfl) rfl rfl ?_)
  refine RX.nil (XX.next (V' := [(0, .slice few.1 ((fewF fs).length) few.2), (3, .pointer (some ⟨gF, 0, none⟩)), (5, .bool true), (6, .int .i64 ((i : Nat) : Int)), (29, .bool (decide (((i : Nat) : Int) < (((fewF fs).length : Nat) : Int))))]) ⟨rfl, rfl, rfl, rfl, rfl, trivial⟩ ?_)
  refine CX.condD (p := ((i : Nat) : Int) < (((fewF fs).length : Nat) : Int)) rfl (fun c29 => ?_) (fun c29 => ?_)
  · obtain ⟨g, hg⟩ := get_some (l := (fewF fs)) (k := i) (by omega)
    refine CX.rowSome 0 rfl (by simp; omega) (fun hA => ?_)
    refine CX.skip (XX.next (V' := [(0, .slice few.1 ((fewF fs).length) few.2), (3, .pointer (some ⟨gF, 0, none⟩)), (5, .bool true), (6, .int .i64 ((i : Nat) : Int))]) ⟨rfl, rfl, rfl, rfl, trivial⟩ ?_)
    refine CX.seq ?_
    refine CX.block ?_
    refine CX.seq ?_
    refine CX.draw 18 (by kernel_rfl) ?_
    refine DX.takeW 0 1 (by kernel_rfl) rfl rfl rfl rfl rfl (yw_move rfl rfl) ?_
    refine DX.takeW 1 3 (by kernel_rfl) rfl rfl rfl rfl rfl (yw_move rfl rfl) ?_
    refine DX.takeW 2 7 (by kernel_rfl) rfl rfl rfl rfl rfl (yw_index (k := i) rfl slt_22 rfl rfl (by omega) (by omega) hA) ?_
    refine DX.takeW 3 15 (by kernel_rfl) rfl rfl rfl rfl rfl (yw_fieldAddr rfl fld_33_6 rfl) ?_
    refine DX.take 4 31 (by kernel_rfl) rfl rfl rfl rfl rfl (List.Sublist.refl _) (y_rowElemF (i := 0) rfl rfl one_3 rfl (map_get hg) rfl) ?_
    refine DX.takeW 5 63 (by kernel_rfl) rfl rfl rfl rfl rfl (yw_fieldAddr rfl fld_33_6 rfl) ?_
    refine DX.take 6 127 (by kernel_rfl) rfl rfl rfl rfl rfl (List.Sublist.refl _) (y_load (i := 1) rfl rfl one_3 rfl rfl) ?_
    refine DX.takeW 7 255 (by kernel_rfl) rfl rfl rfl rfl rfl (yw_eql rfl rfl rfl) ?_
    refine DX.takeW 8 511 (by kernel_rfl) rfl rfl rfl rfl rfl (yw_move rfl rfl) ?_
    refine DX.splitD (t := 40) (p := g.device = (cutF f).device) rfl (fun d40 => ?_) (fun d40 => ?_)
    · refine DX.takeWG 9 1023 (by kernel_rfl) rfl rfl rfl rfl rfl rfl rfl rfl (yw_move rfl rfl) ?_
      refine DX.takeWG 10 2047 (by kernel_rfl) rfl rfl rfl rfl rfl rfl rfl rfl (yw_move rfl rfl) ?_
      refine DX.takeWG 11 4095 (by kernel_rfl) rfl rfl rfl rfl rfl rfl rfl rfl (yw_index (k := i) rfl slt_22 rfl rfl (by omega) (by omega) hA) ?_
      refine DX.takeWG 12 8191 (by kernel_rfl) rfl rfl rfl rfl rfl rfl rfl rfl (yw_fieldAddr rfl fld_33_1 rfl) ?_
      refine DX.takeG 13 16383 (by kernel_rfl) rfl rfl rfl rfl rfl rfl rfl rfl (List.Sublist.refl _) (y_rowElemF (i := 0) rfl rfl one_3 rfl (map_get hg) rfl) ?_
      refine DX.takeWG 14 32767 (by kernel_rfl) rfl rfl rfl rfl rfl rfl rfl rfl (yw_fieldAddr rfl fld_33_1 rfl) ?_
      refine DX.takeG 15 65535 (by kernel_rfl) rfl rfl rfl rfl rfl rfl rfl rfl (List.Sublist.refl _) (y_load (i := 1) rfl rfl one_3 rfl rfl) ?_
      refine DX.takeWG 16 131071 (by kernel_rfl) rfl rfl rfl rfl rfl rfl rfl rfl (yw_eql rfl rfl rfl) ?_
      refine DX.takeW 17 262143 (by kernel_rfl) rfl rfl rfl rfl rfl (yw_pickT rfl rfl rfl) ?_
      refine DX.done (by kernel_rfl) (XX.next (V' := [(0, .slice few.1 ((fewF fs).length) few.2), (3, .pointer (some ⟨gF, 0, none⟩)), (5, .bool true), (6, .int .i64 ((i : Nat) : Int)), (49, .bool (decide (g.id = (cutF f).id)))]) ⟨rfl, rfl, rfl, rfl, rfl, trivial⟩ ?_)
      refine CX.condD (p := g.id = (cutF f).id) rfl (fun c49 => ?_) (fun c49 => ?_)
      · refine CX.seq ?_
        refine CX.region ?_
        refine RX.cons rfl rfl (op_w (yw_move rfl rfl) rfl rfl ?_)
        refine RX.cons rfl rfl (op_w (yw_assign rfl rfl) rfl rfl ?_)
        refine RX.nil (XX.next (V' := [(4, .bool true)]) ⟨rfl, trivial⟩ ?_)
        refine CX.ret ?_
        refine XX.block_ret ?_
        refine XX.then_ret ?_
        refine XX.then_ret ?_
        refine XX.block_ret ?_
        refine XX.then_ret ?_
        exact ret_tmp rfl rfl fun w1 hw => ⟨rfl, hw.sub (List.nil_sublist _)⟩
      · refine CX.skip (XX.inBlock (V' := [(0, .slice few.1 ((fewF fs).length) few.2), (3, .pointer (some ⟨gF, 0, none⟩)), (5, .bool true), (6, .int .i64 ((i : Nat) : Int))]) ⟨rfl, rfl, rfl, rfl, trivial⟩ ?_)
        refine XX.next (V' := [(0, .slice few.1 ((fewF fs).length) few.2), (3, .pointer (some ⟨gF, 0, none⟩)), (5, .bool true), (6, .int .i64 ((i : Nat) : Int))]) ⟨rfl, rfl, rfl, rfl, trivial⟩ ?_
        refine CX.region ?_
        refine RX.cons rfl rfl (op_w (yw_move rfl rfl) rfl rfl ?_)
        refine RX.cons rfl rfl (op_w (yw_add rfl rfl rfl (by omega) (by omega)) rfl rfl ?_)
        refine RX.cons rfl rfl (op_w (yw_assign rfl rfl) rfl rfl ?_)
        refine RX.nil (XX.againP ([]) (i + 1) (by omega) (by omega) ⟨rfl, rfl, rfl, rfl, trivial⟩ ((perm_pick 0 rfl).trans (List.Perm.cons _ ((perm_pick 0 rfl).trans (List.Perm.cons _ (List.Perm.refl _))))))
    · refine DX.skip 9 1023 (by kernel_rfl) rfl rfl rfl rfl rfl rfl rfl rfl ?_
      refine DX.skip 10 2047 (by kernel_rfl) rfl rfl rfl rfl rfl rfl rfl rfl ?_
      refine DX.skip 11 4095 (by kernel_rfl) rfl rfl rfl rfl rfl rfl rfl rfl ?_
      refine DX.skip 12 8191 (by kernel_rfl) rfl rfl rfl rfl rfl rfl rfl rfl ?_
      refine DX.skip 13 16383 (by kernel_rfl) rfl rfl rfl rfl rfl rfl rfl rfl ?_
      refine DX.skip 14 32767 (by kernel_rfl) rfl rfl rfl rfl rfl rfl rfl rfl ?_
      refine DX.skip 15 65535 (by kernel_rfl) rfl rfl rfl rfl rfl rfl rfl rfl ?_
      refine DX.skip 16 131071 (by kernel_rfl) rfl rfl rfl rfl rfl rfl rfl rfl ?_
      refine DX.takeW 17 262143 (by kernel_rfl) rfl rfl rfl rfl rfl (yw_pickF rfl rfl rfl) ?_
      refine DX.done (by kernel_rfl) (XX.next (V' := [(0, .slice few.1 ((fewF fs).length) few.2), (3, .pointer (some ⟨gF, 0, none⟩)), (5, .bool true), (6, .int .i64 ((i : Nat) : Int)), (49, .bool false)]) ⟨rfl, rfl, rfl, rfl, rfl, trivial⟩ ?_)
      refine CX.condF rfl ?_
      refine CX.skip (XX.inBlock (V' := [(0, .slice few.1 ((fewF fs).length) few.2), (3, .pointer (some ⟨gF, 0, none⟩)), (5, .bool true), (6, .int .i64 ((i : Nat) : Int))]) ⟨rfl, rfl, rfl, rfl, trivial⟩ ?_)
      refine XX.next (V' := [(0, .slice few.1 ((fewF fs).length) few.2), (3, .pointer (some ⟨gF, 0, none⟩)), (5, .bool true), (6, .int .i64 ((i : Nat) : Int))]) ⟨rfl, rfl, rfl, rfl, trivial⟩ ?_
      refine CX.region ?_
      refine RX.cons rfl rfl (op_w (yw_move rfl rfl) rfl rfl ?_)
      refine RX.cons rfl rfl (op_w (yw_add rfl rfl rfl (by omega) (by omega)) rfl rfl ?_)
      refine RX.cons rfl rfl (op_w (yw_assign rfl rfl) rfl rfl ?_)
      refine RX.nil (XX.againP ([]) (i + 1) (by omega) (by omega) ⟨rfl, rfl, rfl, rfl, trivial⟩ ((perm_pick 0 rfl).trans (List.Perm.cons _ ((perm_pick 0 rfl).trans (List.Perm.cons _ (List.Perm.refl _))))))
  · refine CX.exit ?_
    refine XX.then_exit ?_
    refine XX.then_exit ?_
    refine XX.block_exit ?_
    refine XX.next (V' := [(0, .slice few.1 ((fewF fs).length) few.2), (3, .pointer (some ⟨gF, 0, none⟩)), (5, .bool true)]) ⟨rfl, rfl, rfl, trivial⟩ ?_
    refine CX.seq ?_
    refine CX.region ?_
    refine RX.cons rfl rfl (op_w (yw_move rfl rfl) rfl rfl ?_)
    refine RX.cons rfl rfl (op_callE rfl rfl rfl rfl rfl ent_12 (fun w hw => w_streams (fewF fs) (Ent.rd (hw.ents _ (List.mem_of_getElem? (i := 0) rfl))) (by omega) (hG.keep hw (by simp))) (fun was _ => ?_))
    refine RX.cons rfl rfl (op_w (yw_assign rfl rfl) rfl rfl ?_)
    refine RX.nil (XX.next (V' := [(0, .slice few.1 ((fewF fs).length) few.2), (3, .pointer (some ⟨gF, 0, none⟩)), (5, .bool true), (7, .slice was.1 ((streams (fewF fs)).length) was.2)]) ⟨rfl, rfl, rfl, rfl, trivial⟩ ?_)
    refine CX.cut (σ := Option Addr × Nat) (fun x1 => [(3, .pointer (some ⟨gF, 0, none⟩)), (5, .bool true), (7, .slice was.1 ((streams (fewF fs)).length) was.2), (8, .slice x1.1 ((streams ((fewF fs) ++ [(cutF f)])).length) x1.2)]) (fun x1 => [.row x1.1 x1.2 30 9 (List.map Strm.cells (streams ((fewF fs) ++ [(cutF f)]))), .row was.1 was.2 30 9 (List.map Strm.cells (streams (fewF fs))), .row few.1 few.2 33 18 (List.map Fct.cells (fewF fs)), .blk gF (.cells (Fct.cells (cutF f)) 33 (0, 0))]) (fun x1 => True) ?_ (fun x1 _ => ?_)
    · refine CX.drawL 8 ([.row was.1 was.2 30 9 (List.map Strm.cells (streams (fewF fs))), .row few.1 few.2 33 18 (List.map Fct.cells (fewF fs)), .blk gF (.cells (Fct.cells (cutF f)) 33 (0, 0))]) (by kernel_rfl) ?_
      refine DX.takeW 1 2 (by kernel_rfl) rfl rfl rfl rfl rfl (yw_move rfl rfl) ?_
      refine DX.take 3 10 (by kernel_rfl) rfl rfl rfl rfl rfl (List.Sublist.refl _) (y_loadA (i := 2) rfl rfl agg_33 rfl rfl) ?_
      refine DX.step2 0 4 11 26 (by kernel_rfl) rfl rfl rfl rfl rfl rfl (op_buildSlice rfl rfl rfl slb_22 rfl rfl (by intro v hv; simp at hv) (by decide) fun ge => (DXs.mk (List.Sublist.cons _ (List.Sublist.refl _)) ?_)) (op_buildSlice rfl rfl rfl slb_22 rfl rfl (by intro v hv; simp only [List.mem_cons, List.not_mem_nil, or_false] at hv; subst hv; exact ⟨rfl, (plain_of rfl)⟩) (by decide) fun gf => (DXs.mk (List.Sublist.cons _ (List.Sublist.refl _)) ?_))
      · refine DX.step2 2 4 15 27 (by kernel_rfl) rfl rfl rfl rfl rfl rfl (op_appendM Fct.cells (i := 0) (j := 2) (xs := ([] : List Fct)) (fewF fs) rfl rfl rfl slb_22 rfl rfl rfl rfl rfl rfl (by simp; omega) (by simp; omega) fun Aa ca => (DXs.mk (List.Sublist.cons _ (List.Sublist.refl _)) ?_)) (op_buildSlice rfl rfl rfl slb_22 rfl rfl (by intro v hv; simp only [List.mem_cons, List.not_mem_nil, or_false] at hv; subst hv; exact ⟨rfl, (plain_of rfl)⟩) (by decide) fun gf => (DXs.mk (List.Sublist.cons _ (List.Sublist.cons _ (List.Sublist.refl _))) ?_))
        · refine DX.step 4 31 (by kernel_rfl) rfl rfl rfl (op_buildSlice rfl rfl rfl slb_22 rfl rfl (by intro v hv; simp only [List.mem_cons, List.not_mem_nil, or_false] at hv; subst hv; exact ⟨rfl, (plain_of rfl)⟩) (by decide) fun gf => (DXs.mk (List.Sublist.cons _ (List.Sublist.cons _ (List.Sublist.refl _))) ?_))
          refine DX.step 5 63 (by kernel_rfl) rfl rfl rfl (op_appendM Fct.cells (i := 1) (j := 0) (xs := (([] : List Fct) ++ (fewF fs))) ([(cutF f)]) rfl rfl rfl slb_22 rfl rfl rfl rfl rfl rfl (by simp; omega) (by simp; omega) fun Ab cb => (DXs.mk (List.Sublist.cons _ (List.Sublist.cons _ (List.Sublist.refl _))) ?_))
          refine DX.step 6 127 (by kernel_rfl) rfl rfl rfl (op_callE rfl rfl rfl rfl rfl ent_12 (fun w hw => w_streams ((([] : List Fct) ++ (fewF fs)) ++ [(cutF f)]) (Ent.rd (hw.ents _ (List.mem_of_getElem? (i := 1) rfl))) (by simp; omega) (hG.keep hw (by simp))) (fun y2 _ => (DXs.mk (List.Sublist.cons _ (List.Sublist.cons _ (List.Sublist.cons _ (List.Sublist.refl _)))) ?_)))
          refine DX.takeW 7 255 (by kernel_rfl) rfl rfl rfl rfl rfl (yw_assign rfl rfl) ?_
          refine DX.done (by kernel_rfl) (XX.meetP ([.row (some ⟨gf, 0, none⟩) 1 33 18 (List.map Value.cells [.agg (Fct.cells (cutF f))]), .row Ab cb 33 18 (List.map Fct.cells ((([] : List Fct) ++ (fewF fs)) ++ [(cutF f)]))]) y2 trivial ⟨rfl, rfl, rfl, rfl, trivial⟩ ((perm_pick 0 rfl).trans (List.Perm.cons _ ((perm_pick 2 rfl).trans (List.Perm.cons _ ((perm_pick 2 rfl).trans (List.Perm.cons _ ((perm_pick 2 rfl).trans (List.Perm.cons _ (List.Perm.refl _))))))))))
        · refine DX.step 2 31 (by kernel_rfl) rfl rfl rfl (op_appendM Fct.cells (i := 1) (j := 3) (xs := ([] : List Fct)) (fewF fs) rfl rfl rfl slb_22 rfl rfl rfl rfl rfl rfl (by simp; omega) (by simp; omega) fun Aa ca => (DXs.mk (List.Sublist.cons _ (List.Sublist.cons _ (List.Sublist.refl _))) ?_))
          refine DX.step 5 63 (by kernel_rfl) rfl rfl rfl (op_appendM Fct.cells (i := 1) (j := 0) (xs := (([] : List Fct) ++ (fewF fs))) ([(cutF f)]) rfl rfl rfl slb_22 rfl rfl rfl rfl rfl rfl (by simp; omega) (by simp; omega) fun Ab cb => (DXs.mk (List.Sublist.cons _ (List.Sublist.cons _ (List.Sublist.refl _))) ?_))
          refine DX.step 6 127 (by kernel_rfl) rfl rfl rfl (op_callE rfl rfl rfl rfl rfl ent_12 (fun w hw => w_streams ((([] : List Fct) ++ (fewF fs)) ++ [(cutF f)]) (Ent.rd (hw.ents _ (List.mem_of_getElem? (i := 1) rfl))) (by simp; omega) (hG.keep hw (by simp))) (fun y4 _ => (DXs.mk (List.Sublist.cons _ (List.Sublist.cons _ (List.Sublist.cons _ (List.Sublist.refl _)))) ?_)))
          refine DX.takeW 7 255 (by kernel_rfl) rfl rfl rfl rfl rfl (yw_assign rfl rfl) ?_
          refine DX.done (by kernel_rfl) (XX.meetP ([.row (some ⟨gf, 0, none⟩) 1 33 18 (List.map Value.cells [.agg (Fct.cells (cutF f))]), .row Ab cb 33 18 (List.map Fct.cells ((([] : List Fct) ++ (fewF fs)) ++ [(cutF f)]))]) y4 trivial ⟨rfl, rfl, rfl, rfl, trivial⟩ ((perm_pick 0 rfl).trans (List.Perm.cons _ ((perm_pick 2 rfl).trans (List.Perm.cons _ ((perm_pick 2 rfl).trans (List.Perm.cons _ ((perm_pick 2 rfl).trans (List.Perm.cons _ (List.Perm.refl _))))))))))
      · refine DX.step 0 27 (by kernel_rfl) rfl rfl rfl (op_buildSlice rfl rfl rfl slb_22 rfl rfl (by intro v hv; simp at hv) (by decide) fun ge => (DXs.mk (List.Sublist.cons _ (List.Sublist.cons _ (List.Sublist.refl _))) ?_))
        refine DX.step 2 31 (by kernel_rfl) rfl rfl rfl (op_appendM Fct.cells (i := 0) (j := 3) (xs := ([] : List Fct)) (fewF fs) rfl rfl rfl slb_22 rfl rfl rfl rfl rfl rfl (by simp; omega) (by simp; omega) fun Aa ca => (DXs.mk (List.Sublist.cons _ (List.Sublist.cons _ (List.Sublist.refl _))) ?_))
        refine DX.step 5 63 (by kernel_rfl) rfl rfl rfl (op_appendM Fct.cells (i := 0) (j := 1) (xs := (([] : List Fct) ++ (fewF fs))) ([(cutF f)]) rfl rfl rfl slb_22 rfl rfl rfl rfl rfl rfl (by simp; omega) (by simp; omega) fun Ab cb => (DXs.mk (List.Sublist.cons _ (List.Sublist.cons _ (List.Sublist.refl _))) ?_))
        refine DX.step 6 127 (by kernel_rfl) rfl rfl rfl (op_callE rfl rfl rfl rfl rfl ent_12 (fun w hw => w_streams ((([] : List Fct) ++ (fewF fs)) ++ [(cutF f)]) (Ent.rd (hw.ents _ (List.mem_of_getElem? (i := 0) rfl))) (by simp; omega) (hG.keep hw (by simp))) (fun y6 _ => (DXs.mk (List.Sublist.cons _ (List.Sublist.cons _ (List.Sublist.cons _ (List.Sublist.refl _)))) ?_)))
        refine DX.takeW 7 255 (by kernel_rfl) rfl rfl rfl rfl rfl (yw_assign rfl rfl) ?_
        refine DX.done (by kernel_rfl) (XX.meetP ([.row Ab cb 33 18 (List.map Fct.cells ((([] : List Fct) ++ (fewF fs)) ++ [(cutF f)])), .row (some ⟨gf, 0, none⟩) 1 33 18 (List.map Value.cells [.agg (Fct.cells (cutF f))])]) y6 trivial ⟨rfl, rfl, rfl, rfl, trivial⟩ ((perm_pick 0 rfl).trans (List.Perm.cons _ ((perm_pick 2 rfl).trans (List.Perm.cons _ ((perm_pick 2 rfl).trans (List.Perm.cons _ ((perm_pick 2 rfl).trans (List.Perm.cons _ (List.Perm.refl _))))))))))
    · refine CX.seq ?_
      refine CX.region ?_
      refine RX.cons rfl rfl (op_w (yw_assign rfl rfl) rfl rfl ?_)
      refine RX.nil (XX.next (V' := [(3, .pointer (some ⟨gF, 0, none⟩)), (5, .bool true), (7, .slice was.1 ((streams (fewF fs)).length) was.2), (8, .slice x1.1 ((streams ((fewF fs) ++ [(cutF f)])).length) x1.2), (9, .slice none 0 0)]) ⟨rfl, rfl, rfl, rfl, rfl, trivial⟩ ?_)
      refine CX.seq ?_
      refine CX.region ?_
      refine RX.cons rfl rfl (op_w (yw_assign rfl rfl) rfl rfl ?_)
      refine RX.nil (XX.next (V' := [(3, .pointer (some ⟨gF, 0, none⟩)), (5, .bool true), (7, .slice was.1 ((streams (fewF fs)).length) was.2), (8, .slice x1.1 ((streams ((fewF fs) ++ [(cutF f)])).length) x1.2), (9, .slice none 0 0), (10, .slice none 0 0)]) ⟨rfl, rfl, rfl, rfl, rfl, rfl, trivial⟩ ?_)
      refine CX.seq ?_
      refine CX.seq ?_
      refine CX.region ?_
      refine RX.cons rfl rfl (op_w (yw_assign rfl rfl) rfl rfl ?_)
      refine RX.nil (XX.next (V' := [(3, .pointer (some ⟨gF, 0, none⟩)), (5, .bool true), (7, .slice was.1 ((streams (fewF fs)).length) was.2), (8, .slice x1.1 ((streams ((fewF fs) ++ [(cutF f)])).length) x1.2), (9, .slice none 0 0), (10, .slice none 0 0), (11, .int .i64 0)]) ⟨rfl, rfl, rfl, rfl, rfl, rfl, rfl, trivial⟩ ?_)
      refine CX.block ?_
      refine CX.rowNil 30 9 ?_
      refine CX.loop (σ := Nat × (Option Addr × Nat) × List Strm) (fun z => [(3, .pointer (some ⟨gF, 0, none⟩)), (5, .bool true), (7, .slice was.1 ((streams (fewF fs)).length) was.2), (8, .slice x1.1 ((streams ((fewF fs) ++ [(cutF f)])).length) x1.2), (9, .slice z.2.1.1 z.2.2.length z.2.1.2), (10, .slice none 0 0), (11, .int .i64 ((z.1 : Nat) : Int))]) (fun z => [.row z.2.1.1 z.2.1.2 30 9 (List.map Strm.cells z.2.2), .row x1.1 x1.2 30 9 (List.map Strm.cells (streams ((fewF fs) ++ [(cutF f)]))), .row was.1 was.2 30 9 (List.map Strm.cells (streams (fewF fs))), .row few.1 few.2 33 18 (List.map Fct.cells (fewF fs)), .blk gF (.cells (Fct.cells (cutF f)) 33 (0, 0))]) (fun z => z.1 ≤ (streams (fewF fs)).length ∧ z.2.2 = (List.take z.1 (streams (fewF fs))).filter (keepsS (cutF f))) (fun z => (streams (fewF fs)).length - z.1) (0, (none, 0), []) ⟨Nat.zero_le _, by simp⟩ ⟨rfl, rfl, rfl, rfl, rfl, rfl, rfl, trivial⟩ rfl (fun z hI => ?_)
      obtain ⟨k, ⟨E, e⟩, us⟩ := z
      dsimp only at hI ⊢
      obtain ⟨hk, hus⟩ := hI
      have hul := filter_take_le hus
      refine CX.seq ?_
      refine CX.seq ?_
      refine CX.region ?_
      refine RX.cons rfl rfl (op_w (yw_move rfl rfl) rfl rfl ?_)
      refine RX.cons rfl rfl (op_w (yw_move rfl rfl) rfl rfl ?_)
      refine RX.cons rfl rfl (op_w (yw_lenS rfl Tryd.underlying23 rfl) rfl rfl ?_)
      refine RX.cons rfl rfl (op_w (yw_lss rfl rfl rfl) rfl rfl ?_)
      refine RX.nil (XX.next (V' := [(3, .pointer (some ⟨gF, 0, none⟩)), (5, .bool true), (7, .slice was.1 ((streams (fewF fs)).length) was.2), (8, .slice x1.1 ((streams ((fewF fs) ++ [(cutF f)])).length) x1.2), (9, .slice E us.length e), (10, .slice none 0 0), (11, .int .i64 ((k : Nat) : Int)), (63, .bool (decide (((k : Nat) : Int) < (((streams (fewF fs)).length : Nat) : Int))))]) ⟨rfl, rfl, rfl, rfl, rfl, rfl, rfl, rfl, trivial⟩ ?_)
      refine CX.condD (p := ((k : Nat) : Int) < (((streams (fewF fs)).length : Nat) : Int)) rfl (fun c63 => ?_) (fun c63 => ?_)
      · obtain ⟨s, hs⟩ := get_some (l := (streams (fewF fs))) (k := k) (by omega)
        refine CX.rowSome 2 rfl (by simp; omega) (fun hA => ?_)
        refine CX.skip (XX.next (V' := [(3, .pointer (some ⟨gF, 0, none⟩)), (5, .bool true), (7, .slice was.1 ((streams (fewF fs)).length) was.2), (8, .slice x1.1 ((streams ((fewF fs) ++ [(cutF f)])).length) x1.2), (9, .slice E us.length e), (10, .slice none 0 0), (11, .int .i64 ((k : Nat) : Int))]) ⟨rfl, rfl, rfl, rfl, rfl, rfl, rfl, trivial⟩ ?_)
        refine CX.seq ?_
        refine CX.block ?_
        refine CX.seq ?_
        refine CX.region ?_
        refine RX.cons rfl rfl (op_w (yw_move rfl rfl) rfl rfl ?_)
        refine RX.cons rfl rfl (op_w (yw_move rfl rfl) rfl rfl ?_)
        refine RX.cons rfl rfl (op_w (yw_index (k := k) rfl slt_23 rfl rfl (by omega) (by omega) hA) rfl rfl ?_)
        refine RX.cons rfl rfl (op_yld (y_rowElem (i := 2) rfl rfl agg_30 rfl (map_get hs)) rfl rfl ?_)
        refine RX.cons rfl rfl (op_alloc rfl rfl rfl zero_30 fun g12 => ?_)
        refine RX.cons rfl rfl (op_storeAll (i := 0) rfl rfl rfl rfl szt_30 rfl (plain_of rfl) rfl rfl ?_)
        refine RX.nil (XX.next (V' := [(3, .pointer (some ⟨gF, 0, none⟩)), (5, .bool true), (7, .slice was.1 ((streams (fewF fs)).length) was.2), (8, .slice x1.1 ((streams ((fewF fs) ++ [(cutF f)])).length) x1.2), (9, .slice E us.length e), (10, .slice none 0 0), (11, .int .i64 ((k : Nat) : Int)), (12, .pointer (some ⟨g12, 0, none⟩))]) ⟨rfl, rfl, rfl, rfl, rfl, rfl, rfl, rfl, trivial⟩ ?_)
        refine CX.seq ?_
        refine CX.region ?_
        refine RX.cons rfl rfl (op_w (yw_field0 rfl fld_30_0 rfl) rfl rfl ?_)
        refine RX.cons rfl rfl (op_yld (y_load (i := 0) rfl rfl one_3 rfl rfl) rfl rfl ?_)
        refine RX.cons rfl rfl (op_w (yw_fieldAddr rfl fld_33_6 rfl) rfl rfl ?_)
        refine RX.cons rfl rfl (op_yld (y_load (i := 5) rfl rfl one_3 rfl rfl) rfl rfl ?_)
        refine RX.cons rfl rfl (op_w (yw_neq rfl rfl rfl) rfl rfl ?_)
        refine RX.cons rfl rfl (op_w (yw_move rfl rfl) rfl rfl ?_)
        refine RX.splitD (t := 75) (p := s.device ≠ (cutF f).device) rfl (fun d75 => ?_) (fun d75 => ?_)
        · refine RX.skip rfl rfl rfl rfl rfl rfl rfl ?_
          refine RX.skip rfl rfl rfl rfl rfl rfl rfl ?_
          refine RX.skip rfl rfl rfl rfl rfl rfl rfl ?_
          refine RX.skip rfl rfl rfl rfl rfl rfl rfl ?_
          refine RX.skip rfl rfl rfl rfl rfl rfl rfl ?_
          refine RX.cons rfl rfl (op_w (yw_pickT rfl rfl rfl) rfl rfl ?_)
          refine RX.cons rfl rfl (op_w (yw_move rfl rfl) rfl rfl ?_)
          refine RX.skip rfl rfl rfl rfl rfl rfl rfl ?_
          refine RX.skip rfl rfl rfl rfl rfl rfl rfl ?_
          refine RX.skip rfl rfl rfl rfl rfl rfl rfl ?_
          refine RX.skip rfl rfl rfl rfl rfl rfl rfl ?_
          refine RX.skip rfl rfl rfl rfl rfl rfl rfl ?_
          refine RX.skip rfl rfl rfl rfl rfl rfl rfl ?_
          refine RX.skip rfl rfl rfl rfl rfl rfl rfl ?_
          refine RX.skip rfl rfl rfl rfl rfl rfl rfl ?_
          refine RX.skip rfl rfl rfl rfl rfl rfl rfl ?_
          refine RX.skip rfl rfl rfl rfl rfl rfl rfl ?_
          refine RX.skip rfl rfl rfl rfl rfl rfl rfl ?_
          refine RX.skip rfl rfl rfl rfl rfl rfl rfl ?_
          refine RX.cons rfl rfl (op_w (yw_pickT rfl rfl rfl) rfl rfl ?_)
          refine RX.nil (XX.next (V' := [(3, .pointer (some ⟨gF, 0, none⟩)), (5, .bool true), (7, .slice was.1 ((streams (fewF fs)).length) was.2), (8, .slice x1.1 ((streams ((fewF fs) ++ [(cutF f)])).length) x1.2), (9, .slice E us.length e), (10, .slice none 0 0), (11, .int .i64 ((k : Nat) : Int)), (12, .pointer (some ⟨g12, 0, none⟩)), (95, .bool true)]) ⟨rfl, rfl, rfl, rfl, rfl, rfl, rfl, rfl, rfl, trivial⟩ ?_)
          refine CX.condT rfl ?_
          refine CX.region ?_
          refine RX.cons rfl rfl (op_w (yw_move rfl rfl) rfl rfl ?_)
          refine RX.cons rfl rfl (op_yld (y_loadA (i := 0) rfl rfl agg_30 rfl rfl) rfl rfl ?_)
          refine RX.cons rfl rfl (op_buildSlice rfl rfl rfl slb_23 rfl rfl (by intro v hv; simp only [List.mem_cons, List.not_mem_nil, or_false] at hv; subst hv; exact ⟨rfl, (plain_of rfl)⟩) (by decide) fun g1 => ?_)
          refine RX.cons rfl rfl (op_appendM Strm.cells (i := 2) (j := 0) (xs := us) ([s]) rfl rfl rfl slb_23 rfl rfl rfl rfl rfl rfl (by simp; omega) (by simp; omega) fun A3 c3 => ?_)
          refine RX.cons rfl rfl (op_w (yw_assign rfl rfl) rfl rfl ?_)
          refine RX.nil (XX.inBlock (V' := [(3, .pointer (some ⟨gF, 0, none⟩)), (5, .bool true), (7, .slice was.1 ((streams (fewF fs)).length) was.2), (8, .slice x1.1 ((streams ((fewF fs) ++ [(cutF f)])).length) x1.2), (9, .slice A3 ((us ++ [s]).length) c3), (10, .slice none 0 0), (11, .int .i64 ((k : Nat) : Int))]) ⟨rfl, rfl, rfl, rfl, rfl, rfl, rfl, trivial⟩ ?_)
          refine XX.next (V' := [(3, .pointer (some ⟨gF, 0, none⟩)), (5, .bool true), (7, .slice was.1 ((streams (fewF fs)).length) was.2), (8, .slice x1.1 ((streams ((fewF fs) ++ [(cutF f)])).length) x1.2), (9, .slice A3 ((us ++ [s]).length) c3), (10, .slice none 0 0), (11, .int .i64 ((k : Nat) : Int))]) ⟨rfl, rfl, rfl, rfl, rfl, rfl, rfl, trivial⟩ ?_
          refine CX.region ?_
          refine RX.cons rfl rfl (op_w (yw_move rfl rfl) rfl rfl ?_)
          refine RX.cons rfl rfl (op_w (yw_add rfl rfl rfl (by omega) (by omega)) rfl rfl ?_)
          refine RX.cons rfl rfl (op_w (yw_assign rfl rfl) rfl rfl ?_)
          refine RX.nil (XX.againP ([.row (some ⟨g1, 0, none⟩) 1 30 9 (List.map Value.cells [.agg (Strm.cells s)]), .blk g12 (.cells (Strm.cells s) 30 (0, 0))]) (k + 1, (A3, c3), us ++ [s]) (by dsimp only; omega) ⟨by dsimp only; omega, filter_succ_yes hs (keepsS_yes (by omega)) hus⟩ ⟨rfl, rfl, rfl, rfl, rfl, rfl, rfl, trivial⟩ ((perm_pick 2 rfl).trans (List.Perm.cons _ ((perm_pick 2 rfl).trans (List.Perm.cons _ ((perm_pick 2 rfl).trans (List.Perm.cons _ ((perm_pick 2 rfl).trans (List.Perm.cons _ ((perm_pick 2 rfl).trans (List.Perm.cons _ (List.Perm.refl _))))))))))))
        · refine RX.consG rfl rfl rfl rfl rfl (op_w (yw_fieldAddr rfl fld_30_5 rfl) rfl rfl ?_)
          refine RX.consG rfl rfl rfl rfl rfl (op_yld (y_load (i := 0) rfl rfl one_3 rfl rfl) rfl rfl ?_)
          refine RX.consG rfl rfl rfl rfl rfl (op_w (yw_fieldAddr rfl fld_33_4 rfl) rfl rfl ?_)
          refine RX.consG rfl rfl rfl rfl rfl (op_yld (y_load (i := 5) rfl rfl one_3 rfl rfl) rfl rfl ?_)
          refine RX.consG rfl rfl rfl rfl rfl (op_w (yw_lss rfl rfl rfl) rfl rfl ?_)
          refine RX.cons rfl rfl (op_w (yw_pickF rfl rfl rfl) rfl rfl ?_)
          refine RX.cons rfl rfl (op_w (yw_move rfl rfl) rfl rfl ?_)
          refine RX.splitD (t := 82) (p := s.second < (cutF f).second) rfl (fun d82 => ?_) (fun d82 => ?_)
          · refine RX.skip rfl rfl rfl rfl rfl rfl rfl ?_
            refine RX.skip rfl rfl rfl rfl rfl rfl rfl ?_
            refine RX.skip rfl rfl rfl rfl rfl rfl rfl ?_
            refine RX.skip rfl rfl rfl rfl rfl rfl rfl ?_
            refine RX.skip rfl rfl rfl rfl rfl rfl rfl ?_
            refine RX.skip rfl rfl rfl rfl rfl rfl rfl ?_
            refine RX.skip rfl rfl rfl rfl rfl rfl rfl ?_
            refine RX.skip rfl rfl rfl rfl rfl rfl rfl ?_
            refine RX.skip rfl rfl rfl rfl rfl rfl rfl ?_
            refine RX.skip rfl rfl rfl rfl rfl rfl rfl ?_
            refine RX.skip rfl rfl rfl rfl rfl rfl rfl ?_
            refine RX.skip rfl rfl rfl rfl rfl rfl rfl ?_
            refine RX.cons rfl rfl (op_w (yw_pickT rfl rfl rfl) rfl rfl ?_)
            refine RX.nil (XX.next (V' := [(3, .pointer (some ⟨gF, 0, none⟩)), (5, .bool true), (7, .slice was.1 ((streams (fewF fs)).length) was.2), (8, .slice x1.1 ((streams ((fewF fs) ++ [(cutF f)])).length) x1.2), (9, .slice E us.length e), (10, .slice none 0 0), (11, .int .i64 ((k : Nat) : Int)), (12, .pointer (some ⟨g12, 0, none⟩)), (95, .bool true)]) ⟨rfl, rfl, rfl, rfl, rfl, rfl, rfl, rfl, rfl, trivial⟩ ?_)
            refine CX.condT rfl ?_
            refine CX.region ?_
            refine RX.cons rfl rfl (op_w (yw_move rfl rfl) rfl rfl ?_)
            refine RX.cons rfl rfl (op_yld (y_loadA (i := 0) rfl rfl agg_30 rfl rfl) rfl rfl ?_)
            refine RX.cons rfl rfl (op_buildSlice rfl rfl rfl slb_23 rfl rfl (by intro v hv; simp only [List.mem_cons, List.not_mem_nil, or_false] at hv; subst hv; exact ⟨rfl, (plain_of rfl)⟩) (by decide) fun g2 => ?_)
            refine RX.cons rfl rfl (op_appendM Strm.cells (i := 2) (j := 0) (xs := us) ([s]) rfl rfl rfl slb_23 rfl rfl rfl rfl rfl rfl (by simp; omega) (by simp; omega) fun A3 c3 => ?_)
            refine RX.cons rfl rfl (op_w (yw_assign rfl rfl) rfl rfl ?_)
            refine RX.nil (XX.inBlock (V' := [(3, .pointer (some ⟨gF, 0, none⟩)), (5, .bool true), (7, .slice was.1 ((streams (fewF fs)).length) was.2), (8, .slice x1.1 ((streams ((fewF fs) ++ [(cutF f)])).length) x1.2), (9, .slice A3 ((us ++ [s]).length) c3), (10, .slice none 0 0), (11, .int .i64 ((k : Nat) : Int))]) ⟨rfl, rfl, rfl, rfl, rfl, rfl, rfl, trivial⟩ ?_)
            refine XX.next (V' := [(3, .pointer (some ⟨gF, 0, none⟩)), (5, .bool true), (7, .slice was.1 ((streams (fewF fs)).length) was.2), (8, .slice x1.1 ((streams ((fewF fs) ++ [(cutF f)])).length) x1.2), (9, .slice A3 ((us ++ [s]).length) c3), (10, .slice none 0 0), (11, .int .i64 ((k : Nat) : Int))]) ⟨rfl, rfl, rfl, rfl, rfl, rfl, rfl, trivial⟩ ?_
            refine CX.region ?_
            refine RX.cons rfl rfl (op_w (yw_move rfl rfl) rfl rfl ?_)
            refine RX.cons rfl rfl (op_w (yw_add rfl rfl rfl (by omega) (by omega)) rfl rfl ?_)
            refine RX.cons rfl rfl (op_w (yw_assign rfl rfl) rfl rfl ?_)
            refine RX.nil (XX.againP ([.row (some ⟨g2, 0, none⟩) 1 30 9 (List.map Value.cells [.agg (Strm.cells s)]), .blk g12 (.cells (Strm.cells s) 30 (0, 0))]) (k + 1, (A3, c3), us ++ [s]) (by dsimp only; omega) ⟨by dsimp only; omega, filter_succ_yes hs (keepsS_yes (by omega)) hus⟩ ⟨rfl, rfl, rfl, rfl, rfl, rfl, rfl, trivial⟩ ((perm_pick 2 rfl).trans (List.Perm.cons _ ((perm_pick 2 rfl).trans (List.Perm.cons _ ((perm_pick 2 rfl).trans (List.Perm.cons _ ((perm_pick 2 rfl).trans (List.Perm.cons _ ((perm_pick 2 rfl).trans (List.Perm.cons _ (List.Perm.refl _))))))))))))
          · refine RX.consG rfl rfl rfl rfl rfl (op_w (yw_fieldAddr rfl fld_30_5 rfl) rfl rfl ?_)
            refine RX.consG rfl rfl rfl rfl rfl (op_yld (y_load (i := 0) rfl rfl one_3 rfl rfl) rfl rfl ?_)
            refine RX.consG rfl rfl rfl rfl rfl (op_w (yw_fieldAddr rfl fld_33_4 rfl) rfl rfl ?_)
            refine RX.consG rfl rfl rfl rfl rfl (op_yld (y_load (i := 5) rfl rfl one_3 rfl rfl) rfl rfl ?_)
            refine RX.consG rfl rfl rfl rfl rfl (op_w (yw_eql rfl rfl rfl) rfl rfl ?_)
            refine RX.consG rfl rfl rfl rfl rfl (op_w (yw_move rfl rfl) rfl rfl ?_)
            refine RX.splitD (t := 88) (p := s.second = (cutF f).second) rfl (fun d88 => ?_) (fun d88 => ?_)
            · refine RX.consG rfl rfl rfl rfl rfl (op_w (yw_fieldAddr rfl fld_30_1 rfl) rfl rfl ?_)
              refine RX.consG rfl rfl rfl rfl rfl (op_yld (y_load (i := 0) rfl rfl one_3 rfl rfl) rfl rfl ?_)
              refine RX.consG rfl rfl rfl rfl rfl (op_w (yw_fieldAddr rfl fld_33_1 rfl) rfl rfl ?_)
              refine RX.consG rfl rfl rfl rfl rfl (op_yld (y_load (i := 5) rfl rfl one_3 rfl rfl) rfl rfl ?_)
              refine RX.consG rfl rfl rfl rfl rfl (op_w (yw_lss rfl rfl rfl) rfl rfl ?_)
              refine RX.consG rfl rfl rfl rfl rfl (op_w (yw_pickT rfl rfl rfl) rfl rfl ?_)
              refine RX.cons rfl rfl (op_w (yw_pickF rfl rfl rfl) rfl rfl ?_)
              refine RX.nil (XX.next (V' := [(3, .pointer (some ⟨gF, 0, none⟩)), (5, .bool true), (7, .slice was.1 ((streams (fewF fs)).length) was.2), (8, .slice x1.1 ((streams ((fewF fs) ++ [(cutF f)])).length) x1.2), (9, .slice E us.length e), (10, .slice none 0 0), (11, .int .i64 ((k : Nat) : Int)), (12, .pointer (some ⟨g12, 0, none⟩)), (95, .bool (decide (s.id < (cutF f).id)))]) ⟨rfl, rfl, rfl, rfl, rfl, rfl, rfl, rfl, rfl, trivial⟩ ?_)
              refine CX.condD (p := s.id < (cutF f).id) rfl (fun c95 => ?_) (fun c95 => ?_)
              · refine CX.region ?_
                refine RX.cons rfl rfl (op_w (yw_move rfl rfl) rfl rfl ?_)
                refine RX.cons rfl rfl (op_yld (y_loadA (i := 0) rfl rfl agg_30 rfl rfl) rfl rfl ?_)
                refine RX.cons rfl rfl (op_buildSlice rfl rfl rfl slb_23 rfl rfl (by intro v hv; simp only [List.mem_cons, List.not_mem_nil, or_false] at hv; subst hv; exact ⟨rfl, (plain_of rfl)⟩) (by decide) fun g3 => ?_)
                refine RX.cons rfl rfl (op_appendM Strm.cells (i := 2) (j := 0) (xs := us) ([s]) rfl rfl rfl slb_23 rfl rfl rfl rfl rfl rfl (by simp; omega) (by simp; omega) fun A3 c3 => ?_)
                refine RX.cons rfl rfl (op_w (yw_assign rfl rfl) rfl rfl ?_)
                refine RX.nil (XX.inBlock (V' := [(3, .pointer (some ⟨gF, 0, none⟩)), (5, .bool true), (7, .slice was.1 ((streams (fewF fs)).length) was.2), (8, .slice x1.1 ((streams ((fewF fs) ++ [(cutF f)])).length) x1.2), (9, .slice A3 ((us ++ [s]).length) c3), (10, .slice none 0 0), (11, .int .i64 ((k : Nat) : Int))]) ⟨rfl, rfl, rfl, rfl, rfl, rfl, rfl, trivial⟩ ?_)
                refine XX.next (V' := [(3, .pointer (some ⟨gF, 0, none⟩)), (5, .bool true), (7, .slice was.1 ((streams (fewF fs)).length) was.2), (8, .slice x1.1 ((streams ((fewF fs) ++ [(cutF f)])).length) x1.2), (9, .slice A3 ((us ++ [s]).length) c3), (10, .slice none 0 0), (11, .int .i64 ((k : Nat) : Int))]) ⟨rfl, rfl, rfl, rfl, rfl, rfl, rfl, trivial⟩ ?_
                refine CX.region ?_
                refine RX.cons rfl rfl (op_w (yw_move rfl rfl) rfl rfl ?_)
                refine RX.cons rfl rfl (op_w (yw_add rfl rfl rfl (by omega) (by omega)) rfl rfl ?_)
                refine RX.cons rfl rfl (op_w (yw_assign rfl rfl) rfl rfl ?_)
                refine RX.nil (XX.againP ([.row (some ⟨g3, 0, none⟩) 1 30 9 (List.map Value.cells [.agg (Strm.cells s)]), .blk g12 (.cells (Strm.cells s) 30 (0, 0))]) (k + 1, (A3, c3), us ++ [s]) (by dsimp only; omega) ⟨by dsimp only; omega, filter_succ_yes hs (keepsS_yes (by omega)) hus⟩ ⟨rfl, rfl, rfl, rfl, rfl, rfl, rfl, trivial⟩ ((perm_pick 2 rfl).trans (List.Perm.cons _ ((perm_pick 2 rfl).trans (List.Perm.cons _ ((perm_pick 2 rfl).trans (List.Perm.cons _ ((perm_pick 2 rfl).trans (List.Perm.cons _ ((perm_pick 2 rfl).trans (List.Perm.cons _ (List.Perm.refl _))))))))))))
              · refine CX.skip (XX.inBlock (V' := [(3, .pointer (some ⟨gF, 0, none⟩)), (5, .bool true), (7, .slice was.1 ((streams (fewF fs)).length) was.2), (8, .slice x1.1 ((streams ((fewF fs) ++ [(cutF f)])).length) x1.2), (9, .slice E us.length e), (10, .slice none 0 0), (11, .int .i64 ((k : Nat) : Int))]) ⟨rfl, rfl, rfl, rfl, rfl, rfl, rfl, trivial⟩ ?_)
                refine XX.next (V' := [(3, .pointer (some ⟨gF, 0, none⟩)), (5, .bool true), (7, .slice was.1 ((streams (fewF fs)).length) was.2), (8, .slice x1.1 ((streams ((fewF fs) ++ [(cutF f)])).length) x1.2), (9, .slice E us.length e), (10, .slice none 0 0), (11, .int .i64 ((k : Nat) : Int))]) ⟨rfl, rfl, rfl, rfl, rfl, rfl, rfl, trivial⟩ ?_
                refine CX.region ?_
                refine RX.cons rfl rfl (op_w (yw_move rfl rfl) rfl rfl ?_)
                refine RX.cons rfl rfl (op_w (yw_add rfl rfl rfl (by omega) (by omega)) rfl rfl ?_)
                refine RX.cons rfl rfl (op_w (yw_assign rfl rfl) rfl rfl ?_)
                refine RX.nil (XX.againP ([.blk g12 (.cells (Strm.cells s) 30 (0, 0))]) (k + 1, (E, e), us) (by dsimp only; omega) ⟨by dsimp only; omega, filter_succ_no hs (keepsS_no (by omega)) hus⟩ ⟨rfl, rfl, rfl, rfl, rfl, rfl, rfl, trivial⟩ ((perm_pick 1 rfl).trans (List.Perm.cons _ ((perm_pick 1 rfl).trans (List.Perm.cons _ ((perm_pick 1 rfl).trans (List.Perm.cons _ ((perm_pick 1 rfl).trans (List.Perm.cons _ ((perm_pick 1 rfl).trans (List.Perm.cons _ (List.Perm.refl _))))))))))))
            · refine RX.skip rfl rfl rfl rfl rfl rfl rfl ?_
              refine RX.skip rfl rfl rfl rfl rfl rfl rfl ?_
              refine RX.skip rfl rfl rfl rfl rfl rfl rfl ?_
              refine RX.skip rfl rfl rfl rfl rfl rfl rfl ?_
              refine RX.skip rfl rfl rfl rfl rfl rfl rfl ?_
              refine RX.consG rfl rfl rfl rfl rfl (op_w (yw_pickF rfl rfl rfl) rfl rfl ?_)
              refine RX.cons rfl rfl (op_w (yw_pickF rfl rfl rfl) rfl rfl ?_)
              refine RX.nil (XX.next (V' := [(3, .pointer (some ⟨gF, 0, none⟩)), (5, .bool true), (7, .slice was.1 ((streams (fewF fs)).length) was.2), (8, .slice x1.1 ((streams ((fewF fs) ++ [(cutF f)])).length) x1.2), (9, .slice E us.length e), (10, .slice none 0 0), (11, .int .i64 ((k : Nat) : Int)), (12, .pointer (some ⟨g12, 0, none⟩)), (95, .bool false)]) ⟨rfl, rfl, rfl, rfl, rfl, rfl, rfl, rfl, rfl, trivial⟩ ?_)
              refine CX.condF rfl ?_
              refine CX.skip (XX.inBlock (V' := [(3, .pointer (some ⟨gF, 0, none⟩)), (5, .bool true), (7, .slice was.1 ((streams (fewF fs)).length) was.2), (8, .slice x1.1 ((streams ((fewF fs) ++ [(cutF f)])).length) x1.2), (9, .slice E us.length e), (10, .slice none 0 0), (11, .int .i64 ((k : Nat) : Int))]) ⟨rfl, rfl, rfl, rfl, rfl, rfl, rfl, trivial⟩ ?_)
              refine XX.next (V' := [(3, .pointer (some ⟨gF, 0, none⟩)), (5, .bool true), (7, .slice was.1 ((streams (fewF fs)).length) was.2), (8, .slice x1.1 ((streams ((fewF fs) ++ [(cutF f)])).length) x1.2), (9, .slice E us.length e), (10, .slice none 0 0), (11, .int .i64 ((k : Nat) : Int))]) ⟨rfl, rfl, rfl, rfl, rfl, rfl, rfl, trivial⟩ ?_
              refine CX.region ?_
              refine RX.cons rfl rfl (op_w (yw_move rfl rfl) rfl rfl ?_)
              refine RX.cons rfl rfl (op_w (yw_add rfl rfl rfl (by omega) (by omega)) rfl rfl ?_)
              refine RX.cons rfl rfl (op_w (yw_assign rfl rfl) rfl rfl ?_)
              refine RX.nil (XX.againP ([.blk g12 (.cells (Strm.cells s) 30 (0, 0))]) (k + 1, (E, e), us) (by dsimp only; omega) ⟨by dsimp only; omega, filter_succ_no hs (keepsS_no (by omega)) hus⟩ ⟨rfl, rfl, rfl, rfl, rfl, rfl, rfl, trivial⟩ ((perm_pick 1 rfl).trans (List.Perm.cons _ ((perm_pick 1 rfl).trans (List.Perm.cons _ ((perm_pick 1 rfl).trans (List.Perm.cons _ ((perm_pick 1 rfl).trans (List.Perm.cons _ ((perm_pick 1 rfl).trans (List.Perm.cons _ (List.Perm.refl _))))))))))))
      · have hus' := filter_take_all hus (by omega)
        refine CX.exit ?_
        refine XX.then_exit ?_
        refine XX.then_exit ?_
        refine XX.block_exit ?_
        refine XX.next (V' := [(3, .pointer (some ⟨gF, 0, none⟩)), (5, .bool true), (8, .slice x1.1 ((streams ((fewF fs) ++ [(cutF f)])).length) x1.2), (9, .slice E us.length e), (10, .slice none 0 0)]) ⟨rfl, rfl, rfl, rfl, rfl, trivial⟩ ?_
        refine CX.seq ?_
        refine CX.seq ?_
        refine CX.region ?_
        refine RX.cons rfl rfl (op_w (yw_assign rfl rfl) rfl rfl ?_)
        refine RX.nil (XX.next (V' := [(3, .pointer (some ⟨gF, 0, none⟩)), (5, .bool true), (8, .slice x1.1 ((streams ((fewF fs) ++ [(cutF f)])).length) x1.2), (9, .slice E us.length e), (10, .slice none 0 0), (13, .int .i64 0)]) ⟨rfl, rfl, rfl, rfl, rfl, rfl, trivial⟩ ?_)
        refine CX.block ?_
        refine CX.rowNil 30 9 ?_
        refine CX.loop (σ := Nat × (Option Addr × Nat) × List Strm) (fun z => [(3, .pointer (some ⟨gF, 0, none⟩)), (5, .bool true), (8, .slice x1.1 ((streams ((fewF fs) ++ [(cutF f)])).length) x1.2), (9, .slice E us.length e), (10, .slice z.2.1.1 z.2.2.length z.2.1.2), (13, .int .i64 ((z.1 : Nat) : Int))]) (fun z => [.row z.2.1.1 z.2.1.2 30 9 (List.map Strm.cells z.2.2), .row E e 30 9 (List.map Strm.cells us), .row x1.1 x1.2 30 9 (List.map Strm.cells (streams ((fewF fs) ++ [(cutF f)]))), .row was.1 was.2 30 9 (List.map Strm.cells (streams (fewF fs))), .row few.1 few.2 33 18 (List.map Fct.cells (fewF fs)), .blk gF (.cells (Fct.cells (cutF f)) 33 (0, 0))]) (fun z => z.1 ≤ (streams ((fewF fs) ++ [(cutF f)])).length ∧ z.2.2 = (List.take z.1 (streams ((fewF fs) ++ [(cutF f)]))).filter (keepsS (cutF f))) (fun z => (streams ((fewF fs) ++ [(cutF f)])).length - z.1) (0, (none, 0), []) ⟨Nat.zero_le _, by simp⟩ ⟨rfl, rfl, rfl, rfl, rfl, rfl, trivial⟩ rfl (fun z hI => ?_)
        obtain ⟨j, ⟨E', e'⟩, vs⟩ := z
        dsimp only at hI ⊢
        obtain ⟨hj, hvs⟩ := hI
        have hvl := filter_take_le hvs
        refine CX.seq ?_
        refine CX.seq ?_
        refine CX.region ?_
        refine RX.cons rfl rfl (op_w (yw_move rfl rfl) rfl rfl ?_)
        refine RX.cons rfl rfl (op_w (yw_move rfl rfl) rfl rfl ?_)
        refine RX.cons rfl rfl (op_w (yw_lenS rfl Tryd.underlying23 rfl) rfl rfl ?_)
        refine RX.cons rfl rfl (op_w (yw_lss rfl rfl rfl) rfl rfl ?_)
        refine RX.nil (XX.next (V' := [(3, .pointer (some ⟨gF, 0, none⟩)), (5, .bool true), (8, .slice x1.1 ((streams ((fewF fs) ++ [(cutF f)])).length) x1.2), (9, .slice E us.length e), (10, .slice E' vs.length e'), (13, .int .i64 ((j : Nat) : Int)), (103, .bool (decide (((j : Nat) : Int) < (((streams ((fewF fs) ++ [(cutF f)])).length : Nat) : Int))))]) ⟨rfl, rfl, rfl, rfl, rfl, rfl, rfl, trivial⟩ ?_)
        refine CX.condD (p := ((j : Nat) : Int) < (((streams ((fewF fs) ++ [(cutF f)])).length : Nat) : Int)) rfl (fun c103 => ?_) (fun c103 => ?_)
        · obtain ⟨s, hs⟩ := get_some (l := (streams ((fewF fs) ++ [(cutF f)]))) (k := j) (by omega)
          refine CX.rowSome 2 rfl (by simp; omega) (fun hA => ?_)
          refine CX.skip (XX.next (V' := [(3, .pointer (some ⟨gF, 0, none⟩)), (5, .bool true), (8, .slice x1.1 ((streams ((fewF fs) ++ [(cutF f)])).length) x1.2), (9, .slice E us.length e), (10, .slice E' vs.length e'), (13, .int .i64 ((j : Nat) : Int))]) ⟨rfl, rfl, rfl, rfl, rfl, rfl, trivial⟩ ?_)
          refine CX.seq ?_
          refine CX.block ?_
          refine CX.seq ?_
          refine CX.region ?_
          refine RX.cons rfl rfl (op_w (yw_move rfl rfl) rfl rfl ?_)
          refine RX.cons rfl rfl (op_w (yw_move rfl rfl) rfl rfl ?_)
          refine RX.cons rfl rfl (op_w (yw_index (k := j) rfl slt_23 rfl rfl (by omega) (by omega) hA) rfl rfl ?_)
          refine RX.cons rfl rfl (op_yld (y_rowElem (i := 2) rfl rfl agg_30 rfl (map_get hs)) rfl rfl ?_)
          refine RX.cons rfl rfl (op_alloc rfl rfl rfl zero_30 fun g14 => ?_)
          refine RX.cons rfl rfl (op_storeAll (i := 0) rfl rfl rfl rfl szt_30 rfl (plain_of rfl) rfl rfl ?_)
          refine RX.nil (XX.next (V' := [(3, .pointer (some ⟨gF, 0, none⟩)), (5, .bool true), (8, .slice x1.1 ((streams ((fewF fs) ++ [(cutF f)])).length) x1.2), (9, .slice E us.length e), (10, .slice E' vs.length e'), (13, .int .i64 ((j : Nat) : Int)), (14, .pointer (some ⟨g14, 0, none⟩))]) ⟨rfl, rfl, rfl, rfl, rfl, rfl, rfl, trivial⟩ ?_)
          refine CX.seq ?_
          refine CX.region ?_
          refine RX.cons rfl rfl (op_w (yw_field0 rfl fld_30_0 rfl) rfl rfl ?_)
          refine RX.cons rfl rfl (op_yld (y_load (i := 0) rfl rfl one_3 rfl rfl) rfl rfl ?_)
          refine RX.cons rfl rfl (op_w (yw_fieldAddr rfl fld_33_6 rfl) rfl rfl ?_)
          refine RX.cons rfl rfl (op_yld (y_load (i := 6) rfl rfl one_3 rfl rfl) rfl rfl ?_)
          refine RX.cons rfl rfl (op_w (yw_neq rfl rfl rfl) rfl rfl ?_)
          refine RX.cons rfl rfl (op_w (yw_move rfl rfl) rfl rfl ?_)
          refine RX.splitD (t := 115) (p := s.device ≠ (cutF f).device) rfl (fun d115 => ?_) (fun d115 => ?_)
          · refine RX.skip rfl rfl rfl rfl rfl rfl rfl ?_
            refine RX.skip rfl rfl rfl rfl rfl rfl rfl ?_
            refine RX.skip rfl rfl rfl rfl rfl rfl rfl ?_
            refine RX.skip rfl rfl rfl rfl rfl rfl rfl ?_
            refine RX.skip rfl rfl rfl rfl rfl rfl rfl ?_
            refine RX.cons rfl rfl (op_w (yw_pickT rfl rfl rfl) rfl rfl ?_)
            refine RX.cons rfl rfl (op_w (yw_move rfl rfl) rfl rfl ?_)
            refine RX.skip rfl rfl rfl rfl rfl rfl rfl ?_
            refine RX.skip rfl rfl rfl rfl rfl rfl rfl ?_
            refine RX.skip rfl rfl rfl rfl rfl rfl rfl ?_
            refine RX.skip rfl rfl rfl rfl rfl rfl rfl ?_
            refine RX.skip rfl rfl rfl rfl rfl rfl rfl ?_
            refine RX.skip rfl rfl rfl rfl rfl rfl rfl ?_
            refine RX.skip rfl rfl rfl rfl rfl rfl rfl ?_
            refine RX.skip rfl rfl rfl rfl rfl rfl rfl ?_
            refine RX.skip rfl rfl rfl rfl rfl rfl rfl ?_
            refine RX.skip rfl rfl rfl rfl rfl rfl rfl ?_
            refine RX.skip rfl rfl rfl rfl rfl rfl rfl ?_
            refine RX.skip rfl rfl rfl rfl rfl rfl rfl ?_
            refine RX.cons rfl rfl (op_w (yw_pickT rfl rfl rfl) rfl rfl ?_)
            refine RX.nil (XX.next (V' := [(3, .pointer (some ⟨gF, 0, none⟩)), (5, .bool true), (8, .slice x1.1 ((streams ((fewF fs) ++ [(cutF f)])).length) x1.2), (9, .slice E us.length e), (10, .slice E' vs.length e'), (13, .int .i64 ((j : Nat) : Int)), (14, .pointer (some ⟨g14, 0, none⟩)), (135, .bool true)]) ⟨rfl, rfl, rfl, rfl, rfl, rfl, rfl, rfl, trivial⟩ ?_)
            refine CX.condT rfl ?_
            refine CX.region ?_
            refine RX.cons rfl rfl (op_w (yw_move rfl rfl) rfl rfl ?_)
            refine RX.cons rfl rfl (op_yld (y_loadA (i := 0) rfl rfl agg_30 rfl rfl) rfl rfl ?_)
            refine RX.cons rfl rfl (op_buildSlice rfl rfl rfl slb_23 rfl rfl (by intro v hv; simp only [List.mem_cons, List.not_mem_nil, or_false] at hv; subst hv; exact ⟨rfl, (plain_of rfl)⟩) (by decide) fun g4 => ?_)
            refine RX.cons rfl rfl (op_appendM Strm.cells (i := 2) (j := 0) (xs := vs) ([s]) rfl rfl rfl slb_23 rfl rfl rfl rfl rfl rfl (by simp; omega) (by simp; omega) fun A4 c4 => ?_)
            refine RX.cons rfl rfl (op_w (yw_assign rfl rfl) rfl rfl ?_)
            refine RX.nil (XX.inBlock (V' := [(3, .pointer (some ⟨gF, 0, none⟩)), (5, .bool true), (8, .slice x1.1 ((streams ((fewF fs) ++ [(cutF f)])).length) x1.2), (9, .slice E us.length e), (10, .slice A4 ((vs ++ [s]).length) c4), (13, .int .i64 ((j : Nat) : Int))]) ⟨rfl, rfl, rfl, rfl, rfl, rfl, trivial⟩ ?_)
            refine XX.next (V' := [(3, .pointer (some ⟨gF, 0, none⟩)), (5, .bool true), (8, .slice x1.1 ((streams ((fewF fs) ++ [(cutF f)])).length) x1.2), (9, .slice E us.length e), (10, .slice A4 ((vs ++ [s]).length) c4), (13, .int .i64 ((j : Nat) : Int))]) ⟨rfl, rfl, rfl, rfl, rfl, rfl, trivial⟩ ?_
            refine CX.region ?_
            refine RX.cons rfl rfl (op_w (yw_move rfl rfl) rfl rfl ?_)
            refine RX.cons rfl rfl (op_w (yw_add rfl rfl rfl (by omega) (by omega)) rfl rfl ?_)
            refine RX.cons rfl rfl (op_w (yw_assign rfl rfl) rfl rfl ?_)
            refine RX.nil (XX.againP ([.row (some ⟨g4, 0, none⟩) 1 30 9 (List.map Value.cells [.agg (Strm.cells s)]), .blk g14 (.cells (Strm.cells s) 30 (0, 0))]) (j + 1, (A4, c4), vs ++ [s]) (by dsimp only; omega) ⟨by dsimp only; omega, filter_succ_yes hs (keepsS_yes (by omega)) hvs⟩ ⟨rfl, rfl, rfl, rfl, rfl, rfl, trivial⟩ ((perm_pick 2 rfl).trans (List.Perm.cons _ ((perm_pick 2 rfl).trans (List.Perm.cons _ ((perm_pick 2 rfl).trans (List.Perm.cons _ ((perm_pick 2 rfl).trans (List.Perm.cons _ ((perm_pick 2 rfl).trans (List.Perm.cons _ ((perm_pick 2 rfl).trans (List.Perm.cons _ (List.Perm.refl _))))))))))))))
          · refine RX.consG rfl rfl rfl rfl rfl (op_w (yw_fieldAddr rfl fld_30_5 rfl) rfl rfl ?_)
            refine RX.consG rfl rfl rfl rfl rfl (op_yld (y_load (i := 0) rfl rfl one_3 rfl rfl) rfl rfl ?_)
            refine RX.consG rfl rfl rfl rfl rfl (op_w (yw_fieldAddr rfl fld_33_4 rfl) rfl rfl ?_)
            refine RX.consG rfl rfl rfl rfl rfl (op_yld (y_load (i := 6) rfl rfl one_3 rfl rfl) rfl rfl ?_)
            refine RX.consG rfl rfl rfl rfl rfl (op_w (yw_lss rfl rfl rfl) rfl rfl ?_)
            refine RX.cons rfl rfl (op_w (yw_pickF rfl rfl rfl) rfl rfl ?_)
            refine RX.cons rfl rfl (op_w (yw_move rfl rfl) rfl rfl ?_)
            refine RX.splitD (t := 122) (p := s.second < (cutF f).second) rfl (fun d122 => ?_) (fun d122 => ?_)
            · refine RX.skip rfl rfl rfl rfl rfl rfl rfl ?_
              refine RX.skip rfl rfl rfl rfl rfl rfl rfl ?_
              refine RX.skip rfl rfl rfl rfl rfl rfl rfl ?_
              refine RX.skip rfl rfl rfl rfl rfl rfl rfl ?_
              refine RX.skip rfl rfl rfl rfl rfl rfl rfl ?_
              refine RX.skip rfl rfl rfl rfl rfl rfl rfl ?_
              refine RX.skip rfl rfl rfl rfl rfl rfl rfl ?_
              refine RX.skip rfl rfl rfl rfl rfl rfl rfl ?_
              refine RX.skip rfl rfl rfl rfl rfl rfl rfl ?_
              refine RX.skip rfl rfl rfl rfl rfl rfl rfl ?_
              refine RX.skip rfl rfl rfl rfl rfl rfl rfl ?_
              refine RX.skip rfl rfl rfl rfl rfl rfl rfl ?_
              refine RX.cons rfl rfl (op_w (yw_pickT rfl rfl rfl) rfl rfl ?_)
              refine RX.nil (XX.next (V' := [(3, .pointer (some ⟨gF, 0, none⟩)), (5, .bool true), (8, .slice x1.1 ((streams ((fewF fs) ++ [(cutF f)])).length) x1.2), (9, .slice E us.length e), (10, .slice E' vs.length e'), (13, .int .i64 ((j : Nat) : Int)), (14, .pointer (some ⟨g14, 0, none⟩)), (135, .bool true)]) ⟨rfl, rfl, rfl, rfl, rfl, rfl, rfl, rfl, trivial⟩ ?_)
              refine CX.condT rfl ?_
              refine CX.region ?_
              refine RX.cons rfl rfl (op_w (yw_move rfl rfl) rfl rfl ?_)
              refine RX.cons rfl rfl (op_yld (y_loadA (i := 0) rfl rfl agg_30 rfl rfl) rfl rfl ?_)
              refine RX.cons rfl rfl (op_buildSlice rfl rfl rfl slb_23 rfl rfl (by intro v hv; simp only [List.mem_cons, List.not_mem_nil, or_false] at hv; subst hv; exact ⟨rfl, (plain_of rfl)⟩) (by decide) fun g5 => ?_)
              refine RX.cons rfl rfl (op_appendM Strm.cells (i := 2) (j := 0) (xs := vs) ([s]) rfl rfl rfl slb_23 rfl rfl rfl rfl rfl rfl (by simp; omega) (by simp; omega) fun A4 c4 => ?_)
              refine RX.cons rfl rfl (op_w (yw_assign rfl rfl) rfl rfl ?_)
              refine RX.nil (XX.inBlock (V' := [(3, .pointer (some ⟨gF, 0, none⟩)), (5, .bool true), (8, .slice x1.1 ((streams ((fewF fs) ++ [(cutF f)])).length) x1.2), (9, .slice E us.length e), (10, .slice A4 ((vs ++ [s]).length) c4), (13, .int .i64 ((j : Nat) : Int))]) ⟨rfl, rfl, rfl, rfl, rfl, rfl, trivial⟩ ?_)
              refine XX.next (V' := [(3, .pointer (some ⟨gF, 0, none⟩)), (5, .bool true), (8, .slice x1.1 ((streams ((fewF fs) ++ [(cutF f)])).length) x1.2), (9, .slice E us.length e), (10, .slice A4 ((vs ++ [s]).length) c4), (13, .int .i64 ((j : Nat) : Int))]) ⟨rfl, rfl, rfl, rfl, rfl, rfl, trivial⟩ ?_
              refine CX.region ?_
              refine RX.cons rfl rfl (op_w (yw_move rfl rfl) rfl rfl ?_)
              refine RX.cons rfl rfl (op_w (yw_add rfl rfl rfl (by omega) (by omega)) rfl rfl ?_)
              refine RX.cons rfl rfl (op_w (yw_assign rfl rfl) rfl rfl ?_)
              refine RX.nil (XX.againP ([.row (some ⟨g5, 0, none⟩) 1 30 9 (List.map Value.cells [.agg (Strm.cells s)]), .blk g14 (.cells (Strm.cells s) 30 (0, 0))]) (j + 1, (A4, c4), vs ++ [s]) (by dsimp only; omega) ⟨by dsimp only; omega, filter_succ_yes hs (keepsS_yes (by omega)) hvs⟩ ⟨rfl, rfl, rfl, rfl, rfl, rfl, trivial⟩ ((perm_pick 2 rfl).trans (List.Perm.cons _ ((perm_pick 2 rfl).trans (List.Perm.cons _ ((perm_pick 2 rfl).trans (List.Perm.cons _ ((perm_pick 2 rfl).trans (List.Perm.cons _ ((perm_pick 2 rfl).trans (List.Perm.cons _ ((perm_pick 2 rfl).trans (List.Perm.cons _ (List.Perm.refl _))))))))))))))
            · refine RX.consG rfl rfl rfl rfl rfl (op_w (yw_fieldAddr rfl fld_30_5 rfl) rfl rfl ?_)
              refine RX.consG rfl rfl rfl rfl rfl (op_yld (y_load (i := 0) rfl rfl one_3 rfl rfl) rfl rfl ?_)
              refine RX.consG rfl rfl rfl rfl rfl (op_w (yw_fieldAddr rfl fld_33_4 rfl) rfl rfl ?_)
              refine RX.consG rfl rfl rfl rfl rfl (op_yld (y_load (i := 6) rfl rfl one_3 rfl rfl) rfl rfl ?_)
              refine RX.consG rfl rfl rfl rfl rfl (op_w (yw_eql rfl rfl rfl) rfl rfl ?_)
              refine RX.consG rfl rfl rfl rfl rfl (op_w (yw_move rfl rfl) rfl rfl ?_)
              refine RX.splitD (t := 128) (p := s.second = (cutF f).second) rfl (fun d128 => ?_) (fun d128 => ?_)
              · refine RX.consG rfl rfl rfl rfl rfl (op_w (yw_fieldAddr rfl fld_30_1 rfl) rfl rfl ?_)
                refine RX.consG rfl rfl rfl rfl rfl (op_yld (y_load (i := 0) rfl rfl one_3 rfl rfl) rfl rfl ?_)
                refine RX.consG rfl rfl rfl rfl rfl (op_w (yw_fieldAddr rfl fld_33_1 rfl) rfl rfl ?_)
                refine RX.consG rfl rfl rfl rfl rfl (op_yld (y_load (i := 6) rfl rfl one_3 rfl rfl) rfl rfl ?_)
                refine RX.consG rfl rfl rfl rfl rfl (op_w (yw_lss rfl rfl rfl) rfl rfl ?_)
                refine RX.consG rfl rfl rfl rfl rfl (op_w (yw_pickT rfl rfl rfl) rfl rfl ?_)
                refine RX.cons rfl rfl (op_w (yw_pickF rfl rfl rfl) rfl rfl ?_)
                refine RX.nil (XX.next (V' := [(3, .pointer (some ⟨gF, 0, none⟩)), (5, .bool true), (8, .slice x1.1 ((streams ((fewF fs) ++ [(cutF f)])).length) x1.2), (9, .slice E us.length e), (10, .slice E' vs.length e'), (13, .int .i64 ((j : Nat) : Int)), (14, .pointer (some ⟨g14, 0, none⟩)), (135, .bool (decide (s.id < (cutF f).id)))]) ⟨rfl, rfl, rfl, rfl, rfl, rfl, rfl, rfl, trivial⟩ ?_)
                refine CX.condD (p := s.id < (cutF f).id) rfl (fun c135 => ?_) (fun c135 => ?_)
                · refine CX.region ?_
                  refine RX.cons rfl rfl (op_w (yw_move rfl rfl) rfl rfl ?_)
                  refine RX.cons rfl rfl (op_yld (y_loadA (i := 0) rfl rfl agg_30 rfl rfl) rfl rfl ?_)
                  refine RX.cons rfl rfl (op_buildSlice rfl rfl rfl slb_23 rfl rfl (by intro v hv; simp only [List.mem_cons, List.not_mem_nil, or_false] at hv; subst hv; exact ⟨rfl, (plain_of rfl)⟩) (by decide) fun g6 => ?_)
                  refine RX.cons rfl rfl (op_appendM Strm.cells (i := 2) (j := 0) (xs := vs) ([s]) rfl rfl rfl slb_23 rfl rfl rfl rfl rfl rfl (by simp; omega) (by simp; omega) fun A4 c4 => ?_)
                  refine RX.cons rfl rfl (op_w (yw_assign rfl rfl) rfl rfl ?_)
                  refine RX.nil (XX.inBlock (V' := [(3, .pointer (some ⟨gF, 0, none⟩)), (5, .bool true), (8, .slice x1.1 ((streams ((fewF fs) ++ [(cutF f)])).length) x1.2), (9, .slice E us.length e), (10, .slice A4 ((vs ++ [s]).length) c4), (13, .int .i64 ((j : Nat) : Int))]) ⟨rfl, rfl, rfl, rfl, rfl, rfl, trivial⟩ ?_)
                  refine XX.next (V' := [(3, .pointer (some ⟨gF, 0, none⟩)), (5, .bool true), (8, .slice x1.1 ((streams ((fewF fs) ++ [(cutF f)])).length) x1.2), (9, .slice E us.length e), (10, .slice A4 ((vs ++ [s]).length) c4), (13, .int .i64 ((j : Nat) : Int))]) ⟨rfl, rfl, rfl, rfl, rfl, rfl, trivial⟩ ?_
                  refine CX.region ?_
                  refine RX.cons rfl rfl (op_w (yw_move rfl rfl) rfl rfl ?_)
                  refine RX.cons rfl rfl (op_w (yw_add rfl rfl rfl (by omega) (by omega)) rfl rfl ?_)
                  refine RX.cons rfl rfl (op_w (yw_assign rfl rfl) rfl rfl ?_)
                  refine RX.nil (XX.againP ([.row (some ⟨g6, 0, none⟩) 1 30 9 (List.map Value.cells [.agg (Strm.cells s)]), .blk g14 (.cells (Strm.cells s) 30 (0, 0))]) (j + 1, (A4, c4), vs ++ [s]) (by dsimp only; omega) ⟨by dsimp only; omega, filter_succ_yes hs (keepsS_yes (by omega)) hvs⟩ ⟨rfl, rfl, rfl, rfl, rfl, rfl, trivial⟩ ((perm_pick 2 rfl).trans (List.Perm.cons _ ((perm_pick 2 rfl).trans (List.Perm.cons _ ((perm_pick 2 rfl).trans (List.Perm.cons _ ((perm_pick 2 rfl).trans (List.Perm.cons _ ((perm_pick 2 rfl).trans (List.Perm.cons _ ((perm_pick 2 rfl).trans (List.Perm.cons _ (List.Perm.refl _))))))))))))))
                · refine CX.skip (XX.inBlock (V' := [(3, .pointer (some ⟨gF, 0, none⟩)), (5, .bool true), (8, .slice x1.1 ((streams ((fewF fs) ++ [(cutF f)])).length) x1.2), (9, .slice E us.length e), (10, .slice E' vs.length e'), (13, .int .i64 ((j : Nat) : Int))]) ⟨rfl, rfl, rfl, rfl, rfl, rfl, trivial⟩ ?_)
                  refine XX.next (V' := [(3, .pointer (some ⟨gF, 0, none⟩)), (5, .bool true), (8, .slice x1.1 ((streams ((fewF fs) ++ [(cutF f)])).length) x1.2), (9, .slice E us.length e), (10, .slice E' vs.length e'), (13, .int .i64 ((j : Nat) : Int))]) ⟨rfl, rfl, rfl, rfl, rfl, rfl, trivial⟩ ?_
                  refine CX.region ?_
                  refine RX.cons rfl rfl (op_w (yw_move rfl rfl) rfl rfl ?_)
                  refine RX.cons rfl rfl (op_w (yw_add rfl rfl rfl (by omega) (by omega)) rfl rfl ?_)
                  refine RX.cons rfl rfl (op_w (yw_assign rfl rfl) rfl rfl ?_)
                  refine RX.nil (XX.againP ([.blk g14 (.cells (Strm.cells s) 30 (0, 0))]) (j + 1, (E', e'), vs) (by dsimp only; omega) ⟨by dsimp only; omega, filter_succ_no hs (keepsS_no (by omega)) hvs⟩ ⟨rfl, rfl, rfl, rfl, rfl, rfl, trivial⟩ ((perm_pick 1 rfl).trans (List.Perm.cons _ ((perm_pick 1 rfl).trans (List.Perm.cons _ ((perm_pick 1 rfl).trans (List.Perm.cons _ ((perm_pick 1 rfl).trans (List.Perm.cons _ ((perm_pick 1 rfl).trans (List.Perm.cons _ ((perm_pick 1 rfl).trans (List.Perm.cons _ (List.Perm.refl _))))))))))))))
              · refine RX.skip rfl rfl rfl rfl rfl rfl rfl ?_
                refine RX.skip rfl rfl rfl rfl rfl rfl rfl ?_
                refine RX.skip rfl rfl rfl rfl rfl rfl rfl ?_
                refine RX.skip rfl rfl rfl rfl rfl rfl rfl ?_
                refine RX.skip rfl rfl rfl rfl rfl rfl rfl ?_
                refine RX.consG rfl rfl rfl rfl rfl (op_w (yw_pickF rfl rfl rfl) rfl rfl ?_)
                refine RX.cons rfl rfl (op_w (yw_pickF rfl rfl rfl) rfl rfl ?_)
                refine RX.nil (XX.next (V' := [(3, .pointer (some ⟨gF, 0, none⟩)), (5, .bool true), (8, .slice x1.1 ((streams ((fewF fs) ++ [(cutF f)])).length) x1.2), (9, .slice E us.length e), (10, .slice E' vs.length e'), (13, .int .i64 ((j : Nat) : Int)), (14, .pointer (some ⟨g14, 0, none⟩)), (135, .bool false)]) ⟨rfl, rfl, rfl, rfl, rfl, rfl, rfl, rfl, trivial⟩ ?_)
                refine CX.condF rfl ?_
                refine CX.skip (XX.inBlock (V' := [(3, .pointer (some ⟨gF, 0, none⟩)), (5, .bool true), (8, .slice x1.1 ((streams ((fewF fs) ++ [(cutF f)])).length) x1.2), (9, .slice E us.length e), (10, .slice E' vs.length e'), (13, .int .i64 ((j : Nat) : Int))]) ⟨rfl, rfl, rfl, rfl, rfl, rfl, trivial⟩ ?_)
                refine XX.next (V' := [(3, .pointer (some ⟨gF, 0, none⟩)), (5, .bool true), (8, .slice x1.1 ((streams ((fewF fs) ++ [(cutF f)])).length) x1.2), (9, .slice E us.length e), (10, .slice E' vs.length e'), (13, .int .i64 ((j : Nat) : Int))]) ⟨rfl, rfl, rfl, rfl, rfl, rfl, trivial⟩ ?_
                refine CX.region ?_
                refine RX.cons rfl rfl (op_w (yw_move rfl rfl) rfl rfl ?_)
                refine RX.cons rfl rfl (op_w (yw_add rfl rfl rfl (by omega) (by omega)) rfl rfl ?_)
                refine RX.cons rfl rfl (op_w (yw_assign rfl rfl) rfl rfl ?_)
                refine RX.nil (XX.againP ([.blk g14 (.cells (Strm.cells s) 30 (0, 0))]) (j + 1, (E', e'), vs) (by dsimp only; omega) ⟨by dsimp only; omega, filter_succ_no hs (keepsS_no (by omega)) hvs⟩ ⟨rfl, rfl, rfl, rfl, rfl, rfl, trivial⟩ ((perm_pick 1 rfl).trans (List.Perm.cons _ ((perm_pick 1 rfl).trans (List.Perm.cons _ ((perm_pick 1 rfl).trans (List.Perm.cons _ ((perm_pick 1 rfl).trans (List.Perm.cons _ ((perm_pick 1 rfl).trans (List.Perm.cons _ ((perm_pick 1 rfl).trans (List.Perm.cons _ (List.Perm.refl _))))))))))))))
        · have hvs' := filter_take_all hvs (by omega)
          refine CX.exit ?_
          refine XX.then_exit ?_
          refine XX.then_exit ?_
          refine XX.block_exit ?_
          refine XX.next (V' := [(5, .bool true), (9, .slice E us.length e), (10, .slice E' vs.length e')]) ⟨rfl, rfl, rfl, trivial⟩ ?_
          refine CX.seq ?_
          refine CX.region ?_
          refine RX.cons rfl rfl (op_w (yw_move rfl rfl) rfl rfl ?_)
          refine RX.cons rfl rfl (op_w (yw_move rfl rfl) rfl rfl ?_)
          refine RX.consG rfl rfl rfl rfl rfl (op_w (yw_move rfl rfl) rfl rfl ?_)
          refine RX.consG rfl rfl rfl rfl rfl (op_w (yw_move rfl rfl) rfl rfl ?_)
          refine RX.consG rfl rfl rfl rfl rfl (op_callV (v := .bool (decide (us = vs))) rfl rfl rfl rfl rfl ent_9 (fun w hw => w_same us vs (Ent.rd (hw.ents _ (List.mem_of_getElem? (i := 1) rfl))) (Ent.rd (hw.ents _ (List.mem_of_getElem? (i := 0) rfl))) (by omega)) ?_)
          refine RX.know (t := 144) (u := .bool true) rfl (congrArg Value.bool (decide_eq_true (by rw [hus', hvs', late_same]))) ?_
          refine RX.cons rfl rfl (op_w (yw_pickT rfl rfl rfl) rfl rfl ?_)
          refine RX.cons rfl rfl (op_w (yw_assign rfl rfl) rfl rfl ?_)
          refine RX.nil (XX.next (V' := [(4, .bool true)]) ⟨rfl, trivial⟩ ?_)
          refine CX.ret ?_
          exact ret_tmp rfl rfl fun w1 hw => ⟨rfl, hw.sub (List.nil_sublist _)⟩

end Go.Proofs.YtmndhiaaolfepaaDoor
