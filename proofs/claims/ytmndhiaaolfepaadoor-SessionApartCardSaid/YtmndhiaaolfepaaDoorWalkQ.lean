/- Walks, printed by a program. -/
import Derived.Test.YtmndhiaaolfepaaDoorWalkP
import Derived.Test.YtmndhiaaolfepaaDoorDefs5
namespace Go.Proofs.YtmndhiaaolfepaaDoor
set_option linter.all false
open Go Go.RowKit
set_option maxRecDepth 100000
theorem fld_33_3 : Fld Tryd.prog 33 3 3 := ⟨_, _, (Tryd.prog.info? 3).get!, Tryd.underlying33, rfl, rfl, by kernel_rfl, by decide +kernel⟩
theorem fld_33_15 : Fld Tryd.prog 33 15 15 := ⟨_, _, (Tryd.prog.info? 3).get!, Tryd.underlying33, rfl, rfl, by kernel_rfl, by decide +kernel⟩
theorem ent_36 : ∀ args w, (callFunc 36 args).run Tryd.prog w = .ok (.enter 36 args) w := enters_of Tryd.func36 (by kernel_rfl) rfl
theorem ent_38 : ∀ args w, (callFunc 38 args).run Tryd.prog w = .ok (.enter 38 args) w := enters_of Tryd.func38 (by kernel_rfl) rfl
theorem ent_37 : ∀ args w, (callFunc 37 args).run Tryd.prog w = .ok (.enter 37 args) w := enters_of Tryd.func37 (by kernel_rfl) rfl
theorem fld_33_11 : Fld Tryd.prog 33 11 11 := ⟨_, _, (Tryd.prog.info? 3).get!, Tryd.underlying33, rfl, rfl, by kernel_rfl, by decide +kernel⟩
theorem fld_33_9 : Fld Tryd.prog 33 9 9 := ⟨_, _, (Tryd.prog.info? 3).get!, Tryd.underlying33, rfl, rfl, by kernel_rfl, by decide +kernel⟩
theorem fld_33_10 : Fld Tryd.prog 33 10 10 := ⟨_, _, (Tryd.prog.info? 3).get!, Tryd.underlying33, rfl, rfl, by kernel_rfl, by decide +kernel⟩
theorem fld_33_12 : Fld Tryd.prog 33 12 12 := ⟨_, _, (Tryd.prog.info? 3).get!, Tryd.underlying33, rfl, rfl, by kernel_rfl, by decide +kernel⟩
theorem fld_33_14 : Fld Tryd.prog 33 14 14 := ⟨_, _, (Tryd.prog.info? 3).get!, Tryd.underlying33, rfl, rfl, by kernel_rfl, by decide +kernel⟩
theorem ent_39 : ∀ args w, (callFunc 39 args).run Tryd.prog w = .ok (.enter 39 args) w := enters_of Tryd.func39 (by kernel_rfl) rfl
theorem ent_26 : ∀ args w, (callFunc 26 args).run Tryd.prog w = .ok (.enter 26 args) w := enters_of Tryd.func26 (by kernel_rfl) rfl
set_option maxRecDepth 100000 in
theorem w_rest {w : World} (f g : Fct) (hx : f.text.size ≤ 9223372036854775807) :
    Calls Tryd.prog 39 #[.agg (Fct.cells f), .agg (Fct.cells g)] w (fun e w' => ∃ x : Fct × Bool, True ∧ e = .returned (.tuple #[.agg (Fct.cells x.1), .bool x.2]) ∧ SL w [] w' []) := by
  refine calls_of_CX (O := []) (L := []) (args := [.agg (Fct.cells f), .agg (Fct.cells g)]) Tryd.func39 rfl (by simp [Tryd.ntmps39]) (SL.refl w) ?_
  refine CX.sub (V' := [(0, .agg (Fct.cells f)), (1, .agg (Fct.cells g))]) ⟨rfl, rfl, trivial⟩ ?_
  refine CX.seq ?_
  refine CX.region ?_
  refine RX.cons rfl rfl (op_box rfl rfl rfl rfl fun g1 => ?_)
  refine RX.cons rfl rfl (op_box rfl rfl rfl rfl fun g2 => ?_)
  refine RX.cons rfl rfl (op_alloc rfl rfl rfl zero_33 fun g3 => ?_)
  refine RX.cons rfl rfl (op_w (yw_assign rfl rfl) rfl rfl ?_)
  refine RX.nil (XX.next (V' := [(2, .pointer (some ⟨g1, 0, none⟩)), (3, .pointer (some ⟨g2, 0, none⟩)), (4, .pointer (some ⟨g3, 0, none⟩))]) ⟨rfl, rfl, rfl, trivial⟩ ?_)
  refine CX.seq ?_
  refine CX.seq ?_
  refine CX.region ?_
  refine RX.cons rfl rfl (op_w (yw_field0 rfl fld_33_0 rfl) rfl rfl ?_)
  refine RX.cons rfl rfl (op_yld (y_load (i := 2) rfl rfl one_3 rfl rfl) rfl rfl ?_)
  refine RX.nil (XX.next (V' := [(2, .pointer (some ⟨g1, 0, none⟩)), (3, .pointer (some ⟨g2, 0, none⟩)), (4, .pointer (some ⟨g3, 0, none⟩)), (7, .int .i64 f.kind)]) ⟨rfl, rfl, rfl, rfl, trivial⟩ ?_)
  refine CX.block ?_
  refine CX.seq ?_
  refine CX.region ?_
  refine RX.cons rfl rfl (op_w (yw_eql rfl rfl rfl) rfl rfl ?_)
  refine RX.cons rfl rfl (op_w (yw_assign rfl rfl) rfl rfl ?_)
  refine RX.nil (XX.next (V' := [(2, .pointer (some ⟨g1, 0, none⟩)), (3, .pointer (some ⟨g2, 0, none⟩)), (4, .pointer (some ⟨g3, 0, none⟩)), (7, .int .i64 f.kind), (8, .bool (decide (f.kind = 6)))]) ⟨rfl, rfl, rfl, rfl, rfl, trivial⟩ ?_)
  refine CX.condD (p := f.kind = 6) rfl (fun c8 => ?_) (fun c8 => ?_)
  · refine CX.seq ?_
    refine CX.drawL 20 ([.blk g1 (.cells (Fct.cells f) 33 (0, 0))]) (by kernel_rfl) ?_
    refine DX.takeW 0 1 (by kernel_rfl) rfl rfl rfl rfl rfl (yw_fieldAddr rfl fld_33_5 rfl) ?_
    refine DX.take 1 3 (by kernel_rfl) rfl rfl rfl rfl rfl (List.Sublist.cons _ (List.Sublist.cons _ (List.Sublist.refl _))) (y_load (i := 0) rfl rfl one_3 rfl rfl) ?_
    refine DX.takeW 2 7 (by kernel_rfl) rfl rfl rfl rfl rfl (yw_fieldAddr rfl fld_33_3 rfl) ?_
    refine DX.take 3 15 (by kernel_rfl) rfl rfl rfl rfl rfl (List.Sublist.cons _ (List.Sublist.cons _ (List.Sublist.refl _))) (y_load (i := 0) rfl rfl one_3 rfl rfl) ?_
    refine DX.takeW 4 31 (by kernel_rfl) rfl rfl rfl rfl rfl (yw_fieldAddr rfl fld_33_8 rfl) ?_
    refine DX.take 5 63 (by kernel_rfl) rfl rfl rfl rfl rfl (List.Sublist.cons _ (List.Sublist.cons _ (List.Sublist.refl _))) (y_load (i := 0) rfl rfl one_3 rfl rfl) ?_
    refine DX.takeW 6 127 (by kernel_rfl) rfl rfl rfl rfl rfl (yw_fieldAddr rfl fld_33_13 rfl) ?_
    refine DX.take 7 255 (by kernel_rfl) rfl rfl rfl rfl rfl (List.Sublist.cons _ (List.Sublist.cons _ (List.Sublist.refl _))) (y_load (i := 0) rfl rfl one_3 rfl rfl) ?_
    refine DX.takeW 8 511 (by kernel_rfl) rfl rfl rfl rfl rfl (yw_fieldAddr rfl fld_33_15 rfl) ?_
    refine DX.take 9 1023 (by kernel_rfl) rfl rfl rfl rfl rfl (List.Sublist.cons _ (List.Sublist.cons _ (List.Sublist.refl _))) (y_load (i := 0) rfl rfl one_3 rfl rfl) ?_
    refine DX.takeW 10 2047 (by kernel_rfl) rfl rfl rfl rfl rfl (yw_fieldAddr rfl fld_33_5 rfl) ?_
    refine DX.step 11 4095 (by kernel_rfl) rfl rfl rfl (op_store1 (i := 1) (cs' := #[.int .i64 g.kind, .int .i64 g.id, .int .i64 g.version, .int .i64 g.period, .int .i64 g.second, .int .i64 f.account, .int .i64 g.device, .int .i64 g.recording, .int .i64 g.territory, .int .i64 g.holder, .int .i64 g.role, .int .i64 g.since, .int .i64 g.till, .int .i64 g.amount, .int .i64 g.share, .int .i64 g.currency, .int .i64 g.mark, .string g.text]) rfl rfl rfl rfl szt_3 rfl rfl rfl rfl (DXs.mk (List.Sublist.cons _ (List.Sublist.cons _ (List.Sublist.refl _))) ?_))
    refine DX.takeW 12 8191 (by kernel_rfl) rfl rfl rfl rfl rfl (yw_fieldAddr rfl fld_33_3 rfl) ?_
    refine DX.step 13 16383 (by kernel_rfl) rfl rfl rfl (op_store1 (i := 1) (cs' := #[.int .i64 g.kind, .int .i64 g.id, .int .i64 g.version, .int .i64 f.period, .int .i64 g.second, .int .i64 f.account, .int .i64 g.device, .int .i64 g.recording, .int .i64 g.territory, .int .i64 g.holder, .int .i64 g.role, .int .i64 g.since, .int .i64 g.till, .int .i64 g.amount, .int .i64 g.share, .int .i64 g.currency, .int .i64 g.mark, .string g.text]) rfl rfl rfl rfl szt_3 rfl rfl rfl rfl (DXs.mk (List.Sublist.cons _ (List.Sublist.cons _ (List.Sublist.refl _))) ?_))
    refine DX.takeW 14 32767 (by kernel_rfl) rfl rfl rfl rfl rfl (yw_fieldAddr rfl fld_33_8 rfl) ?_
    refine DX.step 15 65535 (by kernel_rfl) rfl rfl rfl (op_store1 (i := 1) (cs' := #[.int .i64 g.kind, .int .i64 g.id, .int .i64 g.version, .int .i64 f.period, .int .i64 g.second, .int .i64 f.account, .int .i64 g.device, .int .i64 g.recording, .int .i64 f.territory, .int .i64 g.holder, .int .i64 g.role, .int .i64 g.since, .int .i64 g.till, .int .i64 g.amount, .int .i64 g.share, .int .i64 g.currency, .int .i64 g.mark, .string g.text]) rfl rfl rfl rfl szt_3 rfl rfl rfl rfl (DXs.mk (List.Sublist.cons _ (List.Sublist.cons _ (List.Sublist.refl _))) ?_))
    refine DX.takeW 16 131071 (by kernel_rfl) rfl rfl rfl rfl rfl (yw_fieldAddr rfl fld_33_13 rfl) ?_
    refine DX.step 17 262143 (by kernel_rfl) rfl rfl rfl (op_store1 (i := 1) (cs' := #[.int .i64 g.kind, .int .i64 g.id, .int .i64 g.version, .int .i64 f.period, .int .i64 g.second, .int .i64 f.account, .int .i64 g.device, .int .i64 g.recording, .int .i64 f.territory, .int .i64 g.holder, .int .i64 g.role, .int .i64 g.since, .int .i64 g.till, .int .i64 f.amount, .int .i64 g.share, .int .i64 g.currency, .int .i64 g.mark, .string g.text]) rfl rfl rfl rfl szt_3 rfl rfl rfl rfl (DXs.mk (List.Sublist.cons _ (List.Sublist.cons _ (List.Sublist.refl _))) ?_))
    refine DX.takeW 18 524287 (by kernel_rfl) rfl rfl rfl rfl rfl (yw_fieldAddr rfl fld_33_15 rfl) ?_
    refine DX.step 19 1048575 (by kernel_rfl) rfl rfl rfl (op_store1 (i := 1) (cs' := #[.int .i64 g.kind, .int .i64 g.id, .int .i64 g.version, .int .i64 f.period, .int .i64 g.second, .int .i64 f.account, .int .i64 g.device, .int .i64 g.recording, .int .i64 f.territory, .int .i64 g.holder, .int .i64 g.role, .int .i64 g.since, .int .i64 g.till, .int .i64 f.amount, .int .i64 g.share, .int .i64 f.currency, .int .i64 g.mark, .string g.text]) rfl rfl rfl rfl szt_3 rfl rfl rfl rfl (DXs.mk (List.Sublist.cons _ (List.Sublist.cons _ (List.Sublist.refl _))) ?_))
    refine DX.done (by kernel_rfl) (XX.next (V' := [(2, .pointer (some ⟨g1, 0, none⟩)), (3, .pointer (some ⟨g2, 0, none⟩)), (4, .pointer (some ⟨g3, 0, none⟩))]) ⟨rfl, rfl, rfl, trivial⟩ ?_)
    refine CX.seq ?_
    refine CX.drawL 26 ([.blk g2 (.cells (#[.int .i64 g.kind, .int .i64 g.id, .int .i64 g.version, .int .i64 f.period, .int .i64 g.second, .int .i64 f.account, .int .i64 g.device, .int .i64 g.recording, .int .i64 f.territory, .int .i64 g.holder, .int .i64 g.role, .int .i64 g.since, .int .i64 g.till, .int .i64 f.amount, .int .i64 g.share, .int .i64 f.currency, .int .i64 g.mark, .string g.text]) 33 (0, 0)), .blk g1 (.cells (Fct.cells f) 33 (0, 0))]) (by kernel_rfl) ?_
    refine DX.take 0 1 (by kernel_rfl) rfl rfl rfl rfl rfl (List.Sublist.cons _ (List.Sublist.refl _)) (y_loadA (i := 0) rfl rfl agg_33 rfl rfl) ?_
    refine DX.takeW 1 3 (by kernel_rfl) rfl rfl rfl rfl rfl (yw_fieldAddr rfl fld_33_5 rfl) ?_
    refine DX.take 2 7 (by kernel_rfl) rfl rfl rfl rfl rfl (List.Sublist.cons _ (List.Sublist.refl _)) (y_load (i := 1) rfl rfl one_3 rfl rfl) ?_
    refine DX.step 3 15 (by kernel_rfl) rfl rfl rfl (op_callV (v := .bool (within f.account 1 1000000)) rfl rfl rfl rfl rfl ent_36 (fun w _ => w_refId f.account) (DXs.mk (List.Sublist.cons _ (List.Sublist.refl _)) ?_))
    refine DX.takeW 4 31 (by kernel_rfl) rfl rfl rfl rfl rfl (yw_move rfl rfl) ?_
    refine DX.split (t := 29) (b := within f.account 1 1000000) rfl (fun d29 => ?_) (fun d29 => ?_)
    · refine DX.takeWG 5 63 (by kernel_rfl) rfl rfl rfl rfl rfl rfl rfl rfl (yw_fieldAddr rfl fld_33_3 rfl) ?_
      refine DX.takeG 6 127 (by kernel_rfl) rfl rfl rfl rfl rfl rfl rfl rfl (List.Sublist.cons _ (List.Sublist.refl _)) (y_load (i := 1) rfl rfl one_3 rfl rfl) ?_
      refine DX.stepG 7 255 (by kernel_rfl) rfl rfl rfl rfl rfl rfl (op_callV (v := .bool (within f.period 0 1199)) rfl rfl rfl rfl rfl ent_38 (fun w _ => w_refPeriod f.period) (DXs.mk (List.Sublist.cons _ (List.Sublist.refl _)) ?_))
      refine DX.takeW 8 511 (by kernel_rfl) rfl rfl rfl rfl rfl (yw_pickT rfl rfl rfl) ?_
      refine DX.takeW 9 1023 (by kernel_rfl) rfl rfl rfl rfl rfl (yw_move rfl rfl) ?_
      refine DX.split (t := 34) (b := within f.period 0 1199) rfl (fun d34 => ?_) (fun d34 => ?_)
      · refine DX.takeWG 10 2047 (by kernel_rfl) rfl rfl rfl rfl rfl rfl rfl rfl (yw_fieldAddr rfl fld_33_8 rfl) ?_
        refine DX.takeG 11 4095 (by kernel_rfl) rfl rfl rfl rfl rfl rfl rfl rfl (List.Sublist.cons _ (List.Sublist.refl _)) (y_load (i := 1) rfl rfl one_3 rfl rfl) ?_
        refine DX.stepG 12 8191 (by kernel_rfl) rfl rfl rfl rfl rfl rfl (op_callV (v := .bool (within f.territory 0 7)) rfl rfl rfl rfl rfl ent_37 (fun w _ => w_refTerritory f.territory) (DXs.mk (List.Sublist.cons _ (List.Sublist.refl _)) ?_))
        refine DX.takeW 13 16383 (by kernel_rfl) rfl rfl rfl rfl rfl (yw_pickT rfl rfl rfl) ?_
        refine DX.takeW 14 32767 (by kernel_rfl) rfl rfl rfl rfl rfl (yw_move rfl rfl) ?_
        refine DX.split (t := 39) (b := within f.territory 0 7) rfl (fun d39 => ?_) (fun d39 => ?_)
        · refine DX.takeWG 15 65535 (by kernel_rfl) rfl rfl rfl rfl rfl rfl rfl rfl (yw_fieldAddr rfl fld_33_13 rfl) ?_
          refine DX.takeG 16 131071 (by kernel_rfl) rfl rfl rfl rfl rfl rfl rfl rfl (List.Sublist.cons _ (List.Sublist.refl _)) (y_load (i := 1) rfl rfl one_3 rfl rfl) ?_
          refine DX.stepG 17 262143 (by kernel_rfl) rfl rfl rfl rfl rfl rfl (op_callV (v := .bool (within f.amount 0 1000000000)) rfl rfl rfl rfl rfl ent_27 (fun w _ => w_within f.amount 0 1000000000) (DXs.mk (List.Sublist.cons _ (List.Sublist.refl _)) ?_))
          refine DX.takeW 18 524287 (by kernel_rfl) rfl rfl rfl rfl rfl (yw_pickT rfl rfl rfl) ?_
          refine DX.takeW 19 1048575 (by kernel_rfl) rfl rfl rfl rfl rfl (yw_move rfl rfl) ?_
          refine DX.split (t := 44) (b := within f.amount 0 1000000000) rfl (fun d44 => ?_) (fun d44 => ?_)
          · refine DX.takeWG 20 2097151 (by kernel_rfl) rfl rfl rfl rfl rfl rfl rfl rfl (yw_fieldAddr rfl fld_33_15 rfl) ?_
            refine DX.takeG 21 4194303 (by kernel_rfl) rfl rfl rfl rfl rfl rfl rfl rfl (List.Sublist.cons _ (List.Sublist.refl _)) (y_load (i := 1) rfl rfl one_3 rfl rfl) ?_
            refine DX.stepG 22 8388607 (by kernel_rfl) rfl rfl rfl rfl rfl rfl (op_callV (v := .bool (within f.currency 0 20)) rfl rfl rfl rfl rfl ent_27 (fun w _ => w_within f.currency 0 20) (DXs.mk (List.Sublist.cons _ (List.Sublist.refl _)) ?_))
            refine DX.takeW 23 16777215 (by kernel_rfl) rfl rfl rfl rfl rfl (yw_pickT rfl rfl rfl) ?_
            refine DX.step 24 33554431 (by kernel_rfl) rfl rfl rfl (op_storeAll (i := 0) rfl rfl rfl rfl szt_33 rfl (plain_of rfl) rfl rfl (DXs.mk (List.Sublist.cons _ (List.Sublist.refl _)) ?_))
            refine DX.takeW 25 67108863 (by kernel_rfl) rfl rfl rfl rfl rfl (yw_assign rfl rfl) ?_
            refine DX.done (by kernel_rfl) (XX.next (V' := [(4, .pointer (some ⟨g3, 0, none⟩)), (5, .bool (within f.currency 0 20))]) ⟨rfl, rfl, trivial⟩ ?_)
            refine CX.ret ?_
            refine XX.block_ret ?_
            refine XX.then_ret ?_
            exact ret_cellT (i := 0) rfl rfl rfl agg_33 rfl rfl fun w1 hw => ⟨(({ kind := g.kind, id := g.id, version := g.version, period := f.period, second := g.second, account := f.account, device := g.device, recording := g.recording, territory := f.territory, holder := g.holder, role := g.role, since := g.since, till := g.till, amount := f.amount, share := g.share, currency := f.currency, mark := g.mark, text := g.text } : Fct), (within f.currency 0 20)), trivial, rfl, hw.sub (List.nil_sublist _)⟩
          · refine DX.skip 20 2097151 (by kernel_rfl) rfl rfl rfl rfl rfl rfl rfl rfl ?_
            refine DX.skip 21 4194303 (by kernel_rfl) rfl rfl rfl rfl rfl rfl rfl rfl ?_
            refine DX.skip 22 8388607 (by kernel_rfl) rfl rfl rfl rfl rfl rfl rfl rfl ?_
            refine DX.takeW 23 16777215 (by kernel_rfl) rfl rfl rfl rfl rfl (yw_pickF rfl rfl rfl) ?_
            refine DX.step 24 33554431 (by kernel_rfl) rfl rfl rfl (op_storeAll (i := 0) rfl rfl rfl rfl szt_33 rfl (plain_of rfl) rfl rfl (DXs.mk (List.Sublist.cons _ (List.Sublist.refl _)) ?_))
            refine DX.takeW 25 67108863 (by kernel_rfl) rfl rfl rfl rfl rfl (yw_assign rfl rfl) ?_
            refine DX.done (by kernel_rfl) (XX.next (V' := [(4, .pointer (some ⟨g3, 0, none⟩)), (5, .bool false)]) ⟨rfl, rfl, trivial⟩ ?_)
            refine CX.ret ?_
            refine XX.block_ret ?_
            refine XX.then_ret ?_
            exact ret_cellT (i := 0) rfl rfl rfl agg_33 rfl rfl fun w1 hw => ⟨(({ kind := g.kind, id := g.id, version := g.version, period := f.period, second := g.second, account := f.account, device := g.device, recording := g.recording, territory := f.territory, holder := g.holder, role := g.role, since := g.since, till := g.till, amount := f.amount, share := g.share, currency := f.currency, mark := g.mark, text := g.text } : Fct), false), trivial, rfl, hw.sub (List.nil_sublist _)⟩
        · refine DX.skip 15 65535 (by kernel_rfl) rfl rfl rfl rfl rfl rfl rfl rfl ?_
          refine DX.skip 16 131071 (by kernel_rfl) rfl rfl rfl rfl rfl rfl rfl rfl ?_
          refine DX.skip 17 262143 (by kernel_rfl) rfl rfl rfl rfl rfl rfl rfl rfl ?_
          refine DX.takeW 18 524287 (by kernel_rfl) rfl rfl rfl rfl rfl (yw_pickF rfl rfl rfl) ?_
          refine DX.takeW 19 1048575 (by kernel_rfl) rfl rfl rfl rfl rfl (yw_move rfl rfl) ?_
          refine DX.skip 20 2097151 (by kernel_rfl) rfl rfl rfl rfl rfl rfl rfl rfl ?_
          refine DX.skip 21 4194303 (by kernel_rfl) rfl rfl rfl rfl rfl rfl rfl rfl ?_
          refine DX.skip 22 8388607 (by kernel_rfl) rfl rfl rfl rfl rfl rfl rfl rfl ?_
          refine DX.takeW 23 16777215 (by kernel_rfl) rfl rfl rfl rfl rfl (yw_pickF rfl rfl rfl) ?_
          refine DX.step 24 33554431 (by kernel_rfl) rfl rfl rfl (op_storeAll (i := 0) rfl rfl rfl rfl szt_33 rfl (plain_of rfl) rfl rfl (DXs.mk (List.Sublist.cons _ (List.Sublist.refl _)) ?_))
          refine DX.takeW 25 67108863 (by kernel_rfl) rfl rfl rfl rfl rfl (yw_assign rfl rfl) ?_
          refine DX.done (by kernel_rfl) (XX.next (V' := [(4, .pointer (some ⟨g3, 0, none⟩)), (5, .bool false)]) ⟨rfl, rfl, trivial⟩ ?_)
          refine CX.ret ?_
          refine XX.block_ret ?_
          refine XX.then_ret ?_
          exact ret_cellT (i := 0) rfl rfl rfl agg_33 rfl rfl fun w1 hw => ⟨(({ kind := g.kind, id := g.id, version := g.version, period := f.period, second := g.second, account := f.account, device := g.device, recording := g.recording, territory := f.territory, holder := g.holder, role := g.role, since := g.since, till := g.till, amount := f.amount, share := g.share, currency := f.currency, mark := g.mark, text := g.text } : Fct), false), trivial, rfl, hw.sub (List.nil_sublist _)⟩
      · refine DX.skip 10 2047 (by kernel_rfl) rfl rfl rfl rfl rfl rfl rfl rfl ?_
        refine DX.skip 11 4095 (by kernel_rfl) rfl rfl rfl rfl rfl rfl rfl rfl ?_
        refine DX.skip 12 8191 (by kernel_rfl) rfl rfl rfl rfl rfl rfl rfl rfl ?_
        refine DX.takeW 13 16383 (by kernel_rfl) rfl rfl rfl rfl rfl (yw_pickF rfl rfl rfl) ?_
        refine DX.takeW 14 32767 (by kernel_rfl) rfl rfl rfl rfl rfl (yw_move rfl rfl) ?_
        refine DX.skip 15 65535 (by kernel_rfl) rfl rfl rfl rfl rfl rfl rfl rfl ?_
        refine DX.skip 16 131071 (by kernel_rfl) rfl rfl rfl rfl rfl rfl rfl rfl ?_
        refine DX.skip 17 262143 (by kernel_rfl) rfl rfl rfl rfl rfl rfl rfl rfl ?_
        refine DX.takeW 18 524287 (by kernel_rfl) rfl rfl rfl rfl rfl (yw_pickF rfl rfl rfl) ?_
        refine DX.takeW 19 1048575 (by kernel_rfl) rfl rfl rfl rfl rfl (yw_move rfl rfl) ?_
        refine DX.skip 20 2097151 (by kernel_rfl) rfl rfl rfl rfl rfl rfl rfl rfl ?_
        refine DX.skip 21 4194303 (by kernel_rfl) rfl rfl rfl rfl rfl rfl rfl rfl ?_
        refine DX.skip 22 8388607 (by kernel_rfl) rfl rfl rfl rfl rfl rfl rfl rfl ?_
        refine DX.takeW 23 16777215 (by kernel_rfl) rfl rfl rfl rfl rfl (yw_pickF rfl rfl rfl) ?_
        refine DX.step 24 33554431 (by kernel_rfl) rfl rfl rfl (op_storeAll (i := 0) rfl rfl rfl rfl szt_33 rfl (plain_of rfl) rfl rfl (DXs.mk (List.Sublist.cons _ (List.Sublist.refl _)) ?_))
        refine DX.takeW 25 67108863 (by kernel_rfl) rfl rfl rfl rfl rfl (yw_assign rfl rfl) ?_
        refine DX.done (by kernel_rfl) (XX.next (V' := [(4, .pointer (some ⟨g3, 0, none⟩)), (5, .bool false)]) ⟨rfl, rfl, trivial⟩ ?_)
        refine CX.ret ?_
        refine XX.block_ret ?_
        refine XX.then_ret ?_
        exact ret_cellT (i := 0) rfl rfl rfl agg_33 rfl rfl fun w1 hw => ⟨(({ kind := g.kind, id := g.id, version := g.version, period := f.period, second := g.second, account := f.account, device := g.device, recording := g.recording, territory := f.territory, holder := g.holder, role := g.role, since := g.since, till := g.till, amount := f.amount, share := g.share, currency := f.currency, mark := g.mark, text := g.text } : Fct), false), trivial, rfl, hw.sub (List.nil_sublist _)⟩
    · refine DX.skip 5 63 (by kernel_rfl) rfl rfl rfl rfl rfl rfl rfl rfl ?_
      refine DX.skip 6 127 (by kernel_rfl) rfl rfl rfl rfl rfl rfl rfl rfl ?_
      refine DX.skip 7 255 (by kernel_rfl) rfl rfl rfl rfl rfl rfl rfl rfl ?_
      refine DX.takeW 8 511 (by kernel_rfl) rfl rfl rfl rfl rfl (yw_pickF rfl rfl rfl) ?_
      refine DX.takeW 9 1023 (by kernel_rfl) rfl rfl rfl rfl rfl (yw_move rfl rfl) ?_
      refine DX.skip 10 2047 (by kernel_rfl) rfl rfl rfl rfl rfl rfl rfl rfl ?_
      refine DX.skip 11 4095 (by kernel_rfl) rfl rfl rfl rfl rfl rfl rfl rfl ?_
      refine DX.skip 12 8191 (by kernel_rfl) rfl rfl rfl rfl rfl rfl rfl rfl ?_
      refine DX.takeW 13 16383 (by kernel_rfl) rfl rfl rfl rfl rfl (yw_pickF rfl rfl rfl) ?_
      refine DX.takeW 14 32767 (by kernel_rfl) rfl rfl rfl rfl rfl (yw_move rfl rfl) ?_
      refine DX.skip 15 65535 (by kernel_rfl) rfl rfl rfl rfl rfl rfl rfl rfl ?_
      refine DX.skip 16 131071 (by kernel_rfl) rfl rfl rfl rfl rfl rfl rfl rfl ?_
      refine DX.skip 17 262143 (by kernel_rfl) rfl rfl rfl rfl rfl rfl rfl rfl ?_
      refine DX.takeW 18 524287 (by kernel_rfl) rfl rfl rfl rfl rfl (yw_pickF rfl rfl rfl) ?_
      refine DX.takeW 19 1048575 (by kernel_rfl) rfl rfl rfl rfl rfl (yw_move rfl rfl) ?_
      refine DX.skip 20 2097151 (by kernel_rfl) rfl rfl rfl rfl rfl rfl rfl rfl ?_
      refine DX.skip 21 4194303 (by kernel_rfl) rfl rfl rfl rfl rfl rfl rfl rfl ?_
      refine DX.skip 22 8388607 (by kernel_rfl) rfl rfl rfl rfl rfl rfl rfl rfl ?_
      refine DX.takeW 23 16777215 (by kernel_rfl) rfl rfl rfl rfl rfl (yw_pickF rfl rfl rfl) ?_
      refine DX.step 24 33554431 (by kernel_rfl) rfl rfl rfl (op_storeAll (i := 0) rfl rfl rfl rfl szt_33 rfl (plain_of rfl) rfl rfl (DXs.mk (List.Sublist.cons _ (List.Sublist.refl _)) ?_))
      refine DX.takeW 25 67108863 (by kernel_rfl) rfl rfl rfl rfl rfl (yw_assign rfl rfl) ?_
      refine DX.done (by kernel_rfl) (XX.next (V' := [(4, .pointer (some ⟨g3, 0, none⟩)), (5, .bool false)]) ⟨rfl, rfl, trivial⟩ ?_)
      refine CX.ret ?_
      refine XX.block_ret ?_
      refine XX.then_ret ?_
      exact ret_cellT (i := 0) rfl rfl rfl agg_33 rfl rfl fun w1 hw => ⟨(({ kind := g.kind, id := g.id, version := g.version, period := f.period, second := g.second, account := f.account, device := g.device, recording := g.recording, territory := f.territory, holder := g.holder, role := g.role, since := g.since, till := g.till, amount := f.amount, share := g.share, currency := f.currency, mark := g.mark, text := g.text } : Fct), false), trivial, rfl, hw.sub (List.nil_sublist _)⟩
  · refine CX.seq ?_
    refine CX.region ?_
    refine RX.cons rfl rfl (op_w (yw_eql rfl rfl rfl) rfl rfl ?_)
    refine RX.cons rfl rfl (op_w (yw_assign rfl rfl) rfl rfl ?_)
    refine RX.nil (XX.next (V' := [(2, .pointer (some ⟨g1, 0, none⟩)), (3, .pointer (some ⟨g2, 0, none⟩)), (4, .pointer (some ⟨g3, 0, none⟩)), (7, .int .i64 f.kind), (49, .bool (decide (f.kind = 7)))]) ⟨rfl, rfl, rfl, rfl, rfl, trivial⟩ ?_)
    refine CX.condD (p := f.kind = 7) rfl (fun c49 => ?_) (fun c49 => ?_)
    · refine CX.seq ?_
      refine CX.drawL 12 ([.blk g1 (.cells (Fct.cells f) 33 (0, 0))]) (by kernel_rfl) ?_
      refine DX.takeW 0 1 (by kernel_rfl) rfl rfl rfl rfl rfl (yw_fieldAddr rfl fld_33_15 rfl) ?_
      refine DX.take 1 3 (by kernel_rfl) rfl rfl rfl rfl rfl (List.Sublist.cons _ (List.Sublist.cons _ (List.Sublist.refl _))) (y_load (i := 0) rfl rfl one_3 rfl rfl) ?_
      refine DX.takeW 2 7 (by kernel_rfl) rfl rfl rfl rfl rfl (yw_fieldAddr rfl fld_33_3 rfl) ?_
      refine DX.take 3 15 (by kernel_rfl) rfl rfl rfl rfl rfl (List.Sublist.cons _ (List.Sublist.cons _ (List.Sublist.refl _))) (y_load (i := 0) rfl rfl one_3 rfl rfl) ?_
      refine DX.takeW 4 31 (by kernel_rfl) rfl rfl rfl rfl rfl (yw_fieldAddr rfl fld_33_13 rfl) ?_
      refine DX.take 5 63 (by kernel_rfl) rfl rfl rfl rfl rfl (List.Sublist.cons _ (List.Sublist.cons _ (List.Sublist.refl _))) (y_load (i := 0) rfl rfl one_3 rfl rfl) ?_
      refine DX.takeW 6 127 (by kernel_rfl) rfl rfl rfl rfl rfl (yw_fieldAddr rfl fld_33_15 rfl) ?_
      refine DX.step 7 255 (by kernel_rfl) rfl rfl rfl (op_store1 (i := 1) (cs' := #[.int .i64 g.kind, .int .i64 g.id, .int .i64 g.version, .int .i64 g.period, .int .i64 g.second, .int .i64 g.account, .int .i64 g.device, .int .i64 g.recording, .int .i64 g.territory, .int .i64 g.holder, .int .i64 g.role, .int .i64 g.since, .int .i64 g.till, .int .i64 g.amount, .int .i64 g.share, .int .i64 f.currency, .int .i64 g.mark, .string g.text]) rfl rfl rfl rfl szt_3 rfl rfl rfl rfl (DXs.mk (List.Sublist.cons _ (List.Sublist.cons _ (List.Sublist.refl _))) ?_))
      refine DX.takeW 8 511 (by kernel_rfl) rfl rfl rfl rfl rfl (yw_fieldAddr rfl fld_33_3 rfl) ?_
      refine DX.step 9 1023 (by kernel_rfl) rfl rfl rfl (op_store1 (i := 1) (cs' := #[.int .i64 g.kind, .int .i64 g.id, .int .i64 g.version, .int .i64 f.period, .int .i64 g.second, .int .i64 g.account, .int .i64 g.device, .int .i64 g.recording, .int .i64 g.territory, .int .i64 g.holder, .int .i64 g.role, .int .i64 g.since, .int .i64 g.till, .int .i64 g.amount, .int .i64 g.share, .int .i64 f.currency, .int .i64 g.mark, .string g.text]) rfl rfl rfl rfl szt_3 rfl rfl rfl rfl (DXs.mk (List.Sublist.cons _ (List.Sublist.cons _ (List.Sublist.refl _))) ?_))
      refine DX.takeW 10 2047 (by kernel_rfl) rfl rfl rfl rfl rfl (yw_fieldAddr rfl fld_33_13 rfl) ?_
      refine DX.step 11 4095 (by kernel_rfl) rfl rfl rfl (op_store1 (i := 1) (cs' := #[.int .i64 g.kind, .int .i64 g.id, .int .i64 g.version, .int .i64 f.period, .int .i64 g.second, .int .i64 g.account, .int .i64 g.device, .int .i64 g.recording, .int .i64 g.territory, .int .i64 g.holder, .int .i64 g.role, .int .i64 g.since, .int .i64 g.till, .int .i64 f.amount, .int .i64 g.share, .int .i64 f.currency, .int .i64 g.mark, .string g.text]) rfl rfl rfl rfl szt_3 rfl rfl rfl rfl (DXs.mk (List.Sublist.cons _ (List.Sublist.cons _ (List.Sublist.refl _))) ?_))
      refine DX.done (by kernel_rfl) (XX.next (V' := [(2, .pointer (some ⟨g1, 0, none⟩)), (3, .pointer (some ⟨g2, 0, none⟩)), (4, .pointer (some ⟨g3, 0, none⟩))]) ⟨rfl, rfl, rfl, trivial⟩ ?_)
      refine CX.seq ?_
      refine CX.drawL 16 ([.blk g2 (.cells (#[.int .i64 g.kind, .int .i64 g.id, .int .i64 g.version, .int .i64 f.period, .int .i64 g.second, .int .i64 g.account, .int .i64 g.device, .int .i64 g.recording, .int .i64 g.territory, .int .i64 g.holder, .int .i64 g.role, .int .i64 g.since, .int .i64 g.till, .int .i64 f.amount, .int .i64 g.share, .int .i64 f.currency, .int .i64 g.mark, .string g.text]) 33 (0, 0)), .blk g1 (.cells (Fct.cells f) 33 (0, 0))]) (by kernel_rfl) ?_
      refine DX.take 0 1 (by kernel_rfl) rfl rfl rfl rfl rfl (List.Sublist.cons _ (List.Sublist.refl _)) (y_loadA (i := 0) rfl rfl agg_33 rfl rfl) ?_
      refine DX.takeW 1 3 (by kernel_rfl) rfl rfl rfl rfl rfl (yw_fieldAddr rfl fld_33_15 rfl) ?_
      refine DX.take 2 7 (by kernel_rfl) rfl rfl rfl rfl rfl (List.Sublist.cons _ (List.Sublist.refl _)) (y_load (i := 1) rfl rfl one_3 rfl rfl) ?_
      refine DX.step 3 15 (by kernel_rfl) rfl rfl rfl (op_callV (v := .bool (within f.currency 1 20)) rfl rfl rfl rfl rfl ent_27 (fun w _ => w_within f.currency 1 20) (DXs.mk (List.Sublist.cons _ (List.Sublist.refl _)) ?_))
      refine DX.takeW 4 31 (by kernel_rfl) rfl rfl rfl rfl rfl (yw_move rfl rfl) ?_
      refine DX.split (t := 64) (b := within f.currency 1 20) rfl (fun d64 => ?_) (fun d64 => ?_)
      · refine DX.takeWG 5 63 (by kernel_rfl) rfl rfl rfl rfl rfl rfl rfl rfl (yw_fieldAddr rfl fld_33_3 rfl) ?_
        refine DX.takeG 6 127 (by kernel_rfl) rfl rfl rfl rfl rfl rfl rfl rfl (List.Sublist.cons _ (List.Sublist.refl _)) (y_load (i := 1) rfl rfl one_3 rfl rfl) ?_
        refine DX.stepG 7 255 (by kernel_rfl) rfl rfl rfl rfl rfl rfl (op_callV (v := .bool (within f.period 0 1199)) rfl rfl rfl rfl rfl ent_38 (fun w _ => w_refPeriod f.period) (DXs.mk (List.Sublist.cons _ (List.Sublist.refl _)) ?_))
        refine DX.takeW 8 511 (by kernel_rfl) rfl rfl rfl rfl rfl (yw_pickT rfl rfl rfl) ?_
        refine DX.takeW 9 1023 (by kernel_rfl) rfl rfl rfl rfl rfl (yw_move rfl rfl) ?_
        refine DX.split (t := 69) (b := within f.period 0 1199) rfl (fun d69 => ?_) (fun d69 => ?_)
        · refine DX.takeWG 10 2047 (by kernel_rfl) rfl rfl rfl rfl rfl rfl rfl rfl (yw_fieldAddr rfl fld_33_13 rfl) ?_
          refine DX.takeG 11 4095 (by kernel_rfl) rfl rfl rfl rfl rfl rfl rfl rfl (List.Sublist.cons _ (List.Sublist.refl _)) (y_load (i := 1) rfl rfl one_3 rfl rfl) ?_
          refine DX.stepG 12 8191 (by kernel_rfl) rfl rfl rfl rfl rfl rfl (op_callV (v := .bool (within f.amount 1 10000000)) rfl rfl rfl rfl rfl ent_27 (fun w _ => w_within f.amount 1 10000000) (DXs.mk (List.Sublist.cons _ (List.Sublist.refl _)) ?_))
          refine DX.takeW 13 16383 (by kernel_rfl) rfl rfl rfl rfl rfl (yw_pickT rfl rfl rfl) ?_
          refine DX.step 14 32767 (by kernel_rfl) rfl rfl rfl (op_storeAll (i := 0) rfl rfl rfl rfl szt_33 rfl (plain_of rfl) rfl rfl (DXs.mk (List.Sublist.cons _ (List.Sublist.refl _)) ?_))
          refine DX.takeW 15 65535 (by kernel_rfl) rfl rfl rfl rfl rfl (yw_assign rfl rfl) ?_
          refine DX.done (by kernel_rfl) (XX.next (V' := [(4, .pointer (some ⟨g3, 0, none⟩)), (5, .bool (within f.amount 1 10000000))]) ⟨rfl, rfl, trivial⟩ ?_)
          refine CX.ret ?_
          refine XX.block_ret ?_
          refine XX.then_ret ?_
          exact ret_cellT (i := 0) rfl rfl rfl agg_33 rfl rfl fun w1 hw => ⟨(({ kind := g.kind, id := g.id, version := g.version, period := f.period, second := g.second, account := g.account, device := g.device, recording := g.recording, territory := g.territory, holder := g.holder, role := g.role, since := g.since, till := g.till, amount := f.amount, share := g.share, currency := f.currency, mark := g.mark, text := g.text } : Fct), (within f.amount 1 10000000)), trivial, rfl, hw.sub (List.nil_sublist _)⟩
        · refine DX.skip 10 2047 (by kernel_rfl) rfl rfl rfl rfl rfl rfl rfl rfl ?_
          refine DX.skip 11 4095 (by kernel_rfl) rfl rfl rfl rfl rfl rfl rfl rfl ?_
          refine DX.skip 12 8191 (by kernel_rfl) rfl rfl rfl rfl rfl rfl rfl rfl ?_
          refine DX.takeW 13 16383 (by kernel_rfl) rfl rfl rfl rfl rfl (yw_pickF rfl rfl rfl) ?_
          refine DX.step 14 32767 (by kernel_rfl) rfl rfl rfl (op_storeAll (i := 0) rfl rfl rfl rfl szt_33 rfl (plain_of rfl) rfl rfl (DXs.mk (List.Sublist.cons _ (List.Sublist.refl _)) ?_))
          refine DX.takeW 15 65535 (by kernel_rfl) rfl rfl rfl rfl rfl (yw_assign rfl rfl) ?_
          refine DX.done (by kernel_rfl) (XX.next (V' := [(4, .pointer (some ⟨g3, 0, none⟩)), (5, .bool false)]) ⟨rfl, rfl, trivial⟩ ?_)
          refine CX.ret ?_
          refine XX.block_ret ?_
          refine XX.then_ret ?_
          exact ret_cellT (i := 0) rfl rfl rfl agg_33 rfl rfl fun w1 hw => ⟨(({ kind := g.kind, id := g.id, version := g.version, period := f.period, second := g.second, account := g.account, device := g.device, recording := g.recording, territory := g.territory, holder := g.holder, role := g.role, since := g.since, till := g.till, amount := f.amount, share := g.share, currency := f.currency, mark := g.mark, text := g.text } : Fct), false), trivial, rfl, hw.sub (List.nil_sublist _)⟩
      · refine DX.skip 5 63 (by kernel_rfl) rfl rfl rfl rfl rfl rfl rfl rfl ?_
        refine DX.skip 6 127 (by kernel_rfl) rfl rfl rfl rfl rfl rfl rfl rfl ?_
        refine DX.skip 7 255 (by kernel_rfl) rfl rfl rfl rfl rfl rfl rfl rfl ?_
        refine DX.takeW 8 511 (by kernel_rfl) rfl rfl rfl rfl rfl (yw_pickF rfl rfl rfl) ?_
        refine DX.takeW 9 1023 (by kernel_rfl) rfl rfl rfl rfl rfl (yw_move rfl rfl) ?_
        refine DX.skip 10 2047 (by kernel_rfl) rfl rfl rfl rfl rfl rfl rfl rfl ?_
        refine DX.skip 11 4095 (by kernel_rfl) rfl rfl rfl rfl rfl rfl rfl rfl ?_
        refine DX.skip 12 8191 (by kernel_rfl) rfl rfl rfl rfl rfl rfl rfl rfl ?_
        refine DX.takeW 13 16383 (by kernel_rfl) rfl rfl rfl rfl rfl (yw_pickF rfl rfl rfl) ?_
        refine DX.step 14 32767 (by kernel_rfl) rfl rfl rfl (op_storeAll (i := 0) rfl rfl rfl rfl szt_33 rfl (plain_of rfl) rfl rfl (DXs.mk (List.Sublist.cons _ (List.Sublist.refl _)) ?_))
        refine DX.takeW 15 65535 (by kernel_rfl) rfl rfl rfl rfl rfl (yw_assign rfl rfl) ?_
        refine DX.done (by kernel_rfl) (XX.next (V' := [(4, .pointer (some ⟨g3, 0, none⟩)), (5, .bool false)]) ⟨rfl, rfl, trivial⟩ ?_)
        refine CX.ret ?_
        refine XX.block_ret ?_
        refine XX.then_ret ?_
        exact ret_cellT (i := 0) rfl rfl rfl agg_33 rfl rfl fun w1 hw => ⟨(({ kind := g.kind, id := g.id, version := g.version, period := f.period, second := g.second, account := g.account, device := g.device, recording := g.recording, territory := g.territory, holder := g.holder, role := g.role, since := g.since, till := g.till, amount := f.amount, share := g.share, currency := f.currency, mark := g.mark, text := g.text } : Fct), false), trivial, rfl, hw.sub (List.nil_sublist _)⟩
    · refine CX.seq ?_
      refine CX.region ?_
      refine RX.cons rfl rfl (op_w (yw_eql rfl rfl rfl) rfl rfl ?_)
      refine RX.cons rfl rfl (op_w (yw_assign rfl rfl) rfl rfl ?_)
      refine RX.nil (XX.next (V' := [(2, .pointer (some ⟨g1, 0, none⟩)), (3, .pointer (some ⟨g2, 0, none⟩)), (4, .pointer (some ⟨g3, 0, none⟩)), (7, .int .i64 f.kind), (74, .bool (decide (f.kind = 8)))]) ⟨rfl, rfl, rfl, rfl, rfl, trivial⟩ ?_)
      refine CX.condD (p := f.kind = 8) rfl (fun c74 => ?_) (fun c74 => ?_)
      · refine CX.seq ?_
        refine CX.drawL 16 ([.blk g1 (.cells (Fct.cells f) 33 (0, 0))]) (by kernel_rfl) ?_
        refine DX.takeW 0 1 (by kernel_rfl) rfl rfl rfl rfl rfl (yw_fieldAddr rfl fld_33_1 rfl) ?_
        refine DX.take 1 3 (by kernel_rfl) rfl rfl rfl rfl rfl (List.Sublist.cons _ (List.Sublist.cons _ (List.Sublist.refl _))) (y_load (i := 0) rfl rfl one_3 rfl rfl) ?_
        refine DX.takeW 2 7 (by kernel_rfl) rfl rfl rfl rfl rfl (yw_fieldAddr rfl fld_33_5 rfl) ?_
        refine DX.take 3 15 (by kernel_rfl) rfl rfl rfl rfl rfl (List.Sublist.cons _ (List.Sublist.cons _ (List.Sublist.refl _))) (y_load (i := 0) rfl rfl one_3 rfl rfl) ?_
        refine DX.takeW 4 31 (by kernel_rfl) rfl rfl rfl rfl rfl (yw_fieldAddr rfl fld_33_3 rfl) ?_
        refine DX.take 5 63 (by kernel_rfl) rfl rfl rfl rfl rfl (List.Sublist.cons _ (List.Sublist.cons _ (List.Sublist.refl _))) (y_load (i := 0) rfl rfl one_3 rfl rfl) ?_
        refine DX.takeW 6 127 (by kernel_rfl) rfl rfl rfl rfl rfl (yw_fieldAddr rfl fld_33_13 rfl) ?_
        refine DX.take 7 255 (by kernel_rfl) rfl rfl rfl rfl rfl (List.Sublist.cons _ (List.Sublist.cons _ (List.Sublist.refl _))) (y_load (i := 0) rfl rfl one_3 rfl rfl) ?_
        refine DX.takeW 8 511 (by kernel_rfl) rfl rfl rfl rfl rfl (yw_fieldAddr rfl fld_33_1 rfl) ?_
        refine DX.step 9 1023 (by kernel_rfl) rfl rfl rfl (op_store1 (i := 1) (cs' := #[.int .i64 g.kind, .int .i64 f.id, .int .i64 g.version, .int .i64 g.period, .int .i64 g.second, .int .i64 g.account, .int .i64 g.device, .int .i64 g.recording, .int .i64 g.territory, .int .i64 g.holder, .int .i64 g.role, .int .i64 g.since, .int .i64 g.till, .int .i64 g.amount, .int .i64 g.share, .int .i64 g.currency, .int .i64 g.mark, .string g.text]) rfl rfl rfl rfl szt_3 rfl rfl rfl rfl (DXs.mk (List.Sublist.cons _ (List.Sublist.cons _ (List.Sublist.refl _))) ?_))
        refine DX.takeW 10 2047 (by kernel_rfl) rfl rfl rfl rfl rfl (yw_fieldAddr rfl fld_33_5 rfl) ?_
        refine DX.step 11 4095 (by kernel_rfl) rfl rfl rfl (op_store1 (i := 1) (cs' := #[.int .i64 g.kind, .int .i64 f.id, .int .i64 g.version, .int .i64 g.period, .int .i64 g.second, .int .i64 f.account, .int .i64 g.device, .int .i64 g.recording, .int .i64 g.territory, .int .i64 g.holder, .int .i64 g.role, .int .i64 g.since, .int .i64 g.till, .int .i64 g.amount, .int .i64 g.share, .int .i64 g.currency, .int .i64 g.mark, .string g.text]) rfl rfl rfl rfl szt_3 rfl rfl rfl rfl (DXs.mk (List.Sublist.cons _ (List.Sublist.cons _ (List.Sublist.refl _))) ?_))
        refine DX.takeW 12 8191 (by kernel_rfl) rfl rfl rfl rfl rfl (yw_fieldAddr rfl fld_33_3 rfl) ?_
        refine DX.step 13 16383 (by kernel_rfl) rfl rfl rfl (op_store1 (i := 1) (cs' := #[.int .i64 g.kind, .int .i64 f.id, .int .i64 g.version, .int .i64 f.period, .int .i64 g.second, .int .i64 f.account, .int .i64 g.device, .int .i64 g.recording, .int .i64 g.territory, .int .i64 g.holder, .int .i64 g.role, .int .i64 g.since, .int .i64 g.till, .int .i64 g.amount, .int .i64 g.share, .int .i64 g.currency, .int .i64 g.mark, .string g.text]) rfl rfl rfl rfl szt_3 rfl rfl rfl rfl (DXs.mk (List.Sublist.cons _ (List.Sublist.cons _ (List.Sublist.refl _))) ?_))
        refine DX.takeW 14 32767 (by kernel_rfl) rfl rfl rfl rfl rfl (yw_fieldAddr rfl fld_33_13 rfl) ?_
        refine DX.step 15 65535 (by kernel_rfl) rfl rfl rfl (op_store1 (i := 1) (cs' := #[.int .i64 g.kind, .int .i64 f.id, .int .i64 g.version, .int .i64 f.period, .int .i64 g.second, .int .i64 f.account, .int .i64 g.device, .int .i64 g.recording, .int .i64 g.territory, .int .i64 g.holder, .int .i64 g.role, .int .i64 g.since, .int .i64 g.till, .int .i64 f.amount, .int .i64 g.share, .int .i64 g.currency, .int .i64 g.mark, .string g.text]) rfl rfl rfl rfl szt_3 rfl rfl rfl rfl (DXs.mk (List.Sublist.cons _ (List.Sublist.cons _ (List.Sublist.refl _))) ?_))
        refine DX.done (by kernel_rfl) (XX.next (V' := [(2, .pointer (some ⟨g1, 0, none⟩)), (3, .pointer (some ⟨g2, 0, none⟩)), (4, .pointer (some ⟨g3, 0, none⟩))]) ⟨rfl, rfl, rfl, trivial⟩ ?_)
        refine CX.seq ?_
        refine CX.drawL 21 ([.blk g2 (.cells (#[.int .i64 g.kind, .int .i64 f.id, .int .i64 g.version, .int .i64 f.period, .int .i64 g.second, .int .i64 f.account, .int .i64 g.device, .int .i64 g.recording, .int .i64 g.territory, .int .i64 g.holder, .int .i64 g.role, .int .i64 g.since, .int .i64 g.till, .int .i64 f.amount, .int .i64 g.share, .int .i64 g.currency, .int .i64 g.mark, .string g.text]) 33 (0, 0)), .blk g1 (.cells (Fct.cells f) 33 (0, 0))]) (by kernel_rfl) ?_
        refine DX.take 0 1 (by kernel_rfl) rfl rfl rfl rfl rfl (List.Sublist.cons _ (List.Sublist.refl _)) (y_loadA (i := 0) rfl rfl agg_33 rfl rfl) ?_
        refine DX.takeW 1 3 (by kernel_rfl) rfl rfl rfl rfl rfl (yw_fieldAddr rfl fld_33_1 rfl) ?_
        refine DX.take 2 7 (by kernel_rfl) rfl rfl rfl rfl rfl (List.Sublist.cons _ (List.Sublist.refl _)) (y_load (i := 1) rfl rfl one_3 rfl rfl) ?_
        refine DX.step 3 15 (by kernel_rfl) rfl rfl rfl (op_callV (v := .bool (within f.id 1 1000000)) rfl rfl rfl rfl rfl ent_36 (fun w _ => w_refId f.id) (DXs.mk (List.Sublist.cons _ (List.Sublist.refl _)) ?_))
        refine DX.takeW 4 31 (by kernel_rfl) rfl rfl rfl rfl rfl (yw_move rfl rfl) ?_
        refine DX.split (t := 92) (b := within f.id 1 1000000) rfl (fun d92 => ?_) (fun d92 => ?_)
        · refine DX.takeWG 5 63 (by kernel_rfl) rfl rfl rfl rfl rfl rfl rfl rfl (yw_fieldAddr rfl fld_33_5 rfl) ?_
          refine DX.takeG 6 127 (by kernel_rfl) rfl rfl rfl rfl rfl rfl rfl rfl (List.Sublist.cons _ (List.Sublist.refl _)) (y_load (i := 1) rfl rfl one_3 rfl rfl) ?_
          refine DX.stepG 7 255 (by kernel_rfl) rfl rfl rfl rfl rfl rfl (op_callV (v := .bool (within f.account 1 1000)) rfl rfl rfl rfl rfl ent_27 (fun w _ => w_within f.account 1 1000) (DXs.mk (List.Sublist.cons _ (List.Sublist.refl _)) ?_))
          refine DX.takeW 8 511 (by kernel_rfl) rfl rfl rfl rfl rfl (yw_pickT rfl rfl rfl) ?_
          refine DX.takeW 9 1023 (by kernel_rfl) rfl rfl rfl rfl rfl (yw_move rfl rfl) ?_
          refine DX.split (t := 97) (b := within f.account 1 1000) rfl (fun d97 => ?_) (fun d97 => ?_)
          · refine DX.takeWG 10 2047 (by kernel_rfl) rfl rfl rfl rfl rfl rfl rfl rfl (yw_fieldAddr rfl fld_33_3 rfl) ?_
            refine DX.takeG 11 4095 (by kernel_rfl) rfl rfl rfl rfl rfl rfl rfl rfl (List.Sublist.cons _ (List.Sublist.refl _)) (y_load (i := 1) rfl rfl one_3 rfl rfl) ?_
            refine DX.stepG 12 8191 (by kernel_rfl) rfl rfl rfl rfl rfl rfl (op_callV (v := .bool (within f.period 0 1199)) rfl rfl rfl rfl rfl ent_38 (fun w _ => w_refPeriod f.period) (DXs.mk (List.Sublist.cons _ (List.Sublist.refl _)) ?_))
            refine DX.takeW 13 16383 (by kernel_rfl) rfl rfl rfl rfl rfl (yw_pickT rfl rfl rfl) ?_
            refine DX.takeW 14 32767 (by kernel_rfl) rfl rfl rfl rfl rfl (yw_move rfl rfl) ?_
            refine DX.split (t := 102) (b := within f.period 0 1199) rfl (fun d102 => ?_) (fun d102 => ?_)
            · refine DX.takeWG 15 65535 (by kernel_rfl) rfl rfl rfl rfl rfl rfl rfl rfl (yw_fieldAddr rfl fld_33_13 rfl) ?_
              refine DX.takeG 16 131071 (by kernel_rfl) rfl rfl rfl rfl rfl rfl rfl rfl (List.Sublist.cons _ (List.Sublist.refl _)) (y_load (i := 1) rfl rfl one_3 rfl rfl) ?_
              refine DX.stepG 17 262143 (by kernel_rfl) rfl rfl rfl rfl rfl rfl (op_callV (v := .bool (within f.amount 0 100000000000)) rfl rfl rfl rfl rfl ent_27 (fun w _ => w_within f.amount 0 100000000000) (DXs.mk (List.Sublist.cons _ (List.Sublist.refl _)) ?_))
              refine DX.takeW 18 524287 (by kernel_rfl) rfl rfl rfl rfl rfl (yw_pickT rfl rfl rfl) ?_
              refine DX.step 19 1048575 (by kernel_rfl) rfl rfl rfl (op_storeAll (i := 0) rfl rfl rfl rfl szt_33 rfl (plain_of rfl) rfl rfl (DXs.mk (List.Sublist.cons _ (List.Sublist.refl _)) ?_))
              refine DX.takeW 20 2097151 (by kernel_rfl) rfl rfl rfl rfl rfl (yw_assign rfl rfl) ?_
              refine DX.done (by kernel_rfl) (XX.next (V' := [(4, .pointer (some ⟨g3, 0, none⟩)), (5, .bool (within f.amount 0 100000000000))]) ⟨rfl, rfl, trivial⟩ ?_)
              refine CX.ret ?_
              refine XX.block_ret ?_
              refine XX.then_ret ?_
              exact ret_cellT (i := 0) rfl rfl rfl agg_33 rfl rfl fun w1 hw => ⟨(({ kind := g.kind, id := f.id, version := g.version, period := f.period, second := g.second, account := f.account, device := g.device, recording := g.recording, territory := g.territory, holder := g.holder, role := g.role, since := g.since, till := g.till, amount := f.amount, share := g.share, currency := g.currency, mark := g.mark, text := g.text } : Fct), (within f.amount 0 100000000000)), trivial, rfl, hw.sub (List.nil_sublist _)⟩
            · refine DX.skip 15 65535 (by kernel_rfl) rfl rfl rfl rfl rfl rfl rfl rfl ?_
              refine DX.skip 16 131071 (by kernel_rfl) rfl rfl rfl rfl rfl rfl rfl rfl ?_
              refine DX.skip 17 262143 (by kernel_rfl) rfl rfl rfl rfl rfl rfl rfl rfl ?_
              refine DX.takeW 18 524287 (by kernel_rfl) rfl rfl rfl rfl rfl (yw_pickF rfl rfl rfl) ?_
              refine DX.step 19 1048575 (by kernel_rfl) rfl rfl rfl (op_storeAll (i := 0) rfl rfl rfl rfl szt_33 rfl (plain_of rfl) rfl rfl (DXs.mk (List.Sublist.cons _ (List.Sublist.refl _)) ?_))
              refine DX.takeW 20 2097151 (by kernel_rfl) rfl rfl rfl rfl rfl (yw_assign rfl rfl) ?_
              refine DX.done (by kernel_rfl) (XX.next (V' := [(4, .pointer (some ⟨g3, 0, none⟩)), (5, .bool false)]) ⟨rfl, rfl, trivial⟩ ?_)
              refine CX.ret ?_
              refine XX.block_ret ?_
              refine XX.then_ret ?_
              exact ret_cellT (i := 0) rfl rfl rfl agg_33 rfl rfl fun w1 hw => ⟨(({ kind := g.kind, id := f.id, version := g.version, period := f.period, second := g.second, account := f.account, device := g.device, recording := g.recording, territory := g.territory, holder := g.holder, role := g.role, since := g.since, till := g.till, amount := f.amount, share := g.share, currency := g.currency, mark := g.mark, text := g.text } : Fct), false), trivial, rfl, hw.sub (List.nil_sublist _)⟩
          · refine DX.skip 10 2047 (by kernel_rfl) rfl rfl rfl rfl rfl rfl rfl rfl ?_
            refine DX.skip 11 4095 (by kernel_rfl) rfl rfl rfl rfl rfl rfl rfl rfl ?_
            refine DX.skip 12 8191 (by kernel_rfl) rfl rfl rfl rfl rfl rfl rfl rfl ?_
            refine DX.takeW 13 16383 (by kernel_rfl) rfl rfl rfl rfl rfl (yw_pickF rfl rfl rfl) ?_
            refine DX.takeW 14 32767 (by kernel_rfl) rfl rfl rfl rfl rfl (yw_move rfl rfl) ?_
            refine DX.skip 15 65535 (by kernel_rfl) rfl rfl rfl rfl rfl rfl rfl rfl ?_
            refine DX.skip 16 131071 (by kernel_rfl) rfl rfl rfl rfl rfl rfl rfl rfl ?_
            refine DX.skip 17 262143 (by kernel_rfl) rfl rfl rfl rfl rfl rfl rfl rfl ?_
            refine DX.takeW 18 524287 (by kernel_rfl) rfl rfl rfl rfl rfl (yw_pickF rfl rfl rfl) ?_
            refine DX.step 19 1048575 (by kernel_rfl) rfl rfl rfl (op_storeAll (i := 0) rfl rfl rfl rfl szt_33 rfl (plain_of rfl) rfl rfl (DXs.mk (List.Sublist.cons _ (List.Sublist.refl _)) ?_))
            refine DX.takeW 20 2097151 (by kernel_rfl) rfl rfl rfl rfl rfl (yw_assign rfl rfl) ?_
            refine DX.done (by kernel_rfl) (XX.next (V' := [(4, .pointer (some ⟨g3, 0, none⟩)), (5, .bool false)]) ⟨rfl, rfl, trivial⟩ ?_)
            refine CX.ret ?_
            refine XX.block_ret ?_
            refine XX.then_ret ?_
            exact ret_cellT (i := 0) rfl rfl rfl agg_33 rfl rfl fun w1 hw => ⟨(({ kind := g.kind, id := f.id, version := g.version, period := f.period, second := g.second, account := f.account, device := g.device, recording := g.recording, territory := g.territory, holder := g.holder, role := g.role, since := g.since, till := g.till, amount := f.amount, share := g.share, currency := g.currency, mark := g.mark, text := g.text } : Fct), false), trivial, rfl, hw.sub (List.nil_sublist _)⟩
        · refine DX.skip 5 63 (by kernel_rfl) rfl rfl rfl rfl rfl rfl rfl rfl ?_
          refine DX.skip 6 127 (by kernel_rfl) rfl rfl rfl rfl rfl rfl rfl rfl ?_
          refine DX.skip 7 255 (by kernel_rfl) rfl rfl rfl rfl rfl rfl rfl rfl ?_
          refine DX.takeW 8 511 (by kernel_rfl) rfl rfl rfl rfl rfl (yw_pickF rfl rfl rfl) ?_
          refine DX.takeW 9 1023 (by kernel_rfl) rfl rfl rfl rfl rfl (yw_move rfl rfl) ?_
          refine DX.skip 10 2047 (by kernel_rfl) rfl rfl rfl rfl rfl rfl rfl rfl ?_
          refine DX.skip 11 4095 (by kernel_rfl) rfl rfl rfl rfl rfl rfl rfl rfl ?_
          refine DX.skip 12 8191 (by kernel_rfl) rfl rfl rfl rfl rfl rfl rfl rfl ?_
          refine DX.takeW 13 16383 (by kernel_rfl) rfl rfl rfl rfl rfl (yw_pickF rfl rfl rfl) ?_
          refine DX.takeW 14 32767 (by kernel_rfl) rfl rfl rfl rfl rfl (yw_move rfl rfl) ?_
          refine DX.skip 15 65535 (by kernel_rfl) rfl rfl rfl rfl rfl rfl rfl rfl ?_
          refine DX.skip 16 131071 (by kernel_rfl) rfl rfl rfl rfl rfl rfl rfl rfl ?_
          refine DX.skip 17 262143 (by kernel_rfl) rfl rfl rfl rfl rfl rfl rfl rfl ?_
          refine DX.takeW 18 524287 (by kernel_rfl) rfl rfl rfl rfl rfl (yw_pickF rfl rfl rfl) ?_
          refine DX.step 19 1048575 (by kernel_rfl) rfl rfl rfl (op_storeAll (i := 0) rfl rfl rfl rfl szt_33 rfl (plain_of rfl) rfl rfl (DXs.mk (List.Sublist.cons _ (List.Sublist.refl _)) ?_))
          refine DX.takeW 20 2097151 (by kernel_rfl) rfl rfl rfl rfl rfl (yw_assign rfl rfl) ?_
          refine DX.done (by kernel_rfl) (XX.next (V' := [(4, .pointer (some ⟨g3, 0, none⟩)), (5, .bool false)]) ⟨rfl, rfl, trivial⟩ ?_)
          refine CX.ret ?_
          refine XX.block_ret ?_
          refine XX.then_ret ?_
          exact ret_cellT (i := 0) rfl rfl rfl agg_33 rfl rfl fun w1 hw => ⟨(({ kind := g.kind, id := f.id, version := g.version, period := f.period, second := g.second, account := f.account, device := g.device, recording := g.recording, territory := g.territory, holder := g.holder, role := g.role, since := g.since, till := g.till, amount := f.amount, share := g.share, currency := g.currency, mark := g.mark, text := g.text } : Fct), false), trivial, rfl, hw.sub (List.nil_sublist _)⟩
      · refine CX.seq ?_
        refine CX.region ?_
        refine RX.cons rfl rfl (op_w (yw_eql rfl rfl rfl) rfl rfl ?_)
        refine RX.cons rfl rfl (op_w (yw_assign rfl rfl) rfl rfl ?_)
        refine RX.nil (XX.next (V' := [(2, .pointer (some ⟨g1, 0, none⟩)), (3, .pointer (some ⟨g2, 0, none⟩)), (4, .pointer (some ⟨g3, 0, none⟩)), (7, .int .i64 f.kind), (107, .bool (decide (f.kind = 9)))]) ⟨rfl, rfl, rfl, rfl, rfl, trivial⟩ ?_)
        refine CX.condD (p := f.kind = 9) rfl (fun c107 => ?_) (fun c107 => ?_)
        · refine CX.seq ?_
          refine CX.drawL 8 ([.blk g1 (.cells (Fct.cells f) 33 (0, 0))]) (by kernel_rfl) ?_
          refine DX.takeW 0 1 (by kernel_rfl) rfl rfl rfl rfl rfl (yw_fieldAddr rfl fld_33_11 rfl) ?_
          refine DX.take 1 3 (by kernel_rfl) rfl rfl rfl rfl rfl (List.Sublist.cons _ (List.Sublist.cons _ (List.Sublist.refl _))) (y_load (i := 0) rfl rfl one_3 rfl rfl) ?_
          refine DX.takeW 2 7 (by kernel_rfl) rfl rfl rfl rfl rfl (yw_fieldAddr rfl fld_33_17 rfl) ?_
          refine DX.take 3 15 (by kernel_rfl) rfl rfl rfl rfl rfl (List.Sublist.cons _ (List.Sublist.cons _ (List.Sublist.refl _))) (y_load (i := 0) rfl rfl one_9 rfl rfl) ?_
          refine DX.takeW 4 31 (by kernel_rfl) rfl rfl rfl rfl rfl (yw_fieldAddr rfl fld_33_11 rfl) ?_
          refine DX.step 5 63 (by kernel_rfl) rfl rfl rfl (op_store1 (i := 1) (cs' := #[.int .i64 g.kind, .int .i64 g.id, .int .i64 g.version, .int .i64 g.period, .int .i64 g.second, .int .i64 g.account, .int .i64 g.device, .int .i64 g.recording, .int .i64 g.territory, .int .i64 g.holder, .int .i64 g.role, .int .i64 f.since, .int .i64 g.till, .int .i64 g.amount, .int .i64 g.share, .int .i64 g.currency, .int .i64 g.mark, .string g.text]) rfl rfl rfl rfl szt_3 rfl rfl rfl rfl (DXs.mk (List.Sublist.cons _ (List.Sublist.cons _ (List.Sublist.refl _))) ?_))
          refine DX.takeW 6 127 (by kernel_rfl) rfl rfl rfl rfl rfl (yw_fieldAddr rfl fld_33_17 rfl) ?_
          refine DX.step 7 255 (by kernel_rfl) rfl rfl rfl (op_store1 (i := 1) (cs' := #[.int .i64 g.kind, .int .i64 g.id, .int .i64 g.version, .int .i64 g.period, .int .i64 g.second, .int .i64 g.account, .int .i64 g.device, .int .i64 g.recording, .int .i64 g.territory, .int .i64 g.holder, .int .i64 g.role, .int .i64 f.since, .int .i64 g.till, .int .i64 g.amount, .int .i64 g.share, .int .i64 g.currency, .int .i64 g.mark, .string f.text]) rfl rfl rfl rfl szt_9 rfl rfl rfl rfl (DXs.mk (List.Sublist.cons _ (List.Sublist.cons _ (List.Sublist.refl _))) ?_))
          refine DX.done (by kernel_rfl) (XX.next (V' := [(2, .pointer (some ⟨g1, 0, none⟩)), (3, .pointer (some ⟨g2, 0, none⟩)), (4, .pointer (some ⟨g3, 0, none⟩))]) ⟨rfl, rfl, rfl, trivial⟩ ?_)
          refine CX.seq ?_
          refine CX.drawL 12 ([.blk g2 (.cells (#[.int .i64 g.kind, .int .i64 g.id, .int .i64 g.version, .int .i64 g.period, .int .i64 g.second, .int .i64 g.account, .int .i64 g.device, .int .i64 g.recording, .int .i64 g.territory, .int .i64 g.holder, .int .i64 g.role, .int .i64 f.since, .int .i64 g.till, .int .i64 g.amount, .int .i64 g.share, .int .i64 g.currency, .int .i64 g.mark, .string f.text]) 33 (0, 0)), .blk g1 (.cells (Fct.cells f) 33 (0, 0))]) (by kernel_rfl) ?_
          refine DX.take 0 1 (by kernel_rfl) rfl rfl rfl rfl rfl (List.Sublist.cons _ (List.Sublist.refl _)) (y_loadA (i := 0) rfl rfl agg_33 rfl rfl) ?_
          refine DX.takeW 1 3 (by kernel_rfl) rfl rfl rfl rfl rfl (yw_fieldAddr rfl fld_33_11 rfl) ?_
          refine DX.take 2 7 (by kernel_rfl) rfl rfl rfl rfl rfl (List.Sublist.cons _ (List.Sublist.refl _)) (y_load (i := 1) rfl rfl one_3 rfl rfl) ?_
          refine DX.step 3 15 (by kernel_rfl) rfl rfl rfl (op_callV (v := .bool (within f.since 0 1199)) rfl rfl rfl rfl rfl ent_38 (fun w _ => w_refPeriod f.since) (DXs.mk (List.Sublist.cons _ (List.Sublist.refl _)) ?_))
          refine DX.takeW 4 31 (by kernel_rfl) rfl rfl rfl rfl rfl (yw_move rfl rfl) ?_
          refine DX.split (t := 119) (b := within f.since 0 1199) rfl (fun d119 => ?_) (fun d119 => ?_)
          · refine DX.takeWG 5 63 (by kernel_rfl) rfl rfl rfl rfl rfl rfl rfl rfl (yw_fieldAddr rfl fld_33_17 rfl) ?_
            refine DX.takeG 6 127 (by kernel_rfl) rfl rfl rfl rfl rfl rfl rfl rfl (List.Sublist.cons _ (List.Sublist.refl _)) (y_load (i := 1) rfl rfl one_9 rfl rfl) ?_
            refine DX.takeWG 7 255 (by kernel_rfl) rfl rfl rfl rfl rfl rfl rfl rfl (yw_lenStr rfl Tryd.underlying9 rfl) ?_
            refine DX.takeWG 8 511 (by kernel_rfl) rfl rfl rfl rfl rfl rfl rfl rfl (yw_leq rfl rfl rfl) ?_
            refine DX.takeW 9 1023 (by kernel_rfl) rfl rfl rfl rfl rfl (yw_pickT rfl rfl rfl) ?_
            refine DX.step 10 2047 (by kernel_rfl) rfl rfl rfl (op_storeAll (i := 0) rfl rfl rfl rfl szt_33 rfl (plain_of rfl) rfl rfl (DXs.mk (List.Sublist.cons _ (List.Sublist.refl _)) ?_))
            refine DX.takeW 11 4095 (by kernel_rfl) rfl rfl rfl rfl rfl (yw_assign rfl rfl) ?_
            refine DX.done (by kernel_rfl) (XX.next (V' := [(4, .pointer (some ⟨g3, 0, none⟩)), (5, .bool (decide (((ByteArray.size f.text : Nat) : Int) ≤ 2000)))]) ⟨rfl, rfl, trivial⟩ ?_)
            refine CX.ret ?_
            refine XX.block_ret ?_
            refine XX.then_ret ?_
            exact ret_cellT (i := 0) rfl rfl rfl agg_33 rfl rfl fun w1 hw => ⟨(({ kind := g.kind, id := g.id, version := g.version, period := g.period, second := g.second, account := g.account, device := g.device, recording := g.recording, territory := g.territory, holder := g.holder, role := g.role, since := f.since, till := g.till, amount := g.amount, share := g.share, currency := g.currency, mark := g.mark, text := f.text } : Fct), (decide (((ByteArray.size f.text : Nat) : Int) ≤ 2000))), trivial, rfl, hw.sub (List.nil_sublist _)⟩
          · refine DX.skip 5 63 (by kernel_rfl) rfl rfl rfl rfl rfl rfl rfl rfl ?_
            refine DX.skip 6 127 (by kernel_rfl) rfl rfl rfl rfl rfl rfl rfl rfl ?_
            refine DX.skip 7 255 (by kernel_rfl) rfl rfl rfl rfl rfl rfl rfl rfl ?_
            refine DX.skip 8 511 (by kernel_rfl) rfl rfl rfl rfl rfl rfl rfl rfl ?_
            refine DX.takeW 9 1023 (by kernel_rfl) rfl rfl rfl rfl rfl (yw_pickF rfl rfl rfl) ?_
            refine DX.step 10 2047 (by kernel_rfl) rfl rfl rfl (op_storeAll (i := 0) rfl rfl rfl rfl szt_33 rfl (plain_of rfl) rfl rfl (DXs.mk (List.Sublist.cons _ (List.Sublist.refl _)) ?_))
            refine DX.takeW 11 4095 (by kernel_rfl) rfl rfl rfl rfl rfl (yw_assign rfl rfl) ?_
            refine DX.done (by kernel_rfl) (XX.next (V' := [(4, .pointer (some ⟨g3, 0, none⟩)), (5, .bool false)]) ⟨rfl, rfl, trivial⟩ ?_)
            refine CX.ret ?_
            refine XX.block_ret ?_
            refine XX.then_ret ?_
            exact ret_cellT (i := 0) rfl rfl rfl agg_33 rfl rfl fun w1 hw => ⟨(({ kind := g.kind, id := g.id, version := g.version, period := g.period, second := g.second, account := g.account, device := g.device, recording := g.recording, territory := g.territory, holder := g.holder, role := g.role, since := f.since, till := g.till, amount := g.amount, share := g.share, currency := g.currency, mark := g.mark, text := f.text } : Fct), false), trivial, rfl, hw.sub (List.nil_sublist _)⟩
        · refine CX.seq ?_
          refine CX.region ?_
          refine RX.cons rfl rfl (op_w (yw_eql rfl rfl rfl) rfl rfl ?_)
          refine RX.cons rfl rfl (op_w (yw_assign rfl rfl) rfl rfl ?_)
          refine RX.nil (XX.next (V' := [(2, .pointer (some ⟨g1, 0, none⟩)), (3, .pointer (some ⟨g2, 0, none⟩)), (4, .pointer (some ⟨g3, 0, none⟩)), (125, .bool (decide (f.kind = 10)))]) ⟨rfl, rfl, rfl, rfl, trivial⟩ ?_)
          refine CX.condD (p := f.kind = 10) rfl (fun c125 => ?_) (fun c125 => ?_)
          · refine CX.seq ?_
            refine CX.drawL 12 ([.blk g1 (.cells (Fct.cells f) 33 (0, 0))]) (by kernel_rfl) ?_
            refine DX.takeW 0 1 (by kernel_rfl) rfl rfl rfl rfl rfl (yw_fieldAddr rfl fld_33_8 rfl) ?_
            refine DX.take 1 3 (by kernel_rfl) rfl rfl rfl rfl rfl (List.Sublist.cons _ (List.Sublist.cons _ (List.Sublist.refl _))) (y_load (i := 0) rfl rfl one_3 rfl rfl) ?_
            refine DX.takeW 2 7 (by kernel_rfl) rfl rfl rfl rfl rfl (yw_fieldAddr rfl fld_33_11 rfl) ?_
            refine DX.take 3 15 (by kernel_rfl) rfl rfl rfl rfl rfl (List.Sublist.cons _ (List.Sublist.cons _ (List.Sublist.refl _))) (y_load (i := 0) rfl rfl one_3 rfl rfl) ?_
            refine DX.takeW 4 31 (by kernel_rfl) rfl rfl rfl rfl rfl (yw_fieldAddr rfl fld_33_16 rfl) ?_
            refine DX.take 5 63 (by kernel_rfl) rfl rfl rfl rfl rfl (List.Sublist.cons _ (List.Sublist.cons _ (List.Sublist.refl _))) (y_load (i := 0) rfl rfl one_3 rfl rfl) ?_
            refine DX.takeW 6 127 (by kernel_rfl) rfl rfl rfl rfl rfl (yw_fieldAddr rfl fld_33_8 rfl) ?_
            refine DX.step 7 255 (by kernel_rfl) rfl rfl rfl (op_store1 (i := 1) (cs' := #[.int .i64 g.kind, .int .i64 g.id, .int .i64 g.version, .int .i64 g.period, .int .i64 g.second, .int .i64 g.account, .int .i64 g.device, .int .i64 g.recording, .int .i64 f.territory, .int .i64 g.holder, .int .i64 g.role, .int .i64 g.since, .int .i64 g.till, .int .i64 g.amount, .int .i64 g.share, .int .i64 g.currency, .int .i64 g.mark, .string g.text]) rfl rfl rfl rfl szt_3 rfl rfl rfl rfl (DXs.mk (List.Sublist.cons _ (List.Sublist.cons _ (List.Sublist.refl _))) ?_))
            refine DX.takeW 8 511 (by kernel_rfl) rfl rfl rfl rfl rfl (yw_fieldAddr rfl fld_33_11 rfl) ?_
            refine DX.step 9 1023 (by kernel_rfl) rfl rfl rfl (op_store1 (i := 1) (cs' := #[.int .i64 g.kind, .int .i64 g.id, .int .i64 g.version, .int .i64 g.period, .int .i64 g.second, .int .i64 g.account, .int .i64 g.device, .int .i64 g.recording, .int .i64 f.territory, .int .i64 g.holder, .int .i64 g.role, .int .i64 f.since, .int .i64 g.till, .int .i64 g.amount, .int .i64 g.share, .int .i64 g.currency, .int .i64 g.mark, .string g.text]) rfl rfl rfl rfl szt_3 rfl rfl rfl rfl (DXs.mk (List.Sublist.cons _ (List.Sublist.cons _ (List.Sublist.refl _))) ?_))
            refine DX.takeW 10 2047 (by kernel_rfl) rfl rfl rfl rfl rfl (yw_fieldAddr rfl fld_33_16 rfl) ?_
            refine DX.step 11 4095 (by kernel_rfl) rfl rfl rfl (op_store1 (i := 1) (cs' := #[.int .i64 g.kind, .int .i64 g.id, .int .i64 g.version, .int .i64 g.period, .int .i64 g.second, .int .i64 g.account, .int .i64 g.device, .int .i64 g.recording, .int .i64 f.territory, .int .i64 g.holder, .int .i64 g.role, .int .i64 f.since, .int .i64 g.till, .int .i64 g.amount, .int .i64 g.share, .int .i64 g.currency, .int .i64 f.mark, .string g.text]) rfl rfl rfl rfl szt_3 rfl rfl rfl rfl (DXs.mk (List.Sublist.cons _ (List.Sublist.cons _ (List.Sublist.refl _))) ?_))
            refine DX.done (by kernel_rfl) (XX.next (V' := [(2, .pointer (some ⟨g1, 0, none⟩)), (3, .pointer (some ⟨g2, 0, none⟩)), (4, .pointer (some ⟨g3, 0, none⟩))]) ⟨rfl, rfl, rfl, trivial⟩ ?_)
            refine CX.seq ?_
            refine CX.drawL 16 ([.blk g2 (.cells (#[.int .i64 g.kind, .int .i64 g.id, .int .i64 g.version, .int .i64 g.period, .int .i64 g.second, .int .i64 g.account, .int .i64 g.device, .int .i64 g.recording, .int .i64 f.territory, .int .i64 g.holder, .int .i64 g.role, .int .i64 f.since, .int .i64 g.till, .int .i64 g.amount, .int .i64 g.share, .int .i64 g.currency, .int .i64 f.mark, .string g.text]) 33 (0, 0)), .blk g1 (.cells (Fct.cells f) 33 (0, 0))]) (by kernel_rfl) ?_
            refine DX.take 0 1 (by kernel_rfl) rfl rfl rfl rfl rfl (List.Sublist.cons _ (List.Sublist.refl _)) (y_loadA (i := 0) rfl rfl agg_33 rfl rfl) ?_
            refine DX.takeW 1 3 (by kernel_rfl) rfl rfl rfl rfl rfl (yw_fieldAddr rfl fld_33_8 rfl) ?_
            refine DX.take 2 7 (by kernel_rfl) rfl rfl rfl rfl rfl (List.Sublist.cons _ (List.Sublist.refl _)) (y_load (i := 1) rfl rfl one_3 rfl rfl) ?_
            refine DX.step 3 15 (by kernel_rfl) rfl rfl rfl (op_callV (v := .bool (within f.territory 0 7)) rfl rfl rfl rfl rfl ent_37 (fun w _ => w_refTerritory f.territory) (DXs.mk (List.Sublist.cons _ (List.Sublist.refl _)) ?_))
            refine DX.takeW 4 31 (by kernel_rfl) rfl rfl rfl rfl rfl (yw_move rfl rfl) ?_
            refine DX.split (t := 140) (b := within f.territory 0 7) rfl (fun d140 => ?_) (fun d140 => ?_)
            · refine DX.takeWG 5 63 (by kernel_rfl) rfl rfl rfl rfl rfl rfl rfl rfl (yw_fieldAddr rfl fld_33_11 rfl) ?_
              refine DX.takeG 6 127 (by kernel_rfl) rfl rfl rfl rfl rfl rfl rfl rfl (List.Sublist.cons _ (List.Sublist.refl _)) (y_load (i := 1) rfl rfl one_3 rfl rfl) ?_
              refine DX.stepG 7 255 (by kernel_rfl) rfl rfl rfl rfl rfl rfl (op_callV (v := .bool (within f.since 0 1199)) rfl rfl rfl rfl rfl ent_38 (fun w _ => w_refPeriod f.since) (DXs.mk (List.Sublist.cons _ (List.Sublist.refl _)) ?_))
              refine DX.takeW 8 511 (by kernel_rfl) rfl rfl rfl rfl rfl (yw_pickT rfl rfl rfl) ?_
              refine DX.takeW 9 1023 (by kernel_rfl) rfl rfl rfl rfl rfl (yw_move rfl rfl) ?_
              refine DX.split (t := 145) (b := within f.since 0 1199) rfl (fun d145 => ?_) (fun d145 => ?_)
              · refine DX.takeWG 10 2047 (by kernel_rfl) rfl rfl rfl rfl rfl rfl rfl rfl (yw_fieldAddr rfl fld_33_16 rfl) ?_
                refine DX.takeG 11 4095 (by kernel_rfl) rfl rfl rfl rfl rfl rfl rfl rfl (List.Sublist.cons _ (List.Sublist.refl _)) (y_load (i := 1) rfl rfl one_3 rfl rfl) ?_
                refine DX.stepG 12 8191 (by kernel_rfl) rfl rfl rfl rfl rfl rfl (op_callV (v := .bool (within f.mark 1 2)) rfl rfl rfl rfl rfl ent_27 (fun w _ => w_within f.mark 1 2) (DXs.mk (List.Sublist.cons _ (List.Sublist.refl _)) ?_))
                refine DX.takeW 13 16383 (by kernel_rfl) rfl rfl rfl rfl rfl (yw_pickT rfl rfl rfl) ?_
                refine DX.step 14 32767 (by kernel_rfl) rfl rfl rfl (op_storeAll (i := 0) rfl rfl rfl rfl szt_33 rfl (plain_of rfl) rfl rfl (DXs.mk (List.Sublist.cons _ (List.Sublist.refl _)) ?_))
                refine DX.takeW 15 65535 (by kernel_rfl) rfl rfl rfl rfl rfl (yw_assign rfl rfl) ?_
                refine DX.done (by kernel_rfl) (XX.next (V' := [(4, .pointer (some ⟨g3, 0, none⟩)), (5, .bool (within f.mark 1 2))]) ⟨rfl, rfl, trivial⟩ ?_)
                refine CX.ret ?_
                refine XX.block_ret ?_
                refine XX.then_ret ?_
                exact ret_cellT (i := 0) rfl rfl rfl agg_33 rfl rfl fun w1 hw => ⟨(({ kind := g.kind, id := g.id, version := g.version, period := g.period, second := g.second, account := g.account, device := g.device, recording := g.recording, territory := f.territory, holder := g.holder, role := g.role, since := f.since, till := g.till, amount := g.amount, share := g.share, currency := g.currency, mark := f.mark, text := g.text } : Fct), (within f.mark 1 2)), trivial, rfl, hw.sub (List.nil_sublist _)⟩
              · refine DX.skip 10 2047 (by kernel_rfl) rfl rfl rfl rfl rfl rfl rfl rfl ?_
                refine DX.skip 11 4095 (by kernel_rfl) rfl rfl rfl rfl rfl rfl rfl rfl ?_
                refine DX.skip 12 8191 (by kernel_rfl) rfl rfl rfl rfl rfl rfl rfl rfl ?_
                refine DX.takeW 13 16383 (by kernel_rfl) rfl rfl rfl rfl rfl (yw_pickF rfl rfl rfl) ?_
                refine DX.step 14 32767 (by kernel_rfl) rfl rfl rfl (op_storeAll (i := 0) rfl rfl rfl rfl szt_33 rfl (plain_of rfl) rfl rfl (DXs.mk (List.Sublist.cons _ (List.Sublist.refl _)) ?_))
                refine DX.takeW 15 65535 (by kernel_rfl) rfl rfl rfl rfl rfl (yw_assign rfl rfl) ?_
                refine DX.done (by kernel_rfl) (XX.next (V' := [(4, .pointer (some ⟨g3, 0, none⟩)), (5, .bool false)]) ⟨rfl, rfl, trivial⟩ ?_)
                refine CX.ret ?_
                refine XX.block_ret ?_
                refine XX.then_ret ?_
                exact ret_cellT (i := 0) rfl rfl rfl agg_33 rfl rfl fun w1 hw => ⟨(({ kind := g.kind, id := g.id, version := g.version, period := g.period, second := g.second, account := g.account, device := g.device, recording := g.recording, territory := f.territory, holder := g.holder, role := g.role, since := f.since, till := g.till, amount := g.amount, share := g.share, currency := g.currency, mark := f.mark, text := g.text } : Fct), false), trivial, rfl, hw.sub (List.nil_sublist _)⟩
            · refine DX.skip 5 63 (by kernel_rfl) rfl rfl rfl rfl rfl rfl rfl rfl ?_
              refine DX.skip 6 127 (by kernel_rfl) rfl rfl rfl rfl rfl rfl rfl rfl ?_
              refine DX.skip 7 255 (by kernel_rfl) rfl rfl rfl rfl rfl rfl rfl rfl ?_
              refine DX.takeW 8 511 (by kernel_rfl) rfl rfl rfl rfl rfl (yw_pickF rfl rfl rfl) ?_
              refine DX.takeW 9 1023 (by kernel_rfl) rfl rfl rfl rfl rfl (yw_move rfl rfl) ?_
              refine DX.skip 10 2047 (by kernel_rfl) rfl rfl rfl rfl rfl rfl rfl rfl ?_
              refine DX.skip 11 4095 (by kernel_rfl) rfl rfl rfl rfl rfl rfl rfl rfl ?_
              refine DX.skip 12 8191 (by kernel_rfl) rfl rfl rfl rfl rfl rfl rfl rfl ?_
              refine DX.takeW 13 16383 (by kernel_rfl) rfl rfl rfl rfl rfl (yw_pickF rfl rfl rfl) ?_
              refine DX.step 14 32767 (by kernel_rfl) rfl rfl rfl (op_storeAll (i := 0) rfl rfl rfl rfl szt_33 rfl (plain_of rfl) rfl rfl (DXs.mk (List.Sublist.cons _ (List.Sublist.refl _)) ?_))
              refine DX.takeW 15 65535 (by kernel_rfl) rfl rfl rfl rfl rfl (yw_assign rfl rfl) ?_
              refine DX.done (by kernel_rfl) (XX.next (V' := [(4, .pointer (some ⟨g3, 0, none⟩)), (5, .bool false)]) ⟨rfl, rfl, trivial⟩ ?_)
              refine CX.ret ?_
              refine XX.block_ret ?_
              refine XX.then_ret ?_
              exact ret_cellT (i := 0) rfl rfl rfl agg_33 rfl rfl fun w1 hw => ⟨(({ kind := g.kind, id := g.id, version := g.version, period := g.period, second := g.second, account := g.account, device := g.device, recording := g.recording, territory := f.territory, holder := g.holder, role := g.role, since := f.since, till := g.till, amount := g.amount, share := g.share, currency := g.currency, mark := f.mark, text := g.text } : Fct), false), trivial, rfl, hw.sub (List.nil_sublist _)⟩
          · refine CX.skip (XX.inBlock (V' := [(3, .pointer (some ⟨g2, 0, none⟩)), (4, .pointer (some ⟨g3, 0, none⟩))]) ⟨rfl, rfl, trivial⟩ ?_)
            refine XX.next (V' := [(3, .pointer (some ⟨g2, 0, none⟩)), (4, .pointer (some ⟨g3, 0, none⟩))]) ⟨rfl, rfl, trivial⟩ ?_
            refine CX.seq ?_
            refine CX.region ?_
            refine RX.cons rfl rfl (op_yld (y_loadA (i := 1) rfl rfl agg_33 rfl rfl) rfl rfl ?_)
            refine RX.cons rfl rfl (op_storeAll (i := 0) rfl rfl rfl rfl szt_33 rfl (plain_of rfl) rfl rfl ?_)
            refine RX.cons rfl rfl (op_w (yw_assign rfl rfl) rfl rfl ?_)
            refine RX.nil (XX.next (V' := [(4, .pointer (some ⟨g3, 0, none⟩)), (5, .bool false)]) ⟨rfl, rfl, trivial⟩ ?_)
            refine CX.ret ?_
            exact ret_cellT (i := 0) rfl rfl rfl agg_33 rfl rfl fun w1 hw => ⟨(({ kind := g.kind, id := g.id, version := g.version, period := g.period, second := g.second, account := g.account, device := g.device, recording := g.recording, territory := g.territory, holder := g.holder, role := g.role, since := g.since, till := g.till, amount := g.amount, share := g.share, currency := g.currency, mark := g.mark, text := g.text } : Fct), false), trivial, rfl, hw.sub (List.nil_sublist _)⟩

set_option maxRecDepth 100000 in
theorem w_fields1 {w : World} (f : Fct) (hx : f.text.size ≤ 9223372036854775807) (hk : f.kind = 1) :
    Calls Tryd.prog 26 #[.agg (Fct.cells f)] w (fun e w' => ∃ x : Fct × Bool, (f.kind = 1 → x.1 = playOf f ∧ x.2 = playOk f) ∧ e = .returned (.tuple #[.agg (Fct.cells x.1), .bool x.2]) ∧ SL w [] w' []) := by
  refine calls_of_CX (O := []) (L := []) (args := [.agg (Fct.cells f)]) Tryd.func26 rfl (by simp [Tryd.ntmps26]) (SL.refl w) ?_
  refine CX.sub (V' := [(0, .agg (Fct.cells f))]) ⟨rfl, trivial⟩ ?_
  refine CX.seq ?_
  refine CX.region ?_
  refine RX.cons rfl rfl (op_box rfl rfl rfl rfl fun g1 => ?_)
  refine RX.cons rfl rfl (op_alloc rfl rfl rfl zero_33 fun g2 => ?_)
  refine RX.cons rfl rfl (op_w (yw_assign rfl rfl) rfl rfl ?_)
  refine RX.nil (XX.next (V' := [(1, .pointer (some ⟨g1, 0, none⟩)), (2, .pointer (some ⟨g2, 0, none⟩))]) ⟨rfl, rfl, trivial⟩ ?_)
  refine CX.seq ?_
  refine CX.region ?_
  refine RX.cons rfl rfl (op_w (yw_field0 rfl fld_33_0 rfl) rfl rfl ?_)
  refine RX.cons rfl rfl (op_yld (y_load (i := 1) rfl rfl one_3 rfl rfl) rfl rfl ?_)
  refine RX.cons rfl rfl (op_w (yw_fieldAddr rfl fld_33_2 rfl) rfl rfl ?_)
  refine RX.cons rfl rfl (op_yld (y_load (i := 1) rfl rfl one_3 rfl rfl) rfl rfl ?_)
  refine RX.cons rfl rfl (op_w (yw_build (v := .agg (#[.int .i64 f.kind, .int .i64 0, .int .i64 f.version, .int .i64 0, .int .i64 0, .int .i64 0, .int .i64 0, .int .i64 0, .int .i64 0, .int .i64 0, .int .i64 0, .int .i64 0, .int .i64 0, .int .i64 0, .int .i64 0, .int .i64 0, .int .i64 0, .string .empty])) rfl rfl (fun _ => by kernel_rfl)) rfl rfl ?_)
  refine RX.cons rfl rfl (op_alloc rfl rfl rfl zero_33 fun g3 => ?_)
  refine RX.cons rfl rfl (op_storeAll (i := 0) rfl rfl rfl rfl szt_33 rfl (plain_of rfl) rfl rfl ?_)
  refine RX.nil (XX.next (V' := [(1, .pointer (some ⟨g1, 0, none⟩)), (2, .pointer (some ⟨g2, 0, none⟩)), (4, .pointer (some ⟨g3, 0, none⟩))]) ⟨rfl, rfl, rfl, trivial⟩ ?_)
  refine CX.seq ?_
  refine CX.seq ?_
  refine CX.region ?_
  refine RX.cons rfl rfl (op_w (yw_field0 rfl fld_33_0 rfl) rfl rfl ?_)
  refine RX.cons rfl rfl (op_yld (y_load (i := 2) rfl rfl one_3 rfl rfl) rfl rfl ?_)
  refine RX.nil (XX.next (V' := [(1, .pointer (some ⟨g1, 0, none⟩)), (2, .pointer (some ⟨g2, 0, none⟩)), (4, .pointer (some ⟨g3, 0, none⟩)), (11, .int .i64 f.kind)]) ⟨rfl, rfl, rfl, rfl, trivial⟩ ?_)
  refine CX.block ?_
  refine CX.seq ?_
  refine CX.region ?_
  refine RX.cons rfl rfl (op_w (yw_eql rfl rfl rfl) rfl rfl ?_)
  refine RX.cons rfl rfl (op_w (yw_assign rfl rfl) rfl rfl ?_)
  refine RX.nil (XX.next (V' := [(1, .pointer (some ⟨g1, 0, none⟩)), (2, .pointer (some ⟨g2, 0, none⟩)), (4, .pointer (some ⟨g3, 0, none⟩)), (11, .int .i64 f.kind), (12, .bool (decide (f.kind = 1)))]) ⟨rfl, rfl, rfl, rfl, rfl, trivial⟩ ?_)
  refine CX.condD (p := f.kind = 1) rfl (fun c12 => ?_) (fun c12 => ?_)
  · refine CX.seq ?_
    refine CX.drawL 16 ([.blk g1 (.cells (Fct.cells f) 33 (0, 0))]) (by kernel_rfl) ?_
    refine DX.takeW 0 1 (by kernel_rfl) rfl rfl rfl rfl rfl (yw_fieldAddr rfl fld_33_1 rfl) ?_
    refine DX.take 1 3 (by kernel_rfl) rfl rfl rfl rfl rfl (List.Sublist.cons _ (List.Sublist.cons _ (List.Sublist.refl _))) (y_load (i := 0) rfl rfl one_3 rfl rfl) ?_
    refine DX.takeW 2 7 (by kernel_rfl) rfl rfl rfl rfl rfl (yw_fieldAddr rfl fld_33_5 rfl) ?_
    refine DX.take 3 15 (by kernel_rfl) rfl rfl rfl rfl rfl (List.Sublist.cons _ (List.Sublist.cons _ (List.Sublist.refl _))) (y_load (i := 0) rfl rfl one_3 rfl rfl) ?_
    refine DX.takeW 4 31 (by kernel_rfl) rfl rfl rfl rfl rfl (yw_fieldAddr rfl fld_33_6 rfl) ?_
    refine DX.take 5 63 (by kernel_rfl) rfl rfl rfl rfl rfl (List.Sublist.cons _ (List.Sublist.cons _ (List.Sublist.refl _))) (y_load (i := 0) rfl rfl one_3 rfl rfl) ?_
    refine DX.takeW 6 127 (by kernel_rfl) rfl rfl rfl rfl rfl (yw_fieldAddr rfl fld_33_7 rfl) ?_
    refine DX.take 7 255 (by kernel_rfl) rfl rfl rfl rfl rfl (List.Sublist.cons _ (List.Sublist.cons _ (List.Sublist.refl _))) (y_load (i := 0) rfl rfl one_3 rfl rfl) ?_
    refine DX.takeW 8 511 (by kernel_rfl) rfl rfl rfl rfl rfl (yw_fieldAddr rfl fld_33_1 rfl) ?_
    refine DX.step 9 1023 (by kernel_rfl) rfl rfl rfl (op_store1 (i := 0) (cs' := #[.int .i64 f.kind, .int .i64 f.id, .int .i64 f.version, .int .i64 0, .int .i64 0, .int .i64 0, .int .i64 0, .int .i64 0, .int .i64 0, .int .i64 0, .int .i64 0, .int .i64 0, .int .i64 0, .int .i64 0, .int .i64 0, .int .i64 0, .int .i64 0, .string .empty]) rfl rfl rfl rfl szt_3 rfl rfl rfl rfl (DXs.mk (List.Sublist.cons _ (List.Sublist.cons _ (List.Sublist.refl _))) ?_))
    refine DX.takeW 10 2047 (by kernel_rfl) rfl rfl rfl rfl rfl (yw_fieldAddr rfl fld_33_5 rfl) ?_
    refine DX.step 11 4095 (by kernel_rfl) rfl rfl rfl (op_store1 (i := 0) (cs' := #[.int .i64 f.kind, .int .i64 f.id, .int .i64 f.version, .int .i64 0, .int .i64 0, .int .i64 f.account, .int .i64 0, .int .i64 0, .int .i64 0, .int .i64 0, .int .i64 0, .int .i64 0, .int .i64 0, .int .i64 0, .int .i64 0, .int .i64 0, .int .i64 0, .string .empty]) rfl rfl rfl rfl szt_3 rfl rfl rfl rfl (DXs.mk (List.Sublist.cons _ (List.Sublist.cons _ (List.Sublist.refl _))) ?_))
    refine DX.takeW 12 8191 (by kernel_rfl) rfl rfl rfl rfl rfl (yw_fieldAddr rfl fld_33_6 rfl) ?_
    refine DX.step 13 16383 (by kernel_rfl) rfl rfl rfl (op_store1 (i := 0) (cs' := #[.int .i64 f.kind, .int .i64 f.id, .int .i64 f.version, .int .i64 0, .int .i64 0, .int .i64 f.account, .int .i64 f.device, .int .i64 0, .int .i64 0, .int .i64 0, .int .i64 0, .int .i64 0, .int .i64 0, .int .i64 0, .int .i64 0, .int .i64 0, .int .i64 0, .string .empty]) rfl rfl rfl rfl szt_3 rfl rfl rfl rfl (DXs.mk (List.Sublist.cons _ (List.Sublist.cons _ (List.Sublist.refl _))) ?_))
    refine DX.takeW 14 32767 (by kernel_rfl) rfl rfl rfl rfl rfl (yw_fieldAddr rfl fld_33_7 rfl) ?_
    refine DX.step 15 65535 (by kernel_rfl) rfl rfl rfl (op_store1 (i := 0) (cs' := #[.int .i64 f.kind, .int .i64 f.id, .int .i64 f.version, .int .i64 0, .int .i64 0, .int .i64 f.account, .int .i64 f.device, .int .i64 f.recording, .int .i64 0, .int .i64 0, .int .i64 0, .int .i64 0, .int .i64 0, .int .i64 0, .int .i64 0, .int .i64 0, .int .i64 0, .string .empty]) rfl rfl rfl rfl szt_3 rfl rfl rfl rfl (DXs.mk (List.Sublist.cons _ (List.Sublist.cons _ (List.Sublist.refl _))) ?_))
    refine DX.done (by kernel_rfl) (XX.next (V' := [(1, .pointer (some ⟨g1, 0, none⟩)), (2, .pointer (some ⟨g2, 0, none⟩)), (4, .pointer (some ⟨g3, 0, none⟩))]) ⟨rfl, rfl, rfl, trivial⟩ ?_)
    refine CX.seq ?_
    refine CX.drawL 16 ([.blk g1 (.cells (Fct.cells f) 33 (0, 0))]) (by kernel_rfl) ?_
    refine DX.takeW 0 1 (by kernel_rfl) rfl rfl rfl rfl rfl (yw_fieldAddr rfl fld_33_8 rfl) ?_
    refine DX.take 1 3 (by kernel_rfl) rfl rfl rfl rfl rfl (List.Sublist.cons _ (List.Sublist.cons _ (List.Sublist.refl _))) (y_load (i := 0) rfl rfl one_3 rfl rfl) ?_
    refine DX.takeW 2 7 (by kernel_rfl) rfl rfl rfl rfl rfl (yw_fieldAddr rfl fld_33_4 rfl) ?_
    refine DX.take 3 15 (by kernel_rfl) rfl rfl rfl rfl rfl (List.Sublist.cons _ (List.Sublist.cons _ (List.Sublist.refl _))) (y_load (i := 0) rfl rfl one_3 rfl rfl) ?_
    refine DX.takeW 4 31 (by kernel_rfl) rfl rfl rfl rfl rfl (yw_fieldAddr rfl fld_33_13 rfl) ?_
    refine DX.take 5 63 (by kernel_rfl) rfl rfl rfl rfl rfl (List.Sublist.cons _ (List.Sublist.cons _ (List.Sublist.refl _))) (y_load (i := 0) rfl rfl one_3 rfl rfl) ?_
    refine DX.takeW 6 127 (by kernel_rfl) rfl rfl rfl rfl rfl (yw_fieldAddr rfl fld_33_16 rfl) ?_
    refine DX.take 7 255 (by kernel_rfl) rfl rfl rfl rfl rfl (List.Sublist.cons _ (List.Sublist.cons _ (List.Sublist.refl _))) (y_load (i := 0) rfl rfl one_3 rfl rfl) ?_
    refine DX.takeW 8 511 (by kernel_rfl) rfl rfl rfl rfl rfl (yw_fieldAddr rfl fld_33_8 rfl) ?_
    refine DX.step 9 1023 (by kernel_rfl) rfl rfl rfl (op_store1 (i := 0) (cs' := #[.int .i64 f.kind, .int .i64 f.id, .int .i64 f.version, .int .i64 0, .int .i64 0, .int .i64 f.account, .int .i64 f.device, .int .i64 f.recording, .int .i64 f.territory, .int .i64 0, .int .i64 0, .int .i64 0, .int .i64 0, .int .i64 0, .int .i64 0, .int .i64 0, .int .i64 0, .string .empty]) rfl rfl rfl rfl szt_3 rfl rfl rfl rfl (DXs.mk (List.Sublist.cons _ (List.Sublist.cons _ (List.Sublist.refl _))) ?_))
    refine DX.takeW 10 2047 (by kernel_rfl) rfl rfl rfl rfl rfl (yw_fieldAddr rfl fld_33_4 rfl) ?_
    refine DX.step 11 4095 (by kernel_rfl) rfl rfl rfl (op_store1 (i := 0) (cs' := #[.int .i64 f.kind, .int .i64 f.id, .int .i64 f.version, .int .i64 0, .int .i64 f.second, .int .i64 f.account, .int .i64 f.device, .int .i64 f.recording, .int .i64 f.territory, .int .i64 0, .int .i64 0, .int .i64 0, .int .i64 0, .int .i64 0, .int .i64 0, .int .i64 0, .int .i64 0, .string .empty]) rfl rfl rfl rfl szt_3 rfl rfl rfl rfl (DXs.mk (List.Sublist.cons _ (List.Sublist.cons _ (List.Sublist.refl _))) ?_))
    refine DX.takeW 12 8191 (by kernel_rfl) rfl rfl rfl rfl rfl (yw_fieldAddr rfl fld_33_13 rfl) ?_
    refine DX.step 13 16383 (by kernel_rfl) rfl rfl rfl (op_store1 (i := 0) (cs' := #[.int .i64 f.kind, .int .i64 f.id, .int .i64 f.version, .int .i64 0, .int .i64 f.second, .int .i64 f.account, .int .i64 f.device, .int .i64 f.recording, .int .i64 f.territory, .int .i64 0, .int .i64 0, .int .i64 0, .int .i64 0, .int .i64 f.amount, .int .i64 0, .int .i64 0, .int .i64 0, .string .empty]) rfl rfl rfl rfl szt_3 rfl rfl rfl rfl (DXs.mk (List.Sublist.cons _ (List.Sublist.cons _ (List.Sublist.refl _))) ?_))
    refine DX.takeW 14 32767 (by kernel_rfl) rfl rfl rfl rfl rfl (yw_fieldAddr rfl fld_33_16 rfl) ?_
    refine DX.step 15 65535 (by kernel_rfl) rfl rfl rfl (op_store1 (i := 0) (cs' := #[.int .i64 f.kind, .int .i64 f.id, .int .i64 f.version, .int .i64 0, .int .i64 f.second, .int .i64 f.account, .int .i64 f.device, .int .i64 f.recording, .int .i64 f.territory, .int .i64 0, .int .i64 0, .int .i64 0, .int .i64 0, .int .i64 f.amount, .int .i64 0, .int .i64 0, .int .i64 f.mark, .string .empty]) rfl rfl rfl rfl szt_3 rfl rfl rfl rfl (DXs.mk (List.Sublist.cons _ (List.Sublist.cons _ (List.Sublist.refl _))) ?_))
    refine DX.done (by kernel_rfl) (XX.next (V' := [(1, .pointer (some ⟨g1, 0, none⟩)), (2, .pointer (some ⟨g2, 0, none⟩)), (4, .pointer (some ⟨g3, 0, none⟩))]) ⟨rfl, rfl, rfl, trivial⟩ ?_)
    refine CX.seq ?_
    refine CX.drawL 41 ([.blk g3 (.cells (#[.int .i64 f.kind, .int .i64 f.id, .int .i64 f.version, .int .i64 0, .int .i64 f.second, .int .i64 f.account, .int .i64 f.device, .int .i64 f.recording, .int .i64 f.territory, .int .i64 0, .int .i64 0, .int .i64 0, .int .i64 0, .int .i64 f.amount, .int .i64 0, .int .i64 0, .int .i64 f.mark, .string .empty]) 33 (0, 0)), .blk g1 (.cells (Fct.cells f) 33 (0, 0))]) (by kernel_rfl) ?_
    refine DX.take 0 1 (by kernel_rfl) rfl rfl rfl rfl rfl (List.Sublist.cons_cons _ (List.Sublist.cons _ (List.Sublist.refl _))) (y_loadA (i := 0) rfl rfl agg_33 rfl rfl) ?_
    refine DX.takeW 1 3 (by kernel_rfl) rfl rfl rfl rfl rfl (yw_fieldAddr rfl fld_33_1 rfl) ?_
    refine DX.take 2 7 (by kernel_rfl) rfl rfl rfl rfl rfl (List.Sublist.cons_cons _ (List.Sublist.cons _ (List.Sublist.refl _))) (y_load (i := 1) rfl rfl one_3 rfl rfl) ?_
    refine DX.step 3 15 (by kernel_rfl) rfl rfl rfl (op_callV (v := .bool (within f.id 1 1000000)) rfl rfl rfl rfl rfl ent_36 (fun w _ => w_refId f.id) (DXs.mk (List.Sublist.cons_cons _ (List.Sublist.cons _ (List.Sublist.refl _))) ?_))
    refine DX.takeW 4 31 (by kernel_rfl) rfl rfl rfl rfl rfl (yw_move rfl rfl) ?_
    refine DX.split (t := 42) (b := within f.id 1 1000000) rfl (fun d42 => ?_) (fun d42 => ?_)
    · refine DX.takeWG 5 63 (by kernel_rfl) rfl rfl rfl rfl rfl rfl rfl rfl (yw_fieldAddr rfl fld_33_5 rfl) ?_
      refine DX.takeG 6 127 (by kernel_rfl) rfl rfl rfl rfl rfl rfl rfl rfl (List.Sublist.cons_cons _ (List.Sublist.cons _ (List.Sublist.refl _))) (y_load (i := 1) rfl rfl one_3 rfl rfl) ?_
      refine DX.stepG 7 255 (by kernel_rfl) rfl rfl rfl rfl rfl rfl (op_callV (v := .bool (within f.account 1 1000000)) rfl rfl rfl rfl rfl ent_36 (fun w _ => w_refId f.account) (DXs.mk (List.Sublist.cons_cons _ (List.Sublist.cons _ (List.Sublist.refl _))) ?_))
      refine DX.takeW 8 511 (by kernel_rfl) rfl rfl rfl rfl rfl (yw_pickT rfl rfl rfl) ?_
      refine DX.takeW 9 1023 (by kernel_rfl) rfl rfl rfl rfl rfl (yw_move rfl rfl) ?_
      refine DX.split (t := 47) (b := within f.account 1 1000000) rfl (fun d47 => ?_) (fun d47 => ?_)
      · refine DX.takeWG 10 2047 (by kernel_rfl) rfl rfl rfl rfl rfl rfl rfl rfl (yw_fieldAddr rfl fld_33_6 rfl) ?_
        refine DX.takeG 11 4095 (by kernel_rfl) rfl rfl rfl rfl rfl rfl rfl rfl (List.Sublist.cons_cons _ (List.Sublist.cons _ (List.Sublist.refl _))) (y_load (i := 1) rfl rfl one_3 rfl rfl) ?_
        refine DX.stepG 12 8191 (by kernel_rfl) rfl rfl rfl rfl rfl rfl (op_callV (v := .bool (within f.device 1 1000000)) rfl rfl rfl rfl rfl ent_36 (fun w _ => w_refId f.device) (DXs.mk (List.Sublist.cons_cons _ (List.Sublist.cons _ (List.Sublist.refl _))) ?_))
        refine DX.takeW 13 16383 (by kernel_rfl) rfl rfl rfl rfl rfl (yw_pickT rfl rfl rfl) ?_
        refine DX.takeW 14 32767 (by kernel_rfl) rfl rfl rfl rfl rfl (yw_move rfl rfl) ?_
        refine DX.split (t := 52) (b := within f.device 1 1000000) rfl (fun d52 => ?_) (fun d52 => ?_)
        · refine DX.takeWG 15 65535 (by kernel_rfl) rfl rfl rfl rfl rfl rfl rfl rfl (yw_fieldAddr rfl fld_33_7 rfl) ?_
          refine DX.takeG 16 131071 (by kernel_rfl) rfl rfl rfl rfl rfl rfl rfl rfl (List.Sublist.cons_cons _ (List.Sublist.cons _ (List.Sublist.refl _))) (y_load (i := 1) rfl rfl one_3 rfl rfl) ?_
          refine DX.stepG 17 262143 (by kernel_rfl) rfl rfl rfl rfl rfl rfl (op_callV (v := .bool (within f.recording 1 1000000)) rfl rfl rfl rfl rfl ent_36 (fun w _ => w_refId f.recording) (DXs.mk (List.Sublist.cons_cons _ (List.Sublist.cons _ (List.Sublist.refl _))) ?_))
          refine DX.takeW 18 524287 (by kernel_rfl) rfl rfl rfl rfl rfl (yw_pickT rfl rfl rfl) ?_
          refine DX.takeW 19 1048575 (by kernel_rfl) rfl rfl rfl rfl rfl (yw_move rfl rfl) ?_
          refine DX.split (t := 57) (b := within f.recording 1 1000000) rfl (fun d57 => ?_) (fun d57 => ?_)
          · refine DX.takeWG 20 2097151 (by kernel_rfl) rfl rfl rfl rfl rfl rfl rfl rfl (yw_fieldAddr rfl fld_33_8 rfl) ?_
            refine DX.takeG 21 4194303 (by kernel_rfl) rfl rfl rfl rfl rfl rfl rfl rfl (List.Sublist.cons_cons _ (List.Sublist.cons _ (List.Sublist.refl _))) (y_load (i := 1) rfl rfl one_3 rfl rfl) ?_
            refine DX.stepG 22 8388607 (by kernel_rfl) rfl rfl rfl rfl rfl rfl (op_callV (v := .bool (within f.territory 0 7)) rfl rfl rfl rfl rfl ent_37 (fun w _ => w_refTerritory f.territory) (DXs.mk (List.Sublist.cons_cons _ (List.Sublist.cons _ (List.Sublist.refl _))) ?_))
            refine DX.takeW 23 16777215 (by kernel_rfl) rfl rfl rfl rfl rfl (yw_pickT rfl rfl rfl) ?_
            refine DX.takeW 24 33554431 (by kernel_rfl) rfl rfl rfl rfl rfl (yw_move rfl rfl) ?_
            refine DX.split (t := 62) (b := within f.territory 0 7) rfl (fun d62 => ?_) (fun d62 => ?_)
            · refine DX.takeWG 25 67108863 (by kernel_rfl) rfl rfl rfl rfl rfl rfl rfl rfl (yw_fieldAddr rfl fld_33_4 rfl) ?_
              refine DX.takeG 26 134217727 (by kernel_rfl) rfl rfl rfl rfl rfl rfl rfl rfl (List.Sublist.cons_cons _ (List.Sublist.cons _ (List.Sublist.refl _))) (y_load (i := 1) rfl rfl one_3 rfl rfl) ?_
              refine DX.stepG 27 268435455 (by kernel_rfl) rfl rfl rfl rfl rfl rfl (op_callV (v := .bool (within f.second 0 3155759999)) rfl rfl rfl rfl rfl ent_27 (fun w _ => w_within f.second 0 3155759999) (DXs.mk (List.Sublist.cons_cons _ (List.Sublist.cons _ (List.Sublist.refl _))) ?_))
              refine DX.takeW 28 536870911 (by kernel_rfl) rfl rfl rfl rfl rfl (yw_pickT rfl rfl rfl) ?_
              refine DX.takeW 29 1073741823 (by kernel_rfl) rfl rfl rfl rfl rfl (yw_move rfl rfl) ?_
              refine DX.split (t := 67) (b := within f.second 0 3155759999) rfl (fun d67 => ?_) (fun d67 => ?_)
              · refine DX.takeWG 30 2147483647 (by kernel_rfl) rfl rfl rfl rfl rfl rfl rfl rfl (yw_fieldAddr rfl fld_33_13 rfl) ?_
                refine DX.takeG 31 4294967295 (by kernel_rfl) rfl rfl rfl rfl rfl rfl rfl rfl (List.Sublist.cons_cons _ (List.Sublist.cons _ (List.Sublist.refl _))) (y_load (i := 1) rfl rfl one_3 rfl rfl) ?_
                refine DX.stepG 32 8589934591 (by kernel_rfl) rfl rfl rfl rfl rfl rfl (op_callV (v := .bool (within f.amount 0 86400000)) rfl rfl rfl rfl rfl ent_27 (fun w _ => w_within f.amount 0 86400000) (DXs.mk (List.Sublist.cons_cons _ (List.Sublist.cons _ (List.Sublist.refl _))) ?_))
                refine DX.takeW 33 17179869183 (by kernel_rfl) rfl rfl rfl rfl rfl (yw_pickT rfl rfl rfl) ?_
                refine DX.takeW 34 34359738367 (by kernel_rfl) rfl rfl rfl rfl rfl (yw_move rfl rfl) ?_
                refine DX.split (t := 72) (b := within f.amount 0 86400000) rfl (fun d72 => ?_) (fun d72 => ?_)
                · refine DX.takeWG 35 68719476735 (by kernel_rfl) rfl rfl rfl rfl rfl rfl rfl rfl (yw_fieldAddr rfl fld_33_16 rfl) ?_
                  refine DX.takeG 36 137438953471 (by kernel_rfl) rfl rfl rfl rfl rfl rfl rfl rfl (List.Sublist.cons_cons _ (List.Sublist.cons _ (List.Sublist.refl _))) (y_load (i := 1) rfl rfl one_3 rfl rfl) ?_
                  refine DX.stepG 37 274877906943 (by kernel_rfl) rfl rfl rfl rfl rfl rfl (op_callV (v := .bool (within f.mark 0 1)) rfl rfl rfl rfl rfl ent_27 (fun w _ => w_within f.mark 0 1) (DXs.mk (List.Sublist.cons_cons _ (List.Sublist.cons _ (List.Sublist.refl _))) ?_))
                  refine DX.takeW 38 549755813887 (by kernel_rfl) rfl rfl rfl rfl rfl (yw_pickT rfl rfl rfl) ?_
                  refine DX.step 39 1099511627775 (by kernel_rfl) rfl rfl rfl (op_storeAll (i := 1) rfl rfl rfl rfl szt_33 rfl (plain_of rfl) rfl rfl (DXs.mk (List.Sublist.cons_cons _ (List.Sublist.cons _ (List.Sublist.refl _))) ?_))
                  refine DX.takeW 40 2199023255551 (by kernel_rfl) rfl rfl rfl rfl rfl (yw_assign rfl rfl) ?_
                  refine DX.done (by kernel_rfl) (XX.next (V' := [(2, .pointer (some ⟨g2, 0, none⟩)), (3, .bool (within f.mark 0 1))]) ⟨rfl, rfl, trivial⟩ ?_)
                  refine CX.ret ?_
                  refine XX.block_ret ?_
                  refine XX.then_ret ?_
                  exact ret_cellT (i := 1) rfl rfl rfl agg_33 rfl rfl fun w1 hw => ⟨(({ kind := f.kind, id := f.id, version := f.version, period := 0, second := f.second, account := f.account, device := f.device, recording := f.recording, territory := f.territory, holder := 0, role := 0, since := 0, till := 0, amount := f.amount, share := 0, currency := 0, mark := f.mark, text := .empty } : Fct), (within f.mark 0 1)), fun _ => ⟨rfl, by simp [playOk, d42, d47, d52, d57, d62, d67, d72]⟩, rfl, hw.sub (List.nil_sublist _)⟩
                · refine DX.skip 35 68719476735 (by kernel_rfl) rfl rfl rfl rfl rfl rfl rfl rfl ?_
                  refine DX.skip 36 137438953471 (by kernel_rfl) rfl rfl rfl rfl rfl rfl rfl rfl ?_
                  refine DX.skip 37 274877906943 (by kernel_rfl) rfl rfl rfl rfl rfl rfl rfl rfl ?_
                  refine DX.takeW 38 549755813887 (by kernel_rfl) rfl rfl rfl rfl rfl (yw_pickF rfl rfl rfl) ?_
                  refine DX.step 39 1099511627775 (by kernel_rfl) rfl rfl rfl (op_storeAll (i := 1) rfl rfl rfl rfl szt_33 rfl (plain_of rfl) rfl rfl (DXs.mk (List.Sublist.cons_cons _ (List.Sublist.cons _ (List.Sublist.refl _))) ?_))
                  refine DX.takeW 40 2199023255551 (by kernel_rfl) rfl rfl rfl rfl rfl (yw_assign rfl rfl) ?_
                  refine DX.done (by kernel_rfl) (XX.next (V' := [(2, .pointer (some ⟨g2, 0, none⟩)), (3, .bool false)]) ⟨rfl, rfl, trivial⟩ ?_)
                  refine CX.ret ?_
                  refine XX.block_ret ?_
                  refine XX.then_ret ?_
                  exact ret_cellT (i := 1) rfl rfl rfl agg_33 rfl rfl fun w1 hw => ⟨(({ kind := f.kind, id := f.id, version := f.version, period := 0, second := f.second, account := f.account, device := f.device, recording := f.recording, territory := f.territory, holder := 0, role := 0, since := 0, till := 0, amount := f.amount, share := 0, currency := 0, mark := f.mark, text := .empty } : Fct), false), fun _ => ⟨rfl, by simp [playOk, d42, d47, d52, d57, d62, d67, d72]⟩, rfl, hw.sub (List.nil_sublist _)⟩
              · refine DX.skip 30 2147483647 (by kernel_rfl) rfl rfl rfl rfl rfl rfl rfl rfl ?_
                refine DX.skip 31 4294967295 (by kernel_rfl) rfl rfl rfl rfl rfl rfl rfl rfl ?_
                refine DX.skip 32 8589934591 (by kernel_rfl) rfl rfl rfl rfl rfl rfl rfl rfl ?_
                refine DX.takeW 33 17179869183 (by kernel_rfl) rfl rfl rfl rfl rfl (yw_pickF rfl rfl rfl) ?_
                refine DX.takeW 34 34359738367 (by kernel_rfl) rfl rfl rfl rfl rfl (yw_move rfl rfl) ?_
                refine DX.skip 35 68719476735 (by kernel_rfl) rfl rfl rfl rfl rfl rfl rfl rfl ?_
                refine DX.skip 36 137438953471 (by kernel_rfl) rfl rfl rfl rfl rfl rfl rfl rfl ?_
                refine DX.skip 37 274877906943 (by kernel_rfl) rfl rfl rfl rfl rfl rfl rfl rfl ?_
                refine DX.takeW 38 549755813887 (by kernel_rfl) rfl rfl rfl rfl rfl (yw_pickF rfl rfl rfl) ?_
                refine DX.step 39 1099511627775 (by kernel_rfl) rfl rfl rfl (op_storeAll (i := 1) rfl rfl rfl rfl szt_33 rfl (plain_of rfl) rfl rfl (DXs.mk (List.Sublist.cons_cons _ (List.Sublist.cons _ (List.Sublist.refl _))) ?_))
                refine DX.takeW 40 2199023255551 (by kernel_rfl) rfl rfl rfl rfl rfl (yw_assign rfl rfl) ?_
                refine DX.done (by kernel_rfl) (XX.next (V' := [(2, .pointer (some ⟨g2, 0, none⟩)), (3, .bool false)]) ⟨rfl, rfl, trivial⟩ ?_)
                refine CX.ret ?_
                refine XX.block_ret ?_
                refine XX.then_ret ?_
                exact ret_cellT (i := 1) rfl rfl rfl agg_33 rfl rfl fun w1 hw => ⟨(({ kind := f.kind, id := f.id, version := f.version, period := 0, second := f.second, account := f.account, device := f.device, recording := f.recording, territory := f.territory, holder := 0, role := 0, since := 0, till := 0, amount := f.amount, share := 0, currency := 0, mark := f.mark, text := .empty } : Fct), false), fun _ => ⟨rfl, by simp [playOk, d42, d47, d52, d57, d62, d67]⟩, rfl, hw.sub (List.nil_sublist _)⟩
            · refine DX.skip 25 67108863 (by kernel_rfl) rfl rfl rfl rfl rfl rfl rfl rfl ?_
              refine DX.skip 26 134217727 (by kernel_rfl) rfl rfl rfl rfl rfl rfl rfl rfl ?_
              refine DX.skip 27 268435455 (by kernel_rfl) rfl rfl rfl rfl rfl rfl rfl rfl ?_
              refine DX.takeW 28 536870911 (by kernel_rfl) rfl rfl rfl rfl rfl (yw_pickF rfl rfl rfl) ?_
              refine DX.takeW 29 1073741823 (by kernel_rfl) rfl rfl rfl rfl rfl (yw_move rfl rfl) ?_
              refine DX.skip 30 2147483647 (by kernel_rfl) rfl rfl rfl rfl rfl rfl rfl rfl ?_
              refine DX.skip 31 4294967295 (by kernel_rfl) rfl rfl rfl rfl rfl rfl rfl rfl ?_
              refine DX.skip 32 8589934591 (by kernel_rfl) rfl rfl rfl rfl rfl rfl rfl rfl ?_
              refine DX.takeW 33 17179869183 (by kernel_rfl) rfl rfl rfl rfl rfl (yw_pickF rfl rfl rfl) ?_
              refine DX.takeW 34 34359738367 (by kernel_rfl) rfl rfl rfl rfl rfl (yw_move rfl rfl) ?_
              refine DX.skip 35 68719476735 (by kernel_rfl) rfl rfl rfl rfl rfl rfl rfl rfl ?_
              refine DX.skip 36 137438953471 (by kernel_rfl) rfl rfl rfl rfl rfl rfl rfl rfl ?_
              refine DX.skip 37 274877906943 (by kernel_rfl) rfl rfl rfl rfl rfl rfl rfl rfl ?_
              refine DX.takeW 38 549755813887 (by kernel_rfl) rfl rfl rfl rfl rfl (yw_pickF rfl rfl rfl) ?_
              refine DX.step 39 1099511627775 (by kernel_rfl) rfl rfl rfl (op_storeAll (i := 1) rfl rfl rfl rfl szt_33 rfl (plain_of rfl) rfl rfl (DXs.mk (List.Sublist.cons_cons _ (List.Sublist.cons _ (List.Sublist.refl _))) ?_))
              refine DX.takeW 40 2199023255551 (by kernel_rfl) rfl rfl rfl rfl rfl (yw_assign rfl rfl) ?_
              refine DX.done (by kernel_rfl) (XX.next (V' := [(2, .pointer (some ⟨g2, 0, none⟩)), (3, .bool false)]) ⟨rfl, rfl, trivial⟩ ?_)
              refine CX.ret ?_
              refine XX.block_ret ?_
              refine XX.then_ret ?_
              exact ret_cellT (i := 1) rfl rfl rfl agg_33 rfl rfl fun w1 hw => ⟨(({ kind := f.kind, id := f.id, version := f.version, period := 0, second := f.second, account := f.account, device := f.device, recording := f.recording, territory := f.territory, holder := 0, role := 0, since := 0, till := 0, amount := f.amount, share := 0, currency := 0, mark := f.mark, text := .empty } : Fct), false), fun _ => ⟨rfl, by simp [playOk, d42, d47, d52, d57, d62]⟩, rfl, hw.sub (List.nil_sublist _)⟩
          · refine DX.skip 20 2097151 (by kernel_rfl) rfl rfl rfl rfl rfl rfl rfl rfl ?_
            refine DX.skip 21 4194303 (by kernel_rfl) rfl rfl rfl rfl rfl rfl rfl rfl ?_
            refine DX.skip 22 8388607 (by kernel_rfl) rfl rfl rfl rfl rfl rfl rfl rfl ?_
            refine DX.takeW 23 16777215 (by kernel_rfl) rfl rfl rfl rfl rfl (yw_pickF rfl rfl rfl) ?_
            refine DX.takeW 24 33554431 (by kernel_rfl) rfl rfl rfl rfl rfl (yw_move rfl rfl) ?_
            refine DX.skip 25 67108863 (by kernel_rfl) rfl rfl rfl rfl rfl rfl rfl rfl ?_
            refine DX.skip 26 134217727 (by kernel_rfl) rfl rfl rfl rfl rfl rfl rfl rfl ?_
            refine DX.skip 27 268435455 (by kernel_rfl) rfl rfl rfl rfl rfl rfl rfl rfl ?_
            refine DX.takeW 28 536870911 (by kernel_rfl) rfl rfl rfl rfl rfl (yw_pickF rfl rfl rfl) ?_
            refine DX.takeW 29 1073741823 (by kernel_rfl) rfl rfl rfl rfl rfl (yw_move rfl rfl) ?_
            refine DX.skip 30 2147483647 (by kernel_rfl) rfl rfl rfl rfl rfl rfl rfl rfl ?_
            refine DX.skip 31 4294967295 (by kernel_rfl) rfl rfl rfl rfl rfl rfl rfl rfl ?_
            refine DX.skip 32 8589934591 (by kernel_rfl) rfl rfl rfl rfl rfl rfl rfl rfl ?_
            refine DX.takeW 33 17179869183 (by kernel_rfl) rfl rfl rfl rfl rfl (yw_pickF rfl rfl rfl) ?_
            refine DX.takeW 34 34359738367 (by kernel_rfl) rfl rfl rfl rfl rfl (yw_move rfl rfl) ?_
            refine DX.skip 35 68719476735 (by kernel_rfl) rfl rfl rfl rfl rfl rfl rfl rfl ?_
            refine DX.skip 36 137438953471 (by kernel_rfl) rfl rfl rfl rfl rfl rfl rfl rfl ?_
            refine DX.skip 37 274877906943 (by kernel_rfl) rfl rfl rfl rfl rfl rfl rfl rfl ?_
            refine DX.takeW 38 549755813887 (by kernel_rfl) rfl rfl rfl rfl rfl (yw_pickF rfl rfl rfl) ?_
            refine DX.step 39 1099511627775 (by kernel_rfl) rfl rfl rfl (op_storeAll (i := 1) rfl rfl rfl rfl szt_33 rfl (plain_of rfl) rfl rfl (DXs.mk (List.Sublist.cons_cons _ (List.Sublist.cons _ (List.Sublist.refl _))) ?_))
            refine DX.takeW 40 2199023255551 (by kernel_rfl) rfl rfl rfl rfl rfl (yw_assign rfl rfl) ?_
            refine DX.done (by kernel_rfl) (XX.next (V' := [(2, .pointer (some ⟨g2, 0, none⟩)), (3, .bool false)]) ⟨rfl, rfl, trivial⟩ ?_)
            refine CX.ret ?_
            refine XX.block_ret ?_
            refine XX.then_ret ?_
            exact ret_cellT (i := 1) rfl rfl rfl agg_33 rfl rfl fun w1 hw => ⟨(({ kind := f.kind, id := f.id, version := f.version, period := 0, second := f.second, account := f.account, device := f.device, recording := f.recording, territory := f.territory, holder := 0, role := 0, since := 0, till := 0, amount := f.amount, share := 0, currency := 0, mark := f.mark, text := .empty } : Fct), false), fun _ => ⟨rfl, by simp [playOk, d42, d47, d52, d57]⟩, rfl, hw.sub (List.nil_sublist _)⟩
        · refine DX.skip 15 65535 (by kernel_rfl) rfl rfl rfl rfl rfl rfl rfl rfl ?_
          refine DX.skip 16 131071 (by kernel_rfl) rfl rfl rfl rfl rfl rfl rfl rfl ?_
          refine DX.skip 17 262143 (by kernel_rfl) rfl rfl rfl rfl rfl rfl rfl rfl ?_
          refine DX.takeW 18 524287 (by kernel_rfl) rfl rfl rfl rfl rfl (yw_pickF rfl rfl rfl) ?_
          refine DX.takeW 19 1048575 (by kernel_rfl) rfl rfl rfl rfl rfl (yw_move rfl rfl) ?_
          refine DX.skip 20 2097151 (by kernel_rfl) rfl rfl rfl rfl rfl rfl rfl rfl ?_
          refine DX.skip 21 4194303 (by kernel_rfl) rfl rfl rfl rfl rfl rfl rfl rfl ?_
          refine DX.skip 22 8388607 (by kernel_rfl) rfl rfl rfl rfl rfl rfl rfl rfl ?_
          refine DX.takeW 23 16777215 (by kernel_rfl) rfl rfl rfl rfl rfl (yw_pickF rfl rfl rfl) ?_
          refine DX.takeW 24 33554431 (by kernel_rfl) rfl rfl rfl rfl rfl (yw_move rfl rfl) ?_
          refine DX.skip 25 67108863 (by kernel_rfl) rfl rfl rfl rfl rfl rfl rfl rfl ?_
          refine DX.skip 26 134217727 (by kernel_rfl) rfl rfl rfl rfl rfl rfl rfl rfl ?_
          refine DX.skip 27 268435455 (by kernel_rfl) rfl rfl rfl rfl rfl rfl rfl rfl ?_
          refine DX.takeW 28 536870911 (by kernel_rfl) rfl rfl rfl rfl rfl (yw_pickF rfl rfl rfl) ?_
          refine DX.takeW 29 1073741823 (by kernel_rfl) rfl rfl rfl rfl rfl (yw_move rfl rfl) ?_
          refine DX.skip 30 2147483647 (by kernel_rfl) rfl rfl rfl rfl rfl rfl rfl rfl ?_
          refine DX.skip 31 4294967295 (by kernel_rfl) rfl rfl rfl rfl rfl rfl rfl rfl ?_
          refine DX.skip 32 8589934591 (by kernel_rfl) rfl rfl rfl rfl rfl rfl rfl rfl ?_
          refine DX.takeW 33 17179869183 (by kernel_rfl) rfl rfl rfl rfl rfl (yw_pickF rfl rfl rfl) ?_
          refine DX.takeW 34 34359738367 (by kernel_rfl) rfl rfl rfl rfl rfl (yw_move rfl rfl) ?_
          refine DX.skip 35 68719476735 (by kernel_rfl) rfl rfl rfl rfl rfl rfl rfl rfl ?_
          refine DX.skip 36 137438953471 (by kernel_rfl) rfl rfl rfl rfl rfl rfl rfl rfl ?_
          refine DX.skip 37 274877906943 (by kernel_rfl) rfl rfl rfl rfl rfl rfl rfl rfl ?_
          refine DX.takeW 38 549755813887 (by kernel_rfl) rfl rfl rfl rfl rfl (yw_pickF rfl rfl rfl) ?_
          refine DX.step 39 1099511627775 (by kernel_rfl) rfl rfl rfl (op_storeAll (i := 1) rfl rfl rfl rfl szt_33 rfl (plain_of rfl) rfl rfl (DXs.mk (List.Sublist.cons_cons _ (List.Sublist.cons _ (List.Sublist.refl _))) ?_))
          refine DX.takeW 40 2199023255551 (by kernel_rfl) rfl rfl rfl rfl rfl (yw_assign rfl rfl) ?_
          refine DX.done (by kernel_rfl) (XX.next (V' := [(2, .pointer (some ⟨g2, 0, none⟩)), (3, .bool false)]) ⟨rfl, rfl, trivial⟩ ?_)
          refine CX.ret ?_
          refine XX.block_ret ?_
          refine XX.then_ret ?_
          exact ret_cellT (i := 1) rfl rfl rfl agg_33 rfl rfl fun w1 hw => ⟨(({ kind := f.kind, id := f.id, version := f.version, period := 0, second := f.second, account := f.account, device := f.device, recording := f.recording, territory := f.territory, holder := 0, role := 0, since := 0, till := 0, amount := f.amount, share := 0, currency := 0, mark := f.mark, text := .empty } : Fct), false), fun _ => ⟨rfl, by simp [playOk, d42, d47, d52]⟩, rfl, hw.sub (List.nil_sublist _)⟩
      · refine DX.skip 10 2047 (by kernel_rfl) rfl rfl rfl rfl rfl rfl rfl rfl ?_
        refine DX.skip 11 4095 (by kernel_rfl) rfl rfl rfl rfl rfl rfl rfl rfl ?_
        refine DX.skip 12 8191 (by kernel_rfl) rfl rfl rfl rfl rfl rfl rfl rfl ?_
        refine DX.takeW 13 16383 (by kernel_rfl) rfl rfl rfl rfl rfl (yw_pickF rfl rfl rfl) ?_
        refine DX.takeW 14 32767 (by kernel_rfl) rfl rfl rfl rfl rfl (yw_move rfl rfl) ?_
        refine DX.skip 15 65535 (by kernel_rfl) rfl rfl rfl rfl rfl rfl rfl rfl ?_
        refine DX.skip 16 131071 (by kernel_rfl) rfl rfl rfl rfl rfl rfl rfl rfl ?_
        refine DX.skip 17 262143 (by kernel_rfl) rfl rfl rfl rfl rfl rfl rfl rfl ?_
        refine DX.takeW 18 524287 (by kernel_rfl) rfl rfl rfl rfl rfl (yw_pickF rfl rfl rfl) ?_
        refine DX.takeW 19 1048575 (by kernel_rfl) rfl rfl rfl rfl rfl (yw_move rfl rfl) ?_
        refine DX.skip 20 2097151 (by kernel_rfl) rfl rfl rfl rfl rfl rfl rfl rfl ?_
        refine DX.skip 21 4194303 (by kernel_rfl) rfl rfl rfl rfl rfl rfl rfl rfl ?_
        refine DX.skip 22 8388607 (by kernel_rfl) rfl rfl rfl rfl rfl rfl rfl rfl ?_
        refine DX.takeW 23 16777215 (by kernel_rfl) rfl rfl rfl rfl rfl (yw_pickF rfl rfl rfl) ?_
        refine DX.takeW 24 33554431 (by kernel_rfl) rfl rfl rfl rfl rfl (yw_move rfl rfl) ?_
        refine DX.skip 25 67108863 (by kernel_rfl) rfl rfl rfl rfl rfl rfl rfl rfl ?_
        refine DX.skip 26 134217727 (by kernel_rfl) rfl rfl rfl rfl rfl rfl rfl rfl ?_
        refine DX.skip 27 268435455 (by kernel_rfl) rfl rfl rfl rfl rfl rfl rfl rfl ?_
        refine DX.takeW 28 536870911 (by kernel_rfl) rfl rfl rfl rfl rfl (yw_pickF rfl rfl rfl) ?_
        refine DX.takeW 29 1073741823 (by kernel_rfl) rfl rfl rfl rfl rfl (yw_move rfl rfl) ?_
        refine DX.skip 30 2147483647 (by kernel_rfl) rfl rfl rfl rfl rfl rfl rfl rfl ?_
        refine DX.skip 31 4294967295 (by kernel_rfl) rfl rfl rfl rfl rfl rfl rfl rfl ?_
        refine DX.skip 32 8589934591 (by kernel_rfl) rfl rfl rfl rfl rfl rfl rfl rfl ?_
        refine DX.takeW 33 17179869183 (by kernel_rfl) rfl rfl rfl rfl rfl (yw_pickF rfl rfl rfl) ?_
        refine DX.takeW 34 34359738367 (by kernel_rfl) rfl rfl rfl rfl rfl (yw_move rfl rfl) ?_
        refine DX.skip 35 68719476735 (by kernel_rfl) rfl rfl rfl rfl rfl rfl rfl rfl ?_
        refine DX.skip 36 137438953471 (by kernel_rfl) rfl rfl rfl rfl rfl rfl rfl rfl ?_
        refine DX.skip 37 274877906943 (by kernel_rfl) rfl rfl rfl rfl rfl rfl rfl rfl ?_
        refine DX.takeW 38 549755813887 (by kernel_rfl) rfl rfl rfl rfl rfl (yw_pickF rfl rfl rfl) ?_
        refine DX.step 39 1099511627775 (by kernel_rfl) rfl rfl rfl (op_storeAll (i := 1) rfl rfl rfl rfl szt_33 rfl (plain_of rfl) rfl rfl (DXs.mk (List.Sublist.cons_cons _ (List.Sublist.cons _ (List.Sublist.refl _))) ?_))
        refine DX.takeW 40 2199023255551 (by kernel_rfl) rfl rfl rfl rfl rfl (yw_assign rfl rfl) ?_
        refine DX.done (by kernel_rfl) (XX.next (V' := [(2, .pointer (some ⟨g2, 0, none⟩)), (3, .bool false)]) ⟨rfl, rfl, trivial⟩ ?_)
        refine CX.ret ?_
        refine XX.block_ret ?_
        refine XX.then_ret ?_
        exact ret_cellT (i := 1) rfl rfl rfl agg_33 rfl rfl fun w1 hw => ⟨(({ kind := f.kind, id := f.id, version := f.version, period := 0, second := f.second, account := f.account, device := f.device, recording := f.recording, territory := f.territory, holder := 0, role := 0, since := 0, till := 0, amount := f.amount, share := 0, currency := 0, mark := f.mark, text := .empty } : Fct), false), fun _ => ⟨rfl, by simp [playOk, d42, d47]⟩, rfl, hw.sub (List.nil_sublist _)⟩
    · refine DX.skip 5 63 (by kernel_rfl) rfl rfl rfl rfl rfl rfl rfl rfl ?_
      refine DX.skip 6 127 (by kernel_rfl) rfl rfl rfl rfl rfl rfl rfl rfl ?_
      refine DX.skip 7 255 (by kernel_rfl) rfl rfl rfl rfl rfl rfl rfl rfl ?_
      refine DX.takeW 8 511 (by kernel_rfl) rfl rfl rfl rfl rfl (yw_pickF rfl rfl rfl) ?_
      refine DX.takeW 9 1023 (by kernel_rfl) rfl rfl rfl rfl rfl (yw_move rfl rfl) ?_
      refine DX.skip 10 2047 (by kernel_rfl) rfl rfl rfl rfl rfl rfl rfl rfl ?_
      refine DX.skip 11 4095 (by kernel_rfl) rfl rfl rfl rfl rfl rfl rfl rfl ?_
      refine DX.skip 12 8191 (by kernel_rfl) rfl rfl rfl rfl rfl rfl rfl rfl ?_
      refine DX.takeW 13 16383 (by kernel_rfl) rfl rfl rfl rfl rfl (yw_pickF rfl rfl rfl) ?_
      refine DX.takeW 14 32767 (by kernel_rfl) rfl rfl rfl rfl rfl (yw_move rfl rfl) ?_
      refine DX.skip 15 65535 (by kernel_rfl) rfl rfl rfl rfl rfl rfl rfl rfl ?_
      refine DX.skip 16 131071 (by kernel_rfl) rfl rfl rfl rfl rfl rfl rfl rfl ?_
      refine DX.skip 17 262143 (by kernel_rfl) rfl rfl rfl rfl rfl rfl rfl rfl ?_
      refine DX.takeW 18 524287 (by kernel_rfl) rfl rfl rfl rfl rfl (yw_pickF rfl rfl rfl) ?_
      refine DX.takeW 19 1048575 (by kernel_rfl) rfl rfl rfl rfl rfl (yw_move rfl rfl) ?_
      refine DX.skip 20 2097151 (by kernel_rfl) rfl rfl rfl rfl rfl rfl rfl rfl ?_
      refine DX.skip 21 4194303 (by kernel_rfl) rfl rfl rfl rfl rfl rfl rfl rfl ?_
      refine DX.skip 22 8388607 (by kernel_rfl) rfl rfl rfl rfl rfl rfl rfl rfl ?_
      refine DX.takeW 23 16777215 (by kernel_rfl) rfl rfl rfl rfl rfl (yw_pickF rfl rfl rfl) ?_
      refine DX.takeW 24 33554431 (by kernel_rfl) rfl rfl rfl rfl rfl (yw_move rfl rfl) ?_
      refine DX.skip 25 67108863 (by kernel_rfl) rfl rfl rfl rfl rfl rfl rfl rfl ?_
      refine DX.skip 26 134217727 (by kernel_rfl) rfl rfl rfl rfl rfl rfl rfl rfl ?_
      refine DX.skip 27 268435455 (by kernel_rfl) rfl rfl rfl rfl rfl rfl rfl rfl ?_
      refine DX.takeW 28 536870911 (by kernel_rfl) rfl rfl rfl rfl rfl (yw_pickF rfl rfl rfl) ?_
      refine DX.takeW 29 1073741823 (by kernel_rfl) rfl rfl rfl rfl rfl (yw_move rfl rfl) ?_
      refine DX.skip 30 2147483647 (by kernel_rfl) rfl rfl rfl rfl rfl rfl rfl rfl ?_
      refine DX.skip 31 4294967295 (by kernel_rfl) rfl rfl rfl rfl rfl rfl rfl rfl ?_
      refine DX.skip 32 8589934591 (by kernel_rfl) rfl rfl rfl rfl rfl rfl rfl rfl ?_
      refine DX.takeW 33 17179869183 (by kernel_rfl) rfl rfl rfl rfl rfl (yw_pickF rfl rfl rfl) ?_
      refine DX.takeW 34 34359738367 (by kernel_rfl) rfl rfl rfl rfl rfl (yw_move rfl rfl) ?_
      refine DX.skip 35 68719476735 (by kernel_rfl) rfl rfl rfl rfl rfl rfl rfl rfl ?_
      refine DX.skip 36 137438953471 (by kernel_rfl) rfl rfl rfl rfl rfl rfl rfl rfl ?_
      refine DX.skip 37 274877906943 (by kernel_rfl) rfl rfl rfl rfl rfl rfl rfl rfl ?_
      refine DX.takeW 38 549755813887 (by kernel_rfl) rfl rfl rfl rfl rfl (yw_pickF rfl rfl rfl) ?_
      refine DX.step 39 1099511627775 (by kernel_rfl) rfl rfl rfl (op_storeAll (i := 1) rfl rfl rfl rfl szt_33 rfl (plain_of rfl) rfl rfl (DXs.mk (List.Sublist.cons_cons _ (List.Sublist.cons _ (List.Sublist.refl _))) ?_))
      refine DX.takeW 40 2199023255551 (by kernel_rfl) rfl rfl rfl rfl rfl (yw_assign rfl rfl) ?_
      refine DX.done (by kernel_rfl) (XX.next (V' := [(2, .pointer (some ⟨g2, 0, none⟩)), (3, .bool false)]) ⟨rfl, rfl, trivial⟩ ?_)
      refine CX.ret ?_
      refine XX.block_ret ?_
      refine XX.then_ret ?_
      exact ret_cellT (i := 1) rfl rfl rfl agg_33 rfl rfl fun w1 hw => ⟨(({ kind := f.kind, id := f.id, version := f.version, period := 0, second := f.second, account := f.account, device := f.device, recording := f.recording, territory := f.territory, holder := 0, role := 0, since := 0, till := 0, amount := f.amount, share := 0, currency := 0, mark := f.mark, text := .empty } : Fct), false), fun _ => ⟨rfl, by simp [playOk, d42]⟩, rfl, hw.sub (List.nil_sublist _)⟩
  · exfalso; omega

set_option maxRecDepth 100000 in
theorem w_fields2 {w : World} (f : Fct) (hx : f.text.size ≤ 9223372036854775807) (hk : f.kind = 2) :
    Calls Tryd.prog 26 #[.agg (Fct.cells f)] w (fun e w' => ∃ x : Fct × Bool, (f.kind = 1 → x.1 = playOf f ∧ x.2 = playOk f) ∧ e = .returned (.tuple #[.agg (Fct.cells x.1), .bool x.2]) ∧ SL w [] w' []) := by
  refine calls_of_CX (O := []) (L := []) (args := [.agg (Fct.cells f)]) Tryd.func26 rfl (by simp [Tryd.ntmps26]) (SL.refl w) ?_
  refine CX.sub (V' := [(0, .agg (Fct.cells f))]) ⟨rfl, trivial⟩ ?_
  refine CX.seq ?_
  refine CX.region ?_
  refine RX.cons rfl rfl (op_box rfl rfl rfl rfl fun g1 => ?_)
  refine RX.cons rfl rfl (op_alloc rfl rfl rfl zero_33 fun g2 => ?_)
  refine RX.cons rfl rfl (op_w (yw_assign rfl rfl) rfl rfl ?_)
  refine RX.nil (XX.next (V' := [(1, .pointer (some ⟨g1, 0, none⟩)), (2, .pointer (some ⟨g2, 0, none⟩))]) ⟨rfl, rfl, trivial⟩ ?_)
  refine CX.seq ?_
  refine CX.region ?_
  refine RX.cons rfl rfl (op_w (yw_field0 rfl fld_33_0 rfl) rfl rfl ?_)
  refine RX.cons rfl rfl (op_yld (y_load (i := 1) rfl rfl one_3 rfl rfl) rfl rfl ?_)
  refine RX.cons rfl rfl (op_w (yw_fieldAddr rfl fld_33_2 rfl) rfl rfl ?_)
  refine RX.cons rfl rfl (op_yld (y_load (i := 1) rfl rfl one_3 rfl rfl) rfl rfl ?_)
  refine RX.cons rfl rfl (op_w (yw_build (v := .agg (#[.int .i64 f.kind, .int .i64 0, .int .i64 f.version, .int .i64 0, .int .i64 0, .int .i64 0, .int .i64 0, .int .i64 0, .int .i64 0, .int .i64 0, .int .i64 0, .int .i64 0, .int .i64 0, .int .i64 0, .int .i64 0, .int .i64 0, .int .i64 0, .string .empty])) rfl rfl (fun _ => by kernel_rfl)) rfl rfl ?_)
  refine RX.cons rfl rfl (op_alloc rfl rfl rfl zero_33 fun g3 => ?_)
  refine RX.cons rfl rfl (op_storeAll (i := 0) rfl rfl rfl rfl szt_33 rfl (plain_of rfl) rfl rfl ?_)
  refine RX.nil (XX.next (V' := [(1, .pointer (some ⟨g1, 0, none⟩)), (2, .pointer (some ⟨g2, 0, none⟩)), (4, .pointer (some ⟨g3, 0, none⟩))]) ⟨rfl, rfl, rfl, trivial⟩ ?_)
  refine CX.seq ?_
  refine CX.seq ?_
  refine CX.region ?_
  refine RX.cons rfl rfl (op_w (yw_field0 rfl fld_33_0 rfl) rfl rfl ?_)
  refine RX.cons rfl rfl (op_yld (y_load (i := 2) rfl rfl one_3 rfl rfl) rfl rfl ?_)
  refine RX.nil (XX.next (V' := [(1, .pointer (some ⟨g1, 0, none⟩)), (2, .pointer (some ⟨g2, 0, none⟩)), (4, .pointer (some ⟨g3, 0, none⟩)), (11, .int .i64 f.kind)]) ⟨rfl, rfl, rfl, rfl, trivial⟩ ?_)
  refine CX.block ?_
  refine CX.seq ?_
  refine CX.region ?_
  refine RX.cons rfl rfl (op_w (yw_eql rfl rfl rfl) rfl rfl ?_)
  refine RX.cons rfl rfl (op_w (yw_assign rfl rfl) rfl rfl ?_)
  refine RX.nil (XX.next (V' := [(1, .pointer (some ⟨g1, 0, none⟩)), (2, .pointer (some ⟨g2, 0, none⟩)), (4, .pointer (some ⟨g3, 0, none⟩)), (11, .int .i64 f.kind), (12, .bool (decide (f.kind = 1)))]) ⟨rfl, rfl, rfl, rfl, rfl, trivial⟩ ?_)
  refine CX.condD (p := f.kind = 1) rfl (fun c12 => ?_) (fun c12 => ?_)
  · exfalso; omega
  · refine CX.seq ?_
    refine CX.region ?_
    refine RX.cons rfl rfl (op_w (yw_eql rfl rfl rfl) rfl rfl ?_)
    refine RX.cons rfl rfl (op_w (yw_assign rfl rfl) rfl rfl ?_)
    refine RX.nil (XX.next (V' := [(1, .pointer (some ⟨g1, 0, none⟩)), (2, .pointer (some ⟨g2, 0, none⟩)), (4, .pointer (some ⟨g3, 0, none⟩)), (11, .int .i64 f.kind), (77, .bool (decide (f.kind = 2)))]) ⟨rfl, rfl, rfl, rfl, rfl, trivial⟩ ?_)
    refine CX.condD (p := f.kind = 2) rfl (fun c77 => ?_) (fun c77 => ?_)
    · refine CX.seq ?_
      refine CX.drawL 12 ([.blk g1 (.cells (Fct.cells f) 33 (0, 0))]) (by kernel_rfl) ?_
      refine DX.takeW 0 1 (by kernel_rfl) rfl rfl rfl rfl rfl (yw_fieldAddr rfl fld_33_6 rfl) ?_
      refine DX.take 1 3 (by kernel_rfl) rfl rfl rfl rfl rfl (List.Sublist.cons _ (List.Sublist.cons _ (List.Sublist.refl _))) (y_load (i := 0) rfl rfl one_3 rfl rfl) ?_
      refine DX.takeW 2 7 (by kernel_rfl) rfl rfl rfl rfl rfl (yw_fieldAddr rfl fld_33_1 rfl) ?_
      refine DX.take 3 15 (by kernel_rfl) rfl rfl rfl rfl rfl (List.Sublist.cons _ (List.Sublist.cons _ (List.Sublist.refl _))) (y_load (i := 0) rfl rfl one_3 rfl rfl) ?_
      refine DX.takeW 4 31 (by kernel_rfl) rfl rfl rfl rfl rfl (yw_fieldAddr rfl fld_33_16 rfl) ?_
      refine DX.take 5 63 (by kernel_rfl) rfl rfl rfl rfl rfl (List.Sublist.cons _ (List.Sublist.cons _ (List.Sublist.refl _))) (y_load (i := 0) rfl rfl one_3 rfl rfl) ?_
      refine DX.takeW 6 127 (by kernel_rfl) rfl rfl rfl rfl rfl (yw_fieldAddr rfl fld_33_6 rfl) ?_
      refine DX.step 7 255 (by kernel_rfl) rfl rfl rfl (op_store1 (i := 0) (cs' := #[.int .i64 f.kind, .int .i64 0, .int .i64 f.version, .int .i64 0, .int .i64 0, .int .i64 0, .int .i64 f.device, .int .i64 0, .int .i64 0, .int .i64 0, .int .i64 0, .int .i64 0, .int .i64 0, .int .i64 0, .int .i64 0, .int .i64 0, .int .i64 0, .string .empty]) rfl rfl rfl rfl szt_3 rfl rfl rfl rfl (DXs.mk (List.Sublist.cons _ (List.Sublist.cons _ (List.Sublist.refl _))) ?_))
      refine DX.takeW 8 511 (by kernel_rfl) rfl rfl rfl rfl rfl (yw_fieldAddr rfl fld_33_1 rfl) ?_
      refine DX.step 9 1023 (by kernel_rfl) rfl rfl rfl (op_store1 (i := 0) (cs' := #[.int .i64 f.kind, .int .i64 f.id, .int .i64 f.version, .int .i64 0, .int .i64 0, .int .i64 0, .int .i64 f.device, .int .i64 0, .int .i64 0, .int .i64 0, .int .i64 0, .int .i64 0, .int .i64 0, .int .i64 0, .int .i64 0, .int .i64 0, .int .i64 0, .string .empty]) rfl rfl rfl rfl szt_3 rfl rfl rfl rfl (DXs.mk (List.Sublist.cons _ (List.Sublist.cons _ (List.Sublist.refl _))) ?_))
      refine DX.takeW 10 2047 (by kernel_rfl) rfl rfl rfl rfl rfl (yw_fieldAddr rfl fld_33_16 rfl) ?_
      refine DX.step 11 4095 (by kernel_rfl) rfl rfl rfl (op_store1 (i := 0) (cs' := #[.int .i64 f.kind, .int .i64 f.id, .int .i64 f.version, .int .i64 0, .int .i64 0, .int .i64 0, .int .i64 f.device, .int .i64 0, .int .i64 0, .int .i64 0, .int .i64 0, .int .i64 0, .int .i64 0, .int .i64 0, .int .i64 0, .int .i64 0, .int .i64 f.mark, .string .empty]) rfl rfl rfl rfl szt_3 rfl rfl rfl rfl (DXs.mk (List.Sublist.cons _ (List.Sublist.cons _ (List.Sublist.refl _))) ?_))
      refine DX.done (by kernel_rfl) (XX.next (V' := [(1, .pointer (some ⟨g1, 0, none⟩)), (2, .pointer (some ⟨g2, 0, none⟩)), (4, .pointer (some ⟨g3, 0, none⟩))]) ⟨rfl, rfl, rfl, trivial⟩ ?_)
      refine CX.seq ?_
      refine CX.drawL 16 ([.blk g3 (.cells (#[.int .i64 f.kind, .int .i64 f.id, .int .i64 f.version, .int .i64 0, .int .i64 0, .int .i64 0, .int .i64 f.device, .int .i64 0, .int .i64 0, .int .i64 0, .int .i64 0, .int .i64 0, .int .i64 0, .int .i64 0, .int .i64 0, .int .i64 0, .int .i64 f.mark, .string .empty]) 33 (0, 0)), .blk g1 (.cells (Fct.cells f) 33 (0, 0))]) (by kernel_rfl) ?_
      refine DX.take 0 1 (by kernel_rfl) rfl rfl rfl rfl rfl (List.Sublist.cons_cons _ (List.Sublist.cons _ (List.Sublist.refl _))) (y_loadA (i := 0) rfl rfl agg_33 rfl rfl) ?_
      refine DX.takeW 1 3 (by kernel_rfl) rfl rfl rfl rfl rfl (yw_fieldAddr rfl fld_33_6 rfl) ?_
      refine DX.take 2 7 (by kernel_rfl) rfl rfl rfl rfl rfl (List.Sublist.cons_cons _ (List.Sublist.cons _ (List.Sublist.refl _))) (y_load (i := 1) rfl rfl one_3 rfl rfl) ?_
      refine DX.step 3 15 (by kernel_rfl) rfl rfl rfl (op_callV (v := .bool (within f.device 1 1000000)) rfl rfl rfl rfl rfl ent_36 (fun w _ => w_refId f.device) (DXs.mk (List.Sublist.cons_cons _ (List.Sublist.cons _ (List.Sublist.refl _))) ?_))
      refine DX.takeW 4 31 (by kernel_rfl) rfl rfl rfl rfl rfl (yw_move rfl rfl) ?_
      refine DX.split (t := 92) (b := within f.device 1 1000000) rfl (fun d92 => ?_) (fun d92 => ?_)
      · refine DX.takeWG 5 63 (by kernel_rfl) rfl rfl rfl rfl rfl rfl rfl rfl (yw_fieldAddr rfl fld_33_1 rfl) ?_
        refine DX.takeG 6 127 (by kernel_rfl) rfl rfl rfl rfl rfl rfl rfl rfl (List.Sublist.cons_cons _ (List.Sublist.cons _ (List.Sublist.refl _))) (y_load (i := 1) rfl rfl one_3 rfl rfl) ?_
        refine DX.stepG 7 255 (by kernel_rfl) rfl rfl rfl rfl rfl rfl (op_callV (v := .bool (within f.id 1 1000000)) rfl rfl rfl rfl rfl ent_36 (fun w _ => w_refId f.id) (DXs.mk (List.Sublist.cons_cons _ (List.Sublist.cons _ (List.Sublist.refl _))) ?_))
        refine DX.takeW 8 511 (by kernel_rfl) rfl rfl rfl rfl rfl (yw_pickT rfl rfl rfl) ?_
        refine DX.takeW 9 1023 (by kernel_rfl) rfl rfl rfl rfl rfl (yw_move rfl rfl) ?_
        refine DX.split (t := 97) (b := within f.id 1 1000000) rfl (fun d97 => ?_) (fun d97 => ?_)
        · refine DX.takeWG 10 2047 (by kernel_rfl) rfl rfl rfl rfl rfl rfl rfl rfl (yw_fieldAddr rfl fld_33_16 rfl) ?_
          refine DX.takeG 11 4095 (by kernel_rfl) rfl rfl rfl rfl rfl rfl rfl rfl (List.Sublist.cons_cons _ (List.Sublist.cons _ (List.Sublist.refl _))) (y_load (i := 1) rfl rfl one_3 rfl rfl) ?_
          refine DX.stepG 12 8191 (by kernel_rfl) rfl rfl rfl rfl rfl rfl (op_callV (v := .bool (within f.mark 1 3)) rfl rfl rfl rfl rfl ent_27 (fun w _ => w_within f.mark 1 3) (DXs.mk (List.Sublist.cons_cons _ (List.Sublist.cons _ (List.Sublist.refl _))) ?_))
          refine DX.takeW 13 16383 (by kernel_rfl) rfl rfl rfl rfl rfl (yw_pickT rfl rfl rfl) ?_
          refine DX.step 14 32767 (by kernel_rfl) rfl rfl rfl (op_storeAll (i := 1) rfl rfl rfl rfl szt_33 rfl (plain_of rfl) rfl rfl (DXs.mk (List.Sublist.cons_cons _ (List.Sublist.cons _ (List.Sublist.refl _))) ?_))
          refine DX.takeW 15 65535 (by kernel_rfl) rfl rfl rfl rfl rfl (yw_assign rfl rfl) ?_
          refine DX.done (by kernel_rfl) (XX.next (V' := [(2, .pointer (some ⟨g2, 0, none⟩)), (3, .bool (within f.mark 1 3))]) ⟨rfl, rfl, trivial⟩ ?_)
          refine CX.ret ?_
          refine XX.block_ret ?_
          refine XX.then_ret ?_
          exact ret_cellT (i := 1) rfl rfl rfl agg_33 rfl rfl fun w1 hw => ⟨(({ kind := f.kind, id := f.id, version := f.version, period := 0, second := 0, account := 0, device := f.device, recording := 0, territory := 0, holder := 0, role := 0, since := 0, till := 0, amount := 0, share := 0, currency := 0, mark := f.mark, text := .empty } : Fct), (within f.mark 1 3)), fun h => absurd h c12, rfl, hw.sub (List.nil_sublist _)⟩
        · refine DX.skip 10 2047 (by kernel_rfl) rfl rfl rfl rfl rfl rfl rfl rfl ?_
          refine DX.skip 11 4095 (by kernel_rfl) rfl rfl rfl rfl rfl rfl rfl rfl ?_
          refine DX.skip 12 8191 (by kernel_rfl) rfl rfl rfl rfl rfl rfl rfl rfl ?_
          refine DX.takeW 13 16383 (by kernel_rfl) rfl rfl rfl rfl rfl (yw_pickF rfl rfl rfl) ?_
          refine DX.step 14 32767 (by kernel_rfl) rfl rfl rfl (op_storeAll (i := 1) rfl rfl rfl rfl szt_33 rfl (plain_of rfl) rfl rfl (DXs.mk (List.Sublist.cons_cons _ (List.Sublist.cons _ (List.Sublist.refl _))) ?_))
          refine DX.takeW 15 65535 (by kernel_rfl) rfl rfl rfl rfl rfl (yw_assign rfl rfl) ?_
          refine DX.done (by kernel_rfl) (XX.next (V' := [(2, .pointer (some ⟨g2, 0, none⟩)), (3, .bool false)]) ⟨rfl, rfl, trivial⟩ ?_)
          refine CX.ret ?_
          refine XX.block_ret ?_
          refine XX.then_ret ?_
          exact ret_cellT (i := 1) rfl rfl rfl agg_33 rfl rfl fun w1 hw => ⟨(({ kind := f.kind, id := f.id, version := f.version, period := 0, second := 0, account := 0, device := f.device, recording := 0, territory := 0, holder := 0, role := 0, since := 0, till := 0, amount := 0, share := 0, currency := 0, mark := f.mark, text := .empty } : Fct), false), fun h => absurd h c12, rfl, hw.sub (List.nil_sublist _)⟩
      · refine DX.skip 5 63 (by kernel_rfl) rfl rfl rfl rfl rfl rfl rfl rfl ?_
        refine DX.skip 6 127 (by kernel_rfl) rfl rfl rfl rfl rfl rfl rfl rfl ?_
        refine DX.skip 7 255 (by kernel_rfl) rfl rfl rfl rfl rfl rfl rfl rfl ?_
        refine DX.takeW 8 511 (by kernel_rfl) rfl rfl rfl rfl rfl (yw_pickF rfl rfl rfl) ?_
        refine DX.takeW 9 1023 (by kernel_rfl) rfl rfl rfl rfl rfl (yw_move rfl rfl) ?_
        refine DX.skip 10 2047 (by kernel_rfl) rfl rfl rfl rfl rfl rfl rfl rfl ?_
        refine DX.skip 11 4095 (by kernel_rfl) rfl rfl rfl rfl rfl rfl rfl rfl ?_
        refine DX.skip 12 8191 (by kernel_rfl) rfl rfl rfl rfl rfl rfl rfl rfl ?_
        refine DX.takeW 13 16383 (by kernel_rfl) rfl rfl rfl rfl rfl (yw_pickF rfl rfl rfl) ?_
        refine DX.step 14 32767 (by kernel_rfl) rfl rfl rfl (op_storeAll (i := 1) rfl rfl rfl rfl szt_33 rfl (plain_of rfl) rfl rfl (DXs.mk (List.Sublist.cons_cons _ (List.Sublist.cons _ (List.Sublist.refl _))) ?_))
        refine DX.takeW 15 65535 (by kernel_rfl) rfl rfl rfl rfl rfl (yw_assign rfl rfl) ?_
        refine DX.done (by kernel_rfl) (XX.next (V' := [(2, .pointer (some ⟨g2, 0, none⟩)), (3, .bool false)]) ⟨rfl, rfl, trivial⟩ ?_)
        refine CX.ret ?_
        refine XX.block_ret ?_
        refine XX.then_ret ?_
        exact ret_cellT (i := 1) rfl rfl rfl agg_33 rfl rfl fun w1 hw => ⟨(({ kind := f.kind, id := f.id, version := f.version, period := 0, second := 0, account := 0, device := f.device, recording := 0, territory := 0, holder := 0, role := 0, since := 0, till := 0, amount := 0, share := 0, currency := 0, mark := f.mark, text := .empty } : Fct), false), fun h => absurd h c12, rfl, hw.sub (List.nil_sublist _)⟩
    · exfalso; omega

set_option maxRecDepth 100000 in
theorem w_fields3 {w : World} (f : Fct) (hx : f.text.size ≤ 9223372036854775807) (hk : f.kind = 3) :
    Calls Tryd.prog 26 #[.agg (Fct.cells f)] w (fun e w' => ∃ x : Fct × Bool, (f.kind = 1 → x.1 = playOf f ∧ x.2 = playOk f) ∧ e = .returned (.tuple #[.agg (Fct.cells x.1), .bool x.2]) ∧ SL w [] w' []) := by
  refine calls_of_CX (O := []) (L := []) (args := [.agg (Fct.cells f)]) Tryd.func26 rfl (by simp [Tryd.ntmps26]) (SL.refl w) ?_
  refine CX.sub (V' := [(0, .agg (Fct.cells f))]) ⟨rfl, trivial⟩ ?_
  refine CX.seq ?_
  refine CX.region ?_
  refine RX.cons rfl rfl (op_box rfl rfl rfl rfl fun g1 => ?_)
  refine RX.cons rfl rfl (op_alloc rfl rfl rfl zero_33 fun g2 => ?_)
  refine RX.cons rfl rfl (op_w (yw_assign rfl rfl) rfl rfl ?_)
  refine RX.nil (XX.next (V' := [(1, .pointer (some ⟨g1, 0, none⟩)), (2, .pointer (some ⟨g2, 0, none⟩))]) ⟨rfl, rfl, trivial⟩ ?_)
  refine CX.seq ?_
  refine CX.region ?_
  refine RX.cons rfl rfl (op_w (yw_field0 rfl fld_33_0 rfl) rfl rfl ?_)
  refine RX.cons rfl rfl (op_yld (y_load (i := 1) rfl rfl one_3 rfl rfl) rfl rfl ?_)
  refine RX.cons rfl rfl (op_w (yw_fieldAddr rfl fld_33_2 rfl) rfl rfl ?_)
  refine RX.cons rfl rfl (op_yld (y_load (i := 1) rfl rfl one_3 rfl rfl) rfl rfl ?_)
  refine RX.cons rfl rfl (op_w (yw_build (v := .agg (#[.int .i64 f.kind, .int .i64 0, .int .i64 f.version, .int .i64 0, .int .i64 0, .int .i64 0, .int .i64 0, .int .i64 0, .int .i64 0, .int .i64 0, .int .i64 0, .int .i64 0, .int .i64 0, .int .i64 0, .int .i64 0, .int .i64 0, .int .i64 0, .string .empty])) rfl rfl (fun _ => by kernel_rfl)) rfl rfl ?_)
  refine RX.cons rfl rfl (op_alloc rfl rfl rfl zero_33 fun g3 => ?_)
  refine RX.cons rfl rfl (op_storeAll (i := 0) rfl rfl rfl rfl szt_33 rfl (plain_of rfl) rfl rfl ?_)
  refine RX.nil (XX.next (V' := [(1, .pointer (some ⟨g1, 0, none⟩)), (2, .pointer (some ⟨g2, 0, none⟩)), (4, .pointer (some ⟨g3, 0, none⟩))]) ⟨rfl, rfl, rfl, trivial⟩ ?_)
  refine CX.seq ?_
  refine CX.seq ?_
  refine CX.region ?_
  refine RX.cons rfl rfl (op_w (yw_field0 rfl fld_33_0 rfl) rfl rfl ?_)
  refine RX.cons rfl rfl (op_yld (y_load (i := 2) rfl rfl one_3 rfl rfl) rfl rfl ?_)
  refine RX.nil (XX.next (V' := [(1, .pointer (some ⟨g1, 0, none⟩)), (2, .pointer (some ⟨g2, 0, none⟩)), (4, .pointer (some ⟨g3, 0, none⟩)), (11, .int .i64 f.kind)]) ⟨rfl, rfl, rfl, rfl, trivial⟩ ?_)
  refine CX.block ?_
  refine CX.seq ?_
  refine CX.region ?_
  refine RX.cons rfl rfl (op_w (yw_eql rfl rfl rfl) rfl rfl ?_)
  refine RX.cons rfl rfl (op_w (yw_assign rfl rfl) rfl rfl ?_)
  refine RX.nil (XX.next (V' := [(1, .pointer (some ⟨g1, 0, none⟩)), (2, .pointer (some ⟨g2, 0, none⟩)), (4, .pointer (some ⟨g3, 0, none⟩)), (11, .int .i64 f.kind), (12, .bool (decide (f.kind = 1)))]) ⟨rfl, rfl, rfl, rfl, rfl, trivial⟩ ?_)
  refine CX.condD (p := f.kind = 1) rfl (fun c12 => ?_) (fun c12 => ?_)
  · exfalso; omega
  · refine CX.seq ?_
    refine CX.region ?_
    refine RX.cons rfl rfl (op_w (yw_eql rfl rfl rfl) rfl rfl ?_)
    refine RX.cons rfl rfl (op_w (yw_assign rfl rfl) rfl rfl ?_)
    refine RX.nil (XX.next (V' := [(1, .pointer (some ⟨g1, 0, none⟩)), (2, .pointer (some ⟨g2, 0, none⟩)), (4, .pointer (some ⟨g3, 0, none⟩)), (11, .int .i64 f.kind), (77, .bool (decide (f.kind = 2)))]) ⟨rfl, rfl, rfl, rfl, rfl, trivial⟩ ?_)
    refine CX.condD (p := f.kind = 2) rfl (fun c77 => ?_) (fun c77 => ?_)
    · exfalso; omega
    · refine CX.seq ?_
      refine CX.region ?_
      refine RX.cons rfl rfl (op_w (yw_eql rfl rfl rfl) rfl rfl ?_)
      refine RX.cons rfl rfl (op_w (yw_assign rfl rfl) rfl rfl ?_)
      refine RX.nil (XX.next (V' := [(1, .pointer (some ⟨g1, 0, none⟩)), (2, .pointer (some ⟨g2, 0, none⟩)), (4, .pointer (some ⟨g3, 0, none⟩)), (11, .int .i64 f.kind), (102, .bool (decide (f.kind = 3)))]) ⟨rfl, rfl, rfl, rfl, rfl, trivial⟩ ?_)
      refine CX.condD (p := f.kind = 3) rfl (fun c102 => ?_) (fun c102 => ?_)
      · refine CX.seq ?_
        refine CX.drawL 16 ([.blk g1 (.cells (Fct.cells f) 33 (0, 0))]) (by kernel_rfl) ?_
        refine DX.takeW 0 1 (by kernel_rfl) rfl rfl rfl rfl rfl (yw_fieldAddr rfl fld_33_1 rfl) ?_
        refine DX.take 1 3 (by kernel_rfl) rfl rfl rfl rfl rfl (List.Sublist.cons _ (List.Sublist.cons _ (List.Sublist.refl _))) (y_load (i := 0) rfl rfl one_3 rfl rfl) ?_
        refine DX.takeW 2 7 (by kernel_rfl) rfl rfl rfl rfl rfl (yw_fieldAddr rfl fld_33_7 rfl) ?_
        refine DX.take 3 15 (by kernel_rfl) rfl rfl rfl rfl rfl (List.Sublist.cons _ (List.Sublist.cons _ (List.Sublist.refl _))) (y_load (i := 0) rfl rfl one_3 rfl rfl) ?_
        refine DX.takeW 4 31 (by kernel_rfl) rfl rfl rfl rfl rfl (yw_fieldAddr rfl fld_33_9 rfl) ?_
        refine DX.take 5 63 (by kernel_rfl) rfl rfl rfl rfl rfl (List.Sublist.cons _ (List.Sublist.cons _ (List.Sublist.refl _))) (y_load (i := 0) rfl rfl one_3 rfl rfl) ?_
        refine DX.takeW 6 127 (by kernel_rfl) rfl rfl rfl rfl rfl (yw_fieldAddr rfl fld_33_10 rfl) ?_
        refine DX.take 7 255 (by kernel_rfl) rfl rfl rfl rfl rfl (List.Sublist.cons _ (List.Sublist.cons _ (List.Sublist.refl _))) (y_load (i := 0) rfl rfl one_3 rfl rfl) ?_
        refine DX.takeW 8 511 (by kernel_rfl) rfl rfl rfl rfl rfl (yw_fieldAddr rfl fld_33_1 rfl) ?_
        refine DX.step 9 1023 (by kernel_rfl) rfl rfl rfl (op_store1 (i := 0) (cs' := #[.int .i64 f.kind, .int .i64 f.id, .int .i64 f.version, .int .i64 0, .int .i64 0, .int .i64 0, .int .i64 0, .int .i64 0, .int .i64 0, .int .i64 0, .int .i64 0, .int .i64 0, .int .i64 0, .int .i64 0, .int .i64 0, .int .i64 0, .int .i64 0, .string .empty]) rfl rfl rfl rfl szt_3 rfl rfl rfl rfl (DXs.mk (List.Sublist.cons _ (List.Sublist.cons _ (List.Sublist.refl _))) ?_))
        refine DX.takeW 10 2047 (by kernel_rfl) rfl rfl rfl rfl rfl (yw_fieldAddr rfl fld_33_7 rfl) ?_
        refine DX.step 11 4095 (by kernel_rfl) rfl rfl rfl (op_store1 (i := 0) (cs' := #[.int .i64 f.kind, .int .i64 f.id, .int .i64 f.version, .int .i64 0, .int .i64 0, .int .i64 0, .int .i64 0, .int .i64 f.recording, .int .i64 0, .int .i64 0, .int .i64 0, .int .i64 0, .int .i64 0, .int .i64 0, .int .i64 0, .int .i64 0, .int .i64 0, .string .empty]) rfl rfl rfl rfl szt_3 rfl rfl rfl rfl (DXs.mk (List.Sublist.cons _ (List.Sublist.cons _ (List.Sublist.refl _))) ?_))
        refine DX.takeW 12 8191 (by kernel_rfl) rfl rfl rfl rfl rfl (yw_fieldAddr rfl fld_33_9 rfl) ?_
        refine DX.step 13 16383 (by kernel_rfl) rfl rfl rfl (op_store1 (i := 0) (cs' := #[.int .i64 f.kind, .int .i64 f.id, .int .i64 f.version, .int .i64 0, .int .i64 0, .int .i64 0, .int .i64 0, .int .i64 f.recording, .int .i64 0, .int .i64 f.holder, .int .i64 0, .int .i64 0, .int .i64 0, .int .i64 0, .int .i64 0, .int .i64 0, .int .i64 0, .string .empty]) rfl rfl rfl rfl szt_3 rfl rfl rfl rfl (DXs.mk (List.Sublist.cons _ (List.Sublist.cons _ (List.Sublist.refl _))) ?_))
        refine DX.takeW 14 32767 (by kernel_rfl) rfl rfl rfl rfl rfl (yw_fieldAddr rfl fld_33_10 rfl) ?_
        refine DX.step 15 65535 (by kernel_rfl) rfl rfl rfl (op_store1 (i := 0) (cs' := #[.int .i64 f.kind, .int .i64 f.id, .int .i64 f.version, .int .i64 0, .int .i64 0, .int .i64 0, .int .i64 0, .int .i64 f.recording, .int .i64 0, .int .i64 f.holder, .int .i64 f.role, .int .i64 0, .int .i64 0, .int .i64 0, .int .i64 0, .int .i64 0, .int .i64 0, .string .empty]) rfl rfl rfl rfl szt_3 rfl rfl rfl rfl (DXs.mk (List.Sublist.cons _ (List.Sublist.cons _ (List.Sublist.refl _))) ?_))
        refine DX.done (by kernel_rfl) (XX.next (V' := [(1, .pointer (some ⟨g1, 0, none⟩)), (2, .pointer (some ⟨g2, 0, none⟩)), (4, .pointer (some ⟨g3, 0, none⟩))]) ⟨rfl, rfl, rfl, trivial⟩ ?_)
        refine CX.seq ?_
        refine CX.drawL 16 ([.blk g1 (.cells (Fct.cells f) 33 (0, 0))]) (by kernel_rfl) ?_
        refine DX.takeW 0 1 (by kernel_rfl) rfl rfl rfl rfl rfl (yw_fieldAddr rfl fld_33_8 rfl) ?_
        refine DX.take 1 3 (by kernel_rfl) rfl rfl rfl rfl rfl (List.Sublist.cons _ (List.Sublist.cons _ (List.Sublist.refl _))) (y_load (i := 0) rfl rfl one_3 rfl rfl) ?_
        refine DX.takeW 2 7 (by kernel_rfl) rfl rfl rfl rfl rfl (yw_fieldAddr rfl fld_33_11 rfl) ?_
        refine DX.take 3 15 (by kernel_rfl) rfl rfl rfl rfl rfl (List.Sublist.cons _ (List.Sublist.cons _ (List.Sublist.refl _))) (y_load (i := 0) rfl rfl one_3 rfl rfl) ?_
        refine DX.takeW 4 31 (by kernel_rfl) rfl rfl rfl rfl rfl (yw_fieldAddr rfl fld_33_12 rfl) ?_
        refine DX.take 5 63 (by kernel_rfl) rfl rfl rfl rfl rfl (List.Sublist.cons _ (List.Sublist.cons _ (List.Sublist.refl _))) (y_load (i := 0) rfl rfl one_3 rfl rfl) ?_
        refine DX.takeW 6 127 (by kernel_rfl) rfl rfl rfl rfl rfl (yw_fieldAddr rfl fld_33_14 rfl) ?_
        refine DX.take 7 255 (by kernel_rfl) rfl rfl rfl rfl rfl (List.Sublist.cons _ (List.Sublist.cons _ (List.Sublist.refl _))) (y_load (i := 0) rfl rfl one_3 rfl rfl) ?_
        refine DX.takeW 8 511 (by kernel_rfl) rfl rfl rfl rfl rfl (yw_fieldAddr rfl fld_33_8 rfl) ?_
        refine DX.step 9 1023 (by kernel_rfl) rfl rfl rfl (op_store1 (i := 0) (cs' := #[.int .i64 f.kind, .int .i64 f.id, .int .i64 f.version, .int .i64 0, .int .i64 0, .int .i64 0, .int .i64 0, .int .i64 f.recording, .int .i64 f.territory, .int .i64 f.holder, .int .i64 f.role, .int .i64 0, .int .i64 0, .int .i64 0, .int .i64 0, .int .i64 0, .int .i64 0, .string .empty]) rfl rfl rfl rfl szt_3 rfl rfl rfl rfl (DXs.mk (List.Sublist.cons _ (List.Sublist.cons _ (List.Sublist.refl _))) ?_))
        refine DX.takeW 10 2047 (by kernel_rfl) rfl rfl rfl rfl rfl (yw_fieldAddr rfl fld_33_11 rfl) ?_
        refine DX.step 11 4095 (by kernel_rfl) rfl rfl rfl (op_store1 (i := 0) (cs' := #[.int .i64 f.kind, .int .i64 f.id, .int .i64 f.version, .int .i64 0, .int .i64 0, .int .i64 0, .int .i64 0, .int .i64 f.recording, .int .i64 f.territory, .int .i64 f.holder, .int .i64 f.role, .int .i64 f.since, .int .i64 0, .int .i64 0, .int .i64 0, .int .i64 0, .int .i64 0, .string .empty]) rfl rfl rfl rfl szt_3 rfl rfl rfl rfl (DXs.mk (List.Sublist.cons _ (List.Sublist.cons _ (List.Sublist.refl _))) ?_))
        refine DX.takeW 12 8191 (by kernel_rfl) rfl rfl rfl rfl rfl (yw_fieldAddr rfl fld_33_12 rfl) ?_
        refine DX.step 13 16383 (by kernel_rfl) rfl rfl rfl (op_store1 (i := 0) (cs' := #[.int .i64 f.kind, .int .i64 f.id, .int .i64 f.version, .int .i64 0, .int .i64 0, .int .i64 0, .int .i64 0, .int .i64 f.recording, .int .i64 f.territory, .int .i64 f.holder, .int .i64 f.role, .int .i64 f.since, .int .i64 f.till, .int .i64 0, .int .i64 0, .int .i64 0, .int .i64 0, .string .empty]) rfl rfl rfl rfl szt_3 rfl rfl rfl rfl (DXs.mk (List.Sublist.cons _ (List.Sublist.cons _ (List.Sublist.refl _))) ?_))
        refine DX.takeW 14 32767 (by kernel_rfl) rfl rfl rfl rfl rfl (yw_fieldAddr rfl fld_33_14 rfl) ?_
        refine DX.step 15 65535 (by kernel_rfl) rfl rfl rfl (op_store1 (i := 0) (cs' := #[.int .i64 f.kind, .int .i64 f.id, .int .i64 f.version, .int .i64 0, .int .i64 0, .int .i64 0, .int .i64 0, .int .i64 f.recording, .int .i64 f.territory, .int .i64 f.holder, .int .i64 f.role, .int .i64 f.since, .int .i64 f.till, .int .i64 0, .int .i64 f.share, .int .i64 0, .int .i64 0, .string .empty]) rfl rfl rfl rfl szt_3 rfl rfl rfl rfl (DXs.mk (List.Sublist.cons _ (List.Sublist.cons _ (List.Sublist.refl _))) ?_))
        refine DX.done (by kernel_rfl) (XX.next (V' := [(1, .pointer (some ⟨g1, 0, none⟩)), (2, .pointer (some ⟨g2, 0, none⟩)), (4, .pointer (some ⟨g3, 0, none⟩))]) ⟨rfl, rfl, rfl, trivial⟩ ?_)
        refine CX.seq ?_
        refine CX.drawL 48 ([.blk g3 (.cells (#[.int .i64 f.kind, .int .i64 f.id, .int .i64 f.version, .int .i64 0, .int .i64 0, .int .i64 0, .int .i64 0, .int .i64 f.recording, .int .i64 f.territory, .int .i64 f.holder, .int .i64 f.role, .int .i64 f.since, .int .i64 f.till, .int .i64 0, .int .i64 f.share, .int .i64 0, .int .i64 0, .string .empty]) 33 (0, 0)), .blk g1 (.cells (Fct.cells f) 33 (0, 0))]) (by kernel_rfl) ?_
        refine DX.take 0 1 (by kernel_rfl) rfl rfl rfl rfl rfl (List.Sublist.cons_cons _ (List.Sublist.cons _ (List.Sublist.refl _))) (y_loadA (i := 0) rfl rfl agg_33 rfl rfl) ?_
        refine DX.takeW 1 3 (by kernel_rfl) rfl rfl rfl rfl rfl (yw_fieldAddr rfl fld_33_1 rfl) ?_
        refine DX.take 2 7 (by kernel_rfl) rfl rfl rfl rfl rfl (List.Sublist.cons_cons _ (List.Sublist.cons _ (List.Sublist.refl _))) (y_load (i := 1) rfl rfl one_3 rfl rfl) ?_
        refine DX.step 3 15 (by kernel_rfl) rfl rfl rfl (op_callV (v := .bool (within f.id 1 1000000)) rfl rfl rfl rfl rfl ent_36 (fun w _ => w_refId f.id) (DXs.mk (List.Sublist.cons_cons _ (List.Sublist.cons _ (List.Sublist.refl _))) ?_))
        refine DX.takeW 4 31 (by kernel_rfl) rfl rfl rfl rfl rfl (yw_move rfl rfl) ?_
        refine DX.split (t := 132) (b := within f.id 1 1000000) rfl (fun d132 => ?_) (fun d132 => ?_)
        · refine DX.takeWG 5 63 (by kernel_rfl) rfl rfl rfl rfl rfl rfl rfl rfl (yw_fieldAddr rfl fld_33_7 rfl) ?_
          refine DX.takeG 6 127 (by kernel_rfl) rfl rfl rfl rfl rfl rfl rfl rfl (List.Sublist.cons_cons _ (List.Sublist.cons _ (List.Sublist.refl _))) (y_load (i := 1) rfl rfl one_3 rfl rfl) ?_
          refine DX.stepG 7 255 (by kernel_rfl) rfl rfl rfl rfl rfl rfl (op_callV (v := .bool (within f.recording 1 1000000)) rfl rfl rfl rfl rfl ent_36 (fun w _ => w_refId f.recording) (DXs.mk (List.Sublist.cons_cons _ (List.Sublist.cons _ (List.Sublist.refl _))) ?_))
          refine DX.takeW 8 511 (by kernel_rfl) rfl rfl rfl rfl rfl (yw_pickT rfl rfl rfl) ?_
          refine DX.takeW 9 1023 (by kernel_rfl) rfl rfl rfl rfl rfl (yw_move rfl rfl) ?_
          refine DX.split (t := 137) (b := within f.recording 1 1000000) rfl (fun d137 => ?_) (fun d137 => ?_)
          · refine DX.takeWG 10 2047 (by kernel_rfl) rfl rfl rfl rfl rfl rfl rfl rfl (yw_fieldAddr rfl fld_33_9 rfl) ?_
            refine DX.takeG 11 4095 (by kernel_rfl) rfl rfl rfl rfl rfl rfl rfl rfl (List.Sublist.cons_cons _ (List.Sublist.cons _ (List.Sublist.refl _))) (y_load (i := 1) rfl rfl one_3 rfl rfl) ?_
            refine DX.stepG 12 8191 (by kernel_rfl) rfl rfl rfl rfl rfl rfl (op_callV (v := .bool (within f.holder 1 1000000)) rfl rfl rfl rfl rfl ent_36 (fun w _ => w_refId f.holder) (DXs.mk (List.Sublist.cons_cons _ (List.Sublist.cons _ (List.Sublist.refl _))) ?_))
            refine DX.takeW 13 16383 (by kernel_rfl) rfl rfl rfl rfl rfl (yw_pickT rfl rfl rfl) ?_
            refine DX.takeW 14 32767 (by kernel_rfl) rfl rfl rfl rfl rfl (yw_move rfl rfl) ?_
            refine DX.split (t := 142) (b := within f.holder 1 1000000) rfl (fun d142 => ?_) (fun d142 => ?_)
            · refine DX.takeWG 15 65535 (by kernel_rfl) rfl rfl rfl rfl rfl rfl rfl rfl (yw_fieldAddr rfl fld_33_10 rfl) ?_
              refine DX.takeG 16 131071 (by kernel_rfl) rfl rfl rfl rfl rfl rfl rfl rfl (List.Sublist.cons_cons _ (List.Sublist.cons _ (List.Sublist.refl _))) (y_load (i := 1) rfl rfl one_3 rfl rfl) ?_
              refine DX.stepG 17 262143 (by kernel_rfl) rfl rfl rfl rfl rfl rfl (op_callV (v := .bool (within f.role 1 2)) rfl rfl rfl rfl rfl ent_27 (fun w _ => w_within f.role 1 2) (DXs.mk (List.Sublist.cons_cons _ (List.Sublist.cons _ (List.Sublist.refl _))) ?_))
              refine DX.takeW 18 524287 (by kernel_rfl) rfl rfl rfl rfl rfl (yw_pickT rfl rfl rfl) ?_
              refine DX.takeW 19 1048575 (by kernel_rfl) rfl rfl rfl rfl rfl (yw_move rfl rfl) ?_
              refine DX.split (t := 147) (b := within f.role 1 2) rfl (fun d147 => ?_) (fun d147 => ?_)
              · refine DX.takeWG 20 2097151 (by kernel_rfl) rfl rfl rfl rfl rfl rfl rfl rfl (yw_fieldAddr rfl fld_33_8 rfl) ?_
                refine DX.takeG 21 4194303 (by kernel_rfl) rfl rfl rfl rfl rfl rfl rfl rfl (List.Sublist.cons_cons _ (List.Sublist.cons _ (List.Sublist.refl _))) (y_load (i := 1) rfl rfl one_3 rfl rfl) ?_
                refine DX.stepG 22 8388607 (by kernel_rfl) rfl rfl rfl rfl rfl rfl (op_callV (v := .bool (within f.territory 1 255)) rfl rfl rfl rfl rfl ent_27 (fun w _ => w_within f.territory 1 255) (DXs.mk (List.Sublist.cons_cons _ (List.Sublist.cons _ (List.Sublist.refl _))) ?_))
                refine DX.takeW 23 16777215 (by kernel_rfl) rfl rfl rfl rfl rfl (yw_pickT rfl rfl rfl) ?_
                refine DX.takeW 24 33554431 (by kernel_rfl) rfl rfl rfl rfl rfl (yw_move rfl rfl) ?_
                refine DX.split (t := 152) (b := within f.territory 1 255) rfl (fun d152 => ?_) (fun d152 => ?_)
                · refine DX.takeWG 25 67108863 (by kernel_rfl) rfl rfl rfl rfl rfl rfl rfl rfl (yw_fieldAddr rfl fld_33_11 rfl) ?_
                  refine DX.takeG 26 134217727 (by kernel_rfl) rfl rfl rfl rfl rfl rfl rfl rfl (List.Sublist.cons_cons _ (List.Sublist.cons _ (List.Sublist.refl _))) (y_load (i := 1) rfl rfl one_3 rfl rfl) ?_
                  refine DX.takeWG 27 268435455 (by kernel_rfl) rfl rfl rfl rfl rfl rfl rfl rfl (yw_geq rfl rfl rfl) ?_
                  refine DX.takeW 28 536870911 (by kernel_rfl) rfl rfl rfl rfl rfl (yw_pickT rfl rfl rfl) ?_
                  refine DX.takeW 29 1073741823 (by kernel_rfl) rfl rfl rfl rfl rfl (yw_move rfl rfl) ?_
                  refine DX.splitD (t := 157) (p := 0 ≤ f.since) rfl (fun d157 => ?_) (fun d157 => ?_)
                  · refine DX.takeWG 30 2147483647 (by kernel_rfl) rfl rfl rfl rfl rfl rfl rfl rfl (yw_fieldAddr rfl fld_33_11 rfl) ?_
                    refine DX.takeG 31 4294967295 (by kernel_rfl) rfl rfl rfl rfl rfl rfl rfl rfl (List.Sublist.cons_cons _ (List.Sublist.cons _ (List.Sublist.refl _))) (y_load (i := 1) rfl rfl one_3 rfl rfl) ?_
                    refine DX.takeWG 32 8589934591 (by kernel_rfl) rfl rfl rfl rfl rfl rfl rfl rfl (yw_fieldAddr rfl fld_33_12 rfl) ?_
                    refine DX.takeG 33 17179869183 (by kernel_rfl) rfl rfl rfl rfl rfl rfl rfl rfl (List.Sublist.cons_cons _ (List.Sublist.cons _ (List.Sublist.refl _))) (y_load (i := 1) rfl rfl one_3 rfl rfl) ?_
                    refine DX.takeWG 34 34359738367 (by kernel_rfl) rfl rfl rfl rfl rfl rfl rfl rfl (yw_lss rfl rfl rfl) ?_
                    refine DX.takeW 35 68719476735 (by kernel_rfl) rfl rfl rfl rfl rfl (yw_pickT rfl rfl rfl) ?_
                    refine DX.takeW 36 137438953471 (by kernel_rfl) rfl rfl rfl rfl rfl (yw_move rfl rfl) ?_
                    refine DX.splitD (t := 164) (p := f.since < f.till) rfl (fun d164 => ?_) (fun d164 => ?_)
                    · refine DX.takeWG 37 274877906943 (by kernel_rfl) rfl rfl rfl rfl rfl rfl rfl rfl (yw_fieldAddr rfl fld_33_12 rfl) ?_
                      refine DX.takeG 38 549755813887 (by kernel_rfl) rfl rfl rfl rfl rfl rfl rfl rfl (List.Sublist.cons_cons _ (List.Sublist.cons _ (List.Sublist.refl _))) (y_load (i := 1) rfl rfl one_3 rfl rfl) ?_
                      refine DX.takeWG 39 1099511627775 (by kernel_rfl) rfl rfl rfl rfl rfl rfl rfl rfl (yw_leq rfl rfl rfl) ?_
                      refine DX.takeW 40 2199023255551 (by kernel_rfl) rfl rfl rfl rfl rfl (yw_pickT rfl rfl rfl) ?_
                      refine DX.takeW 41 4398046511103 (by kernel_rfl) rfl rfl rfl rfl rfl (yw_move rfl rfl) ?_
                      refine DX.splitD (t := 169) (p := f.till ≤ 1200) rfl (fun d169 => ?_) (fun d169 => ?_)
                      · refine DX.takeWG 42 8796093022207 (by kernel_rfl) rfl rfl rfl rfl rfl rfl rfl rfl (yw_fieldAddr rfl fld_33_14 rfl) ?_
                        refine DX.takeG 43 17592186044415 (by kernel_rfl) rfl rfl rfl rfl rfl rfl rfl rfl (List.Sublist.cons_cons _ (List.Sublist.cons _ (List.Sublist.refl _))) (y_load (i := 1) rfl rfl one_3 rfl rfl) ?_
                        refine DX.stepG 44 35184372088831 (by kernel_rfl) rfl rfl rfl rfl rfl rfl (op_callV (v := .bool (within f.share 0 1000000)) rfl rfl rfl rfl rfl ent_27 (fun w _ => w_within f.share 0 1000000) (DXs.mk (List.Sublist.cons_cons _ (List.Sublist.cons _ (List.Sublist.refl _))) ?_))
                        refine DX.takeW 45 70368744177663 (by kernel_rfl) rfl rfl rfl rfl rfl (yw_pickT rfl rfl rfl) ?_
                        refine DX.step 46 140737488355327 (by kernel_rfl) rfl rfl rfl (op_storeAll (i := 1) rfl rfl rfl rfl szt_33 rfl (plain_of rfl) rfl rfl (DXs.mk (List.Sublist.cons_cons _ (List.Sublist.cons _ (List.Sublist.refl _))) ?_))
                        refine DX.takeW 47 281474976710655 (by kernel_rfl) rfl rfl rfl rfl rfl (yw_assign rfl rfl) ?_
                        refine DX.done (by kernel_rfl) (XX.next (V' := [(2, .pointer (some ⟨g2, 0, none⟩)), (3, .bool (within f.share 0 1000000))]) ⟨rfl, rfl, trivial⟩ ?_)
                        refine CX.ret ?_
                        refine XX.block_ret ?_
                        refine XX.then_ret ?_
                        exact ret_cellT (i := 1) rfl rfl rfl agg_33 rfl rfl fun w1 hw => ⟨(({ kind := f.kind, id := f.id, version := f.version, period := 0, second := 0, account := 0, device := 0, recording := f.recording, territory := f.territory, holder := f.holder, role := f.role, since := f.since, till := f.till, amount := 0, share := f.share, currency := 0, mark := 0, text := .empty } : Fct), (within f.share 0 1000000)), fun h => absurd h c12, rfl, hw.sub (List.nil_sublist _)⟩
                      · refine DX.skip 42 8796093022207 (by kernel_rfl) rfl rfl rfl rfl rfl rfl rfl rfl ?_
                        refine DX.skip 43 17592186044415 (by kernel_rfl) rfl rfl rfl rfl rfl rfl rfl rfl ?_
                        refine DX.skip 44 35184372088831 (by kernel_rfl) rfl rfl rfl rfl rfl rfl rfl rfl ?_
                        refine DX.takeW 45 70368744177663 (by kernel_rfl) rfl rfl rfl rfl rfl (yw_pickF rfl rfl rfl) ?_
                        refine DX.step 46 140737488355327 (by kernel_rfl) rfl rfl rfl (op_storeAll (i := 1) rfl rfl rfl rfl szt_33 rfl (plain_of rfl) rfl rfl (DXs.mk (List.Sublist.cons_cons _ (List.Sublist.cons _ (List.Sublist.refl _))) ?_))
                        refine DX.takeW 47 281474976710655 (by kernel_rfl) rfl rfl rfl rfl rfl (yw_assign rfl rfl) ?_
                        refine DX.done (by kernel_rfl) (XX.next (V' := [(2, .pointer (some ⟨g2, 0, none⟩)), (3, .bool false)]) ⟨rfl, rfl, trivial⟩ ?_)
                        refine CX.ret ?_
                        refine XX.block_ret ?_
                        refine XX.then_ret ?_
                        exact ret_cellT (i := 1) rfl rfl rfl agg_33 rfl rfl fun w1 hw => ⟨(({ kind := f.kind, id := f.id, version := f.version, period := 0, second := 0, account := 0, device := 0, recording := f.recording, territory := f.territory, holder := f.holder, role := f.role, since := f.since, till := f.till, amount := 0, share := f.share, currency := 0, mark := 0, text := .empty } : Fct), false), fun h => absurd h c12, rfl, hw.sub (List.nil_sublist _)⟩
                    · refine DX.skip 37 274877906943 (by kernel_rfl) rfl rfl rfl rfl rfl rfl rfl rfl ?_
                      refine DX.skip 38 549755813887 (by kernel_rfl) rfl rfl rfl rfl rfl rfl rfl rfl ?_
                      refine DX.skip 39 1099511627775 (by kernel_rfl) rfl rfl rfl rfl rfl rfl rfl rfl ?_
                      refine DX.takeW 40 2199023255551 (by kernel_rfl) rfl rfl rfl rfl rfl (yw_pickF rfl rfl rfl) ?_
                      refine DX.takeW 41 4398046511103 (by kernel_rfl) rfl rfl rfl rfl rfl (yw_move rfl rfl) ?_
                      refine DX.skip 42 8796093022207 (by kernel_rfl) rfl rfl rfl rfl rfl rfl rfl rfl ?_
                      refine DX.skip 43 17592186044415 (by kernel_rfl) rfl rfl rfl rfl rfl rfl rfl rfl ?_
                      refine DX.skip 44 35184372088831 (by kernel_rfl) rfl rfl rfl rfl rfl rfl rfl rfl ?_
                      refine DX.takeW 45 70368744177663 (by kernel_rfl) rfl rfl rfl rfl rfl (yw_pickF rfl rfl rfl) ?_
                      refine DX.step 46 140737488355327 (by kernel_rfl) rfl rfl rfl (op_storeAll (i := 1) rfl rfl rfl rfl szt_33 rfl (plain_of rfl) rfl rfl (DXs.mk (List.Sublist.cons_cons _ (List.Sublist.cons _ (List.Sublist.refl _))) ?_))
                      refine DX.takeW 47 281474976710655 (by kernel_rfl) rfl rfl rfl rfl rfl (yw_assign rfl rfl) ?_
                      refine DX.done (by kernel_rfl) (XX.next (V' := [(2, .pointer (some ⟨g2, 0, none⟩)), (3, .bool false)]) ⟨rfl, rfl, trivial⟩ ?_)
                      refine CX.ret ?_
                      refine XX.block_ret ?_
                      refine XX.then_ret ?_
                      exact ret_cellT (i := 1) rfl rfl rfl agg_33 rfl rfl fun w1 hw => ⟨(({ kind := f.kind, id := f.id, version := f.version, period := 0, second := 0, account := 0, device := 0, recording := f.recording, territory := f.territory, holder := f.holder, role := f.role, since := f.since, till := f.till, amount := 0, share := f.share, currency := 0, mark := 0, text := .empty } : Fct), false), fun h => absurd h c12, rfl, hw.sub (List.nil_sublist _)⟩
                  · refine DX.skip 30 2147483647 (by kernel_rfl) rfl rfl rfl rfl rfl rfl rfl rfl ?_
                    refine DX.skip 31 4294967295 (by kernel_rfl) rfl rfl rfl rfl rfl rfl rfl rfl ?_
                    refine DX.skip 32 8589934591 (by kernel_rfl) rfl rfl rfl rfl rfl rfl rfl rfl ?_
                    refine DX.skip 33 17179869183 (by kernel_rfl) rfl rfl rfl rfl rfl rfl rfl rfl ?_
                    refine DX.skip 34 34359738367 (by kernel_rfl) rfl rfl rfl rfl rfl rfl rfl rfl ?_
                    refine DX.takeW 35 68719476735 (by kernel_rfl) rfl rfl rfl rfl rfl (yw_pickF rfl rfl rfl) ?_
                    refine DX.takeW 36 137438953471 (by kernel_rfl) rfl rfl rfl rfl rfl (yw_move rfl rfl) ?_
                    refine DX.skip 37 274877906943 (by kernel_rfl) rfl rfl rfl rfl rfl rfl rfl rfl ?_
                    refine DX.skip 38 549755813887 (by kernel_rfl) rfl rfl rfl rfl rfl rfl rfl rfl ?_
                    refine DX.skip 39 1099511627775 (by kernel_rfl) rfl rfl rfl rfl rfl rfl rfl rfl ?_
                    refine DX.takeW 40 2199023255551 (by kernel_rfl) rfl rfl rfl rfl rfl (yw_pickF rfl rfl rfl) ?_
                    refine DX.takeW 41 4398046511103 (by kernel_rfl) rfl rfl rfl rfl rfl (yw_move rfl rfl) ?_
                    refine DX.skip 42 8796093022207 (by kernel_rfl) rfl rfl rfl rfl rfl rfl rfl rfl ?_
                    refine DX.skip 43 17592186044415 (by kernel_rfl) rfl rfl rfl rfl rfl rfl rfl rfl ?_
                    refine DX.skip 44 35184372088831 (by kernel_rfl) rfl rfl rfl rfl rfl rfl rfl rfl ?_
                    refine DX.takeW 45 70368744177663 (by kernel_rfl) rfl rfl rfl rfl rfl (yw_pickF rfl rfl rfl) ?_
                    refine DX.step 46 140737488355327 (by kernel_rfl) rfl rfl rfl (op_storeAll (i := 1) rfl rfl rfl rfl szt_33 rfl (plain_of rfl) rfl rfl (DXs.mk (List.Sublist.cons_cons _ (List.Sublist.cons _ (List.Sublist.refl _))) ?_))
                    refine DX.takeW 47 281474976710655 (by kernel_rfl) rfl rfl rfl rfl rfl (yw_assign rfl rfl) ?_
                    refine DX.done (by kernel_rfl) (XX.next (V' := [(2, .pointer (some ⟨g2, 0, none⟩)), (3, .bool false)]) ⟨rfl, rfl, trivial⟩ ?_)
                    refine CX.ret ?_
                    refine XX.block_ret ?_
                    refine XX.then_ret ?_
                    exact ret_cellT (i := 1) rfl rfl rfl agg_33 rfl rfl fun w1 hw => ⟨(({ kind := f.kind, id := f.id, version := f.version, period := 0, second := 0, account := 0, device := 0, recording := f.recording, territory := f.territory, holder := f.holder, role := f.role, since := f.since, till := f.till, amount := 0, share := f.share, currency := 0, mark := 0, text := .empty } : Fct), false), fun h => absurd h c12, rfl, hw.sub (List.nil_sublist _)⟩
                · refine DX.skip 25 67108863 (by kernel_rfl) rfl rfl rfl rfl rfl rfl rfl rfl ?_
                  refine DX.skip 26 134217727 (by kernel_rfl) rfl rfl rfl rfl rfl rfl rfl rfl ?_
                  refine DX.skip 27 268435455 (by kernel_rfl) rfl rfl rfl rfl rfl rfl rfl rfl ?_
                  refine DX.takeW 28 536870911 (by kernel_rfl) rfl rfl rfl rfl rfl (yw_pickF rfl rfl rfl) ?_
                  refine DX.takeW 29 1073741823 (by kernel_rfl) rfl rfl rfl rfl rfl (yw_move rfl rfl) ?_
                  refine DX.skip 30 2147483647 (by kernel_rfl) rfl rfl rfl rfl rfl rfl rfl rfl ?_
                  refine DX.skip 31 4294967295 (by kernel_rfl) rfl rfl rfl rfl rfl rfl rfl rfl ?_
                  refine DX.skip 32 8589934591 (by kernel_rfl) rfl rfl rfl rfl rfl rfl rfl rfl ?_
                  refine DX.skip 33 17179869183 (by kernel_rfl) rfl rfl rfl rfl rfl rfl rfl rfl ?_
                  refine DX.skip 34 34359738367 (by kernel_rfl) rfl rfl rfl rfl rfl rfl rfl rfl ?_
                  refine DX.takeW 35 68719476735 (by kernel_rfl) rfl rfl rfl rfl rfl (yw_pickF rfl rfl rfl) ?_
                  refine DX.takeW 36 137438953471 (by kernel_rfl) rfl rfl rfl rfl rfl (yw_move rfl rfl) ?_
                  refine DX.skip 37 274877906943 (by kernel_rfl) rfl rfl rfl rfl rfl rfl rfl rfl ?_
                  refine DX.skip 38 549755813887 (by kernel_rfl) rfl rfl rfl rfl rfl rfl rfl rfl ?_
                  refine DX.skip 39 1099511627775 (by kernel_rfl) rfl rfl rfl rfl rfl rfl rfl rfl ?_
                  refine DX.takeW 40 2199023255551 (by kernel_rfl) rfl rfl rfl rfl rfl (yw_pickF rfl rfl rfl) ?_
                  refine DX.takeW 41 4398046511103 (by kernel_rfl) rfl rfl rfl rfl rfl (yw_move rfl rfl) ?_
                  refine DX.skip 42 8796093022207 (by kernel_rfl) rfl rfl rfl rfl rfl rfl rfl rfl ?_
                  refine DX.skip 43 17592186044415 (by kernel_rfl) rfl rfl rfl rfl rfl rfl rfl rfl ?_
                  refine DX.skip 44 35184372088831 (by kernel_rfl) rfl rfl rfl rfl rfl rfl rfl rfl ?_
                  refine DX.takeW 45 70368744177663 (by kernel_rfl) rfl rfl rfl rfl rfl (yw_pickF rfl rfl rfl) ?_
                  refine DX.step 46 140737488355327 (by kernel_rfl) rfl rfl rfl (op_storeAll (i := 1) rfl rfl rfl rfl szt_33 rfl (plain_of rfl) rfl rfl (DXs.mk (List.Sublist.cons_cons _ (List.Sublist.cons _ (List.Sublist.refl _))) ?_))
                  refine DX.takeW 47 281474976710655 (by kernel_rfl) rfl rfl rfl rfl rfl (yw_assign rfl rfl) ?_
                  refine DX.done (by kernel_rfl) (XX.next (V' := [(2, .pointer (some ⟨g2, 0, none⟩)), (3, .bool false)]) ⟨rfl, rfl, trivial⟩ ?_)
                  refine CX.ret ?_
                  refine XX.block_ret ?_
                  refine XX.then_ret ?_
                  exact ret_cellT (i := 1) rfl rfl rfl agg_33 rfl rfl fun w1 hw => ⟨(({ kind := f.kind, id := f.id, version := f.version, period := 0, second := 0, account := 0, device := 0, recording := f.recording, territory := f.territory, holder := f.holder, role := f.role, since := f.since, till := f.till, amount := 0, share := f.share, currency := 0, mark := 0, text := .empty } : Fct), false), fun h => absurd h c12, rfl, hw.sub (List.nil_sublist _)⟩
              · refine DX.skip 20 2097151 (by kernel_rfl) rfl rfl rfl rfl rfl rfl rfl rfl ?_
                refine DX.skip 21 4194303 (by kernel_rfl) rfl rfl rfl rfl rfl rfl rfl rfl ?_
                refine DX.skip 22 8388607 (by kernel_rfl) rfl rfl rfl rfl rfl rfl rfl rfl ?_
                refine DX.takeW 23 16777215 (by kernel_rfl) rfl rfl rfl rfl rfl (yw_pickF rfl rfl rfl) ?_
                refine DX.takeW 24 33554431 (by kernel_rfl) rfl rfl rfl rfl rfl (yw_move rfl rfl) ?_
                refine DX.skip 25 67108863 (by kernel_rfl) rfl rfl rfl rfl rfl rfl rfl rfl ?_
                refine DX.skip 26 134217727 (by kernel_rfl) rfl rfl rfl rfl rfl rfl rfl rfl ?_
                refine DX.skip 27 268435455 (by kernel_rfl) rfl rfl rfl rfl rfl rfl rfl rfl ?_
                refine DX.takeW 28 536870911 (by kernel_rfl) rfl rfl rfl rfl rfl (yw_pickF rfl rfl rfl) ?_
                refine DX.takeW 29 1073741823 (by kernel_rfl) rfl rfl rfl rfl rfl (yw_move rfl rfl) ?_
                refine DX.skip 30 2147483647 (by kernel_rfl) rfl rfl rfl rfl rfl rfl rfl rfl ?_
                refine DX.skip 31 4294967295 (by kernel_rfl) rfl rfl rfl rfl rfl rfl rfl rfl ?_
                refine DX.skip 32 8589934591 (by kernel_rfl) rfl rfl rfl rfl rfl rfl rfl rfl ?_
                refine DX.skip 33 17179869183 (by kernel_rfl) rfl rfl rfl rfl rfl rfl rfl rfl ?_
                refine DX.skip 34 34359738367 (by kernel_rfl) rfl rfl rfl rfl rfl rfl rfl rfl ?_
                refine DX.takeW 35 68719476735 (by kernel_rfl) rfl rfl rfl rfl rfl (yw_pickF rfl rfl rfl) ?_
                refine DX.takeW 36 137438953471 (by kernel_rfl) rfl rfl rfl rfl rfl (yw_move rfl rfl) ?_
                refine DX.skip 37 274877906943 (by kernel_rfl) rfl rfl rfl rfl rfl rfl rfl rfl ?_
                refine DX.skip 38 549755813887 (by kernel_rfl) rfl rfl rfl rfl rfl rfl rfl rfl ?_
                refine DX.skip 39 1099511627775 (by kernel_rfl) rfl rfl rfl rfl rfl rfl rfl rfl ?_
                refine DX.takeW 40 2199023255551 (by kernel_rfl) rfl rfl rfl rfl rfl (yw_pickF rfl rfl rfl) ?_
                refine DX.takeW 41 4398046511103 (by kernel_rfl) rfl rfl rfl rfl rfl (yw_move rfl rfl) ?_
                refine DX.skip 42 8796093022207 (by kernel_rfl) rfl rfl rfl rfl rfl rfl rfl rfl ?_
                refine DX.skip 43 17592186044415 (by kernel_rfl) rfl rfl rfl rfl rfl rfl rfl rfl ?_
                refine DX.skip 44 35184372088831 (by kernel_rfl) rfl rfl rfl rfl rfl rfl rfl rfl ?_
                refine DX.takeW 45 70368744177663 (by kernel_rfl) rfl rfl rfl rfl rfl (yw_pickF rfl rfl rfl) ?_
                refine DX.step 46 140737488355327 (by kernel_rfl) rfl rfl rfl (op_storeAll (i := 1) rfl rfl rfl rfl szt_33 rfl (plain_of rfl) rfl rfl (DXs.mk (List.Sublist.cons_cons _ (List.Sublist.cons _ (List.Sublist.refl _))) ?_))
                refine DX.takeW 47 281474976710655 (by kernel_rfl) rfl rfl rfl rfl rfl (yw_assign rfl rfl) ?_
                refine DX.done (by kernel_rfl) (XX.next (V' := [(2, .pointer (some ⟨g2, 0, none⟩)), (3, .bool false)]) ⟨rfl, rfl, trivial⟩ ?_)
                refine CX.ret ?_
                refine XX.block_ret ?_
                refine XX.then_ret ?_
                exact ret_cellT (i := 1) rfl rfl rfl agg_33 rfl rfl fun w1 hw => ⟨(({ kind := f.kind, id := f.id, version := f.version, period := 0, second := 0, account := 0, device := 0, recording := f.recording, territory := f.territory, holder := f.holder, role := f.role, since := f.since, till := f.till, amount := 0, share := f.share, currency := 0, mark := 0, text := .empty } : Fct), false), fun h => absurd h c12, rfl, hw.sub (List.nil_sublist _)⟩
            · refine DX.skip 15 65535 (by kernel_rfl) rfl rfl rfl rfl rfl rfl rfl rfl ?_
              refine DX.skip 16 131071 (by kernel_rfl) rfl rfl rfl rfl rfl rfl rfl rfl ?_
              refine DX.skip 17 262143 (by kernel_rfl) rfl rfl rfl rfl rfl rfl rfl rfl ?_
              refine DX.takeW 18 524287 (by kernel_rfl) rfl rfl rfl rfl rfl (yw_pickF rfl rfl rfl) ?_
              refine DX.takeW 19 1048575 (by kernel_rfl) rfl rfl rfl rfl rfl (yw_move rfl rfl) ?_
              refine DX.skip 20 2097151 (by kernel_rfl) rfl rfl rfl rfl rfl rfl rfl rfl ?_
              refine DX.skip 21 4194303 (by kernel_rfl) rfl rfl rfl rfl rfl rfl rfl rfl ?_
              refine DX.skip 22 8388607 (by kernel_rfl) rfl rfl rfl rfl rfl rfl rfl rfl ?_
              refine DX.takeW 23 16777215 (by kernel_rfl) rfl rfl rfl rfl rfl (yw_pickF rfl rfl rfl) ?_
              refine DX.takeW 24 33554431 (by kernel_rfl) rfl rfl rfl rfl rfl (yw_move rfl rfl) ?_
              refine DX.skip 25 67108863 (by kernel_rfl) rfl rfl rfl rfl rfl rfl rfl rfl ?_
              refine DX.skip 26 134217727 (by kernel_rfl) rfl rfl rfl rfl rfl rfl rfl rfl ?_
              refine DX.skip 27 268435455 (by kernel_rfl) rfl rfl rfl rfl rfl rfl rfl rfl ?_
              refine DX.takeW 28 536870911 (by kernel_rfl) rfl rfl rfl rfl rfl (yw_pickF rfl rfl rfl) ?_
              refine DX.takeW 29 1073741823 (by kernel_rfl) rfl rfl rfl rfl rfl (yw_move rfl rfl) ?_
              refine DX.skip 30 2147483647 (by kernel_rfl) rfl rfl rfl rfl rfl rfl rfl rfl ?_
              refine DX.skip 31 4294967295 (by kernel_rfl) rfl rfl rfl rfl rfl rfl rfl rfl ?_
              refine DX.skip 32 8589934591 (by kernel_rfl) rfl rfl rfl rfl rfl rfl rfl rfl ?_
              refine DX.skip 33 17179869183 (by kernel_rfl) rfl rfl rfl rfl rfl rfl rfl rfl ?_
              refine DX.skip 34 34359738367 (by kernel_rfl) rfl rfl rfl rfl rfl rfl rfl rfl ?_
              refine DX.takeW 35 68719476735 (by kernel_rfl) rfl rfl rfl rfl rfl (yw_pickF rfl rfl rfl) ?_
              refine DX.takeW 36 137438953471 (by kernel_rfl) rfl rfl rfl rfl rfl (yw_move rfl rfl) ?_
              refine DX.skip 37 274877906943 (by kernel_rfl) rfl rfl rfl rfl rfl rfl rfl rfl ?_
              refine DX.skip 38 549755813887 (by kernel_rfl) rfl rfl rfl rfl rfl rfl rfl rfl ?_
              refine DX.skip 39 1099511627775 (by kernel_rfl) rfl rfl rfl rfl rfl rfl rfl rfl ?_
              refine DX.takeW 40 2199023255551 (by kernel_rfl) rfl rfl rfl rfl rfl (yw_pickF rfl rfl rfl) ?_
              refine DX.takeW 41 4398046511103 (by kernel_rfl) rfl rfl rfl rfl rfl (yw_move rfl rfl) ?_
              refine DX.skip 42 8796093022207 (by kernel_rfl) rfl rfl rfl rfl rfl rfl rfl rfl ?_
              refine DX.skip 43 17592186044415 (by kernel_rfl) rfl rfl rfl rfl rfl rfl rfl rfl ?_
              refine DX.skip 44 35184372088831 (by kernel_rfl) rfl rfl rfl rfl rfl rfl rfl rfl ?_
              refine DX.takeW 45 70368744177663 (by kernel_rfl) rfl rfl rfl rfl rfl (yw_pickF rfl rfl rfl) ?_
              refine DX.step 46 140737488355327 (by kernel_rfl) rfl rfl rfl (op_storeAll (i := 1) rfl rfl rfl rfl szt_33 rfl (plain_of rfl) rfl rfl (DXs.mk (List.Sublist.cons_cons _ (List.Sublist.cons _ (List.Sublist.refl _))) ?_))
              refine DX.takeW 47 281474976710655 (by kernel_rfl) rfl rfl rfl rfl rfl (yw_assign rfl rfl) ?_
              refine DX.done (by kernel_rfl) (XX.next (V' := [(2, .pointer (some ⟨g2, 0, none⟩)), (3, .bool false)]) ⟨rfl, rfl, trivial⟩ ?_)
              refine CX.ret ?_
              refine XX.block_ret ?_
              refine XX.then_ret ?_
              exact ret_cellT (i := 1) rfl rfl rfl agg_33 rfl rfl fun w1 hw => ⟨(({ kind := f.kind, id := f.id, version := f.version, period := 0, second := 0, account := 0, device := 0, recording := f.recording, territory := f.territory, holder := f.holder, role := f.role, since := f.since, till := f.till, amount := 0, share := f.share, currency := 0, mark := 0, text := .empty } : Fct), false), fun h => absurd h c12, rfl, hw.sub (List.nil_sublist _)⟩
          · refine DX.skip 10 2047 (by kernel_rfl) rfl rfl rfl rfl rfl rfl rfl rfl ?_
            refine DX.skip 11 4095 (by kernel_rfl) rfl rfl rfl rfl rfl rfl rfl rfl ?_
            refine DX.skip 12 8191 (by kernel_rfl) rfl rfl rfl rfl rfl rfl rfl rfl ?_
            refine DX.takeW 13 16383 (by kernel_rfl) rfl rfl rfl rfl rfl (yw_pickF rfl rfl rfl) ?_
            refine DX.takeW 14 32767 (by kernel_rfl) rfl rfl rfl rfl rfl (yw_move rfl rfl) ?_
            refine DX.skip 15 65535 (by kernel_rfl) rfl rfl rfl rfl rfl rfl rfl rfl ?_
            refine DX.skip 16 131071 (by kernel_rfl) rfl rfl rfl rfl rfl rfl rfl rfl ?_
            refine DX.skip 17 262143 (by kernel_rfl) rfl rfl rfl rfl rfl rfl rfl rfl ?_
            refine DX.takeW 18 524287 (by kernel_rfl) rfl rfl rfl rfl rfl (yw_pickF rfl rfl rfl) ?_
            refine DX.takeW 19 1048575 (by kernel_rfl) rfl rfl rfl rfl rfl (yw_move rfl rfl) ?_
            refine DX.skip 20 2097151 (by kernel_rfl) rfl rfl rfl rfl rfl rfl rfl rfl ?_
            refine DX.skip 21 4194303 (by kernel_rfl) rfl rfl rfl rfl rfl rfl rfl rfl ?_
            refine DX.skip 22 8388607 (by kernel_rfl) rfl rfl rfl rfl rfl rfl rfl rfl ?_
            refine DX.takeW 23 16777215 (by kernel_rfl) rfl rfl rfl rfl rfl (yw_pickF rfl rfl rfl) ?_
            refine DX.takeW 24 33554431 (by kernel_rfl) rfl rfl rfl rfl rfl (yw_move rfl rfl) ?_
            refine DX.skip 25 67108863 (by kernel_rfl) rfl rfl rfl rfl rfl rfl rfl rfl ?_
            refine DX.skip 26 134217727 (by kernel_rfl) rfl rfl rfl rfl rfl rfl rfl rfl ?_
            refine DX.skip 27 268435455 (by kernel_rfl) rfl rfl rfl rfl rfl rfl rfl rfl ?_
            refine DX.takeW 28 536870911 (by kernel_rfl) rfl rfl rfl rfl rfl (yw_pickF rfl rfl rfl) ?_
            refine DX.takeW 29 1073741823 (by kernel_rfl) rfl rfl rfl rfl rfl (yw_move rfl rfl) ?_
            refine DX.skip 30 2147483647 (by kernel_rfl) rfl rfl rfl rfl rfl rfl rfl rfl ?_
            refine DX.skip 31 4294967295 (by kernel_rfl) rfl rfl rfl rfl rfl rfl rfl rfl ?_
            refine DX.skip 32 8589934591 (by kernel_rfl) rfl rfl rfl rfl rfl rfl rfl rfl ?_
            refine DX.skip 33 17179869183 (by kernel_rfl) rfl rfl rfl rfl rfl rfl rfl rfl ?_
            refine DX.skip 34 34359738367 (by kernel_rfl) rfl rfl rfl rfl rfl rfl rfl rfl ?_
            refine DX.takeW 35 68719476735 (by kernel_rfl) rfl rfl rfl rfl rfl (yw_pickF rfl rfl rfl) ?_
            refine DX.takeW 36 137438953471 (by kernel_rfl) rfl rfl rfl rfl rfl (yw_move rfl rfl) ?_
            refine DX.skip 37 274877906943 (by kernel_rfl) rfl rfl rfl rfl rfl rfl rfl rfl ?_
            refine DX.skip 38 549755813887 (by kernel_rfl) rfl rfl rfl rfl rfl rfl rfl rfl ?_
            refine DX.skip 39 1099511627775 (by kernel_rfl) rfl rfl rfl rfl rfl rfl rfl rfl ?_
            refine DX.takeW 40 2199023255551 (by kernel_rfl) rfl rfl rfl rfl rfl (yw_pickF rfl rfl rfl) ?_
            refine DX.takeW 41 4398046511103 (by kernel_rfl) rfl rfl rfl rfl rfl (yw_move rfl rfl) ?_
            refine DX.skip 42 8796093022207 (by kernel_rfl) rfl rfl rfl rfl rfl rfl rfl rfl ?_
            refine DX.skip 43 17592186044415 (by kernel_rfl) rfl rfl rfl rfl rfl rfl rfl rfl ?_
            refine DX.skip 44 35184372088831 (by kernel_rfl) rfl rfl rfl rfl rfl rfl rfl rfl ?_
            refine DX.takeW 45 70368744177663 (by kernel_rfl) rfl rfl rfl rfl rfl (yw_pickF rfl rfl rfl) ?_
            refine DX.step 46 140737488355327 (by kernel_rfl) rfl rfl rfl (op_storeAll (i := 1) rfl rfl rfl rfl szt_33 rfl (plain_of rfl) rfl rfl (DXs.mk (List.Sublist.cons_cons _ (List.Sublist.cons _ (List.Sublist.refl _))) ?_))
            refine DX.takeW 47 281474976710655 (by kernel_rfl) rfl rfl rfl rfl rfl (yw_assign rfl rfl) ?_
            refine DX.done (by kernel_rfl) (XX.next (V' := [(2, .pointer (some ⟨g2, 0, none⟩)), (3, .bool false)]) ⟨rfl, rfl, trivial⟩ ?_)
            refine CX.ret ?_
            refine XX.block_ret ?_
            refine XX.then_ret ?_
            exact ret_cellT (i := 1) rfl rfl rfl agg_33 rfl rfl fun w1 hw => ⟨(({ kind := f.kind, id := f.id, version := f.version, period := 0, second := 0, account := 0, device := 0, recording := f.recording, territory := f.territory, holder := f.holder, role := f.role, since := f.since, till := f.till, amount := 0, share := f.share, currency := 0, mark := 0, text := .empty } : Fct), false), fun h => absurd h c12, rfl, hw.sub (List.nil_sublist _)⟩
        · refine DX.skip 5 63 (by kernel_rfl) rfl rfl rfl rfl rfl rfl rfl rfl ?_
          refine DX.skip 6 127 (by kernel_rfl) rfl rfl rfl rfl rfl rfl rfl rfl ?_
          refine DX.skip 7 255 (by kernel_rfl) rfl rfl rfl rfl rfl rfl rfl rfl ?_
          refine DX.takeW 8 511 (by kernel_rfl) rfl rfl rfl rfl rfl (yw_pickF rfl rfl rfl) ?_
          refine DX.takeW 9 1023 (by kernel_rfl) rfl rfl rfl rfl rfl (yw_move rfl rfl) ?_
          refine DX.skip 10 2047 (by kernel_rfl) rfl rfl rfl rfl rfl rfl rfl rfl ?_
          refine DX.skip 11 4095 (by kernel_rfl) rfl rfl rfl rfl rfl rfl rfl rfl ?_
          refine DX.skip 12 8191 (by kernel_rfl) rfl rfl rfl rfl rfl rfl rfl rfl ?_
          refine DX.takeW 13 16383 (by kernel_rfl) rfl rfl rfl rfl rfl (yw_pickF rfl rfl rfl) ?_
          refine DX.takeW 14 32767 (by kernel_rfl) rfl rfl rfl rfl rfl (yw_move rfl rfl) ?_
          refine DX.skip 15 65535 (by kernel_rfl) rfl rfl rfl rfl rfl rfl rfl rfl ?_
          refine DX.skip 16 131071 (by kernel_rfl) rfl rfl rfl rfl rfl rfl rfl rfl ?_
          refine DX.skip 17 262143 (by kernel_rfl) rfl rfl rfl rfl rfl rfl rfl rfl ?_
          refine DX.takeW 18 524287 (by kernel_rfl) rfl rfl rfl rfl rfl (yw_pickF rfl rfl rfl) ?_
          refine DX.takeW 19 1048575 (by kernel_rfl) rfl rfl rfl rfl rfl (yw_move rfl rfl) ?_
          refine DX.skip 20 2097151 (by kernel_rfl) rfl rfl rfl rfl rfl rfl rfl rfl ?_
          refine DX.skip 21 4194303 (by kernel_rfl) rfl rfl rfl rfl rfl rfl rfl rfl ?_
          refine DX.skip 22 8388607 (by kernel_rfl) rfl rfl rfl rfl rfl rfl rfl rfl ?_
          refine DX.takeW 23 16777215 (by kernel_rfl) rfl rfl rfl rfl rfl (yw_pickF rfl rfl rfl) ?_
          refine DX.takeW 24 33554431 (by kernel_rfl) rfl rfl rfl rfl rfl (yw_move rfl rfl) ?_
          refine DX.skip 25 67108863 (by kernel_rfl) rfl rfl rfl rfl rfl rfl rfl rfl ?_
          refine DX.skip 26 134217727 (by kernel_rfl) rfl rfl rfl rfl rfl rfl rfl rfl ?_
          refine DX.skip 27 268435455 (by kernel_rfl) rfl rfl rfl rfl rfl rfl rfl rfl ?_
          refine DX.takeW 28 536870911 (by kernel_rfl) rfl rfl rfl rfl rfl (yw_pickF rfl rfl rfl) ?_
          refine DX.takeW 29 1073741823 (by kernel_rfl) rfl rfl rfl rfl rfl (yw_move rfl rfl) ?_
          refine DX.skip 30 2147483647 (by kernel_rfl) rfl rfl rfl rfl rfl rfl rfl rfl ?_
          refine DX.skip 31 4294967295 (by kernel_rfl) rfl rfl rfl rfl rfl rfl rfl rfl ?_
          refine DX.skip 32 8589934591 (by kernel_rfl) rfl rfl rfl rfl rfl rfl rfl rfl ?_
          refine DX.skip 33 17179869183 (by kernel_rfl) rfl rfl rfl rfl rfl rfl rfl rfl ?_
          refine DX.skip 34 34359738367 (by kernel_rfl) rfl rfl rfl rfl rfl rfl rfl rfl ?_
          refine DX.takeW 35 68719476735 (by kernel_rfl) rfl rfl rfl rfl rfl (yw_pickF rfl rfl rfl) ?_
          refine DX.takeW 36 137438953471 (by kernel_rfl) rfl rfl rfl rfl rfl (yw_move rfl rfl) ?_
          refine DX.skip 37 274877906943 (by kernel_rfl) rfl rfl rfl rfl rfl rfl rfl rfl ?_
          refine DX.skip 38 549755813887 (by kernel_rfl) rfl rfl rfl rfl rfl rfl rfl rfl ?_
          refine DX.skip 39 1099511627775 (by kernel_rfl) rfl rfl rfl rfl rfl rfl rfl rfl ?_
          refine DX.takeW 40 2199023255551 (by kernel_rfl) rfl rfl rfl rfl rfl (yw_pickF rfl rfl rfl) ?_
          refine DX.takeW 41 4398046511103 (by kernel_rfl) rfl rfl rfl rfl rfl (yw_move rfl rfl) ?_
          refine DX.skip 42 8796093022207 (by kernel_rfl) rfl rfl rfl rfl rfl rfl rfl rfl ?_
          refine DX.skip 43 17592186044415 (by kernel_rfl) rfl rfl rfl rfl rfl rfl rfl rfl ?_
          refine DX.skip 44 35184372088831 (by kernel_rfl) rfl rfl rfl rfl rfl rfl rfl rfl ?_
          refine DX.takeW 45 70368744177663 (by kernel_rfl) rfl rfl rfl rfl rfl (yw_pickF rfl rfl rfl) ?_
          refine DX.step 46 140737488355327 (by kernel_rfl) rfl rfl rfl (op_storeAll (i := 1) rfl rfl rfl rfl szt_33 rfl (plain_of rfl) rfl rfl (DXs.mk (List.Sublist.cons_cons _ (List.Sublist.cons _ (List.Sublist.refl _))) ?_))
          refine DX.takeW 47 281474976710655 (by kernel_rfl) rfl rfl rfl rfl rfl (yw_assign rfl rfl) ?_
          refine DX.done (by kernel_rfl) (XX.next (V' := [(2, .pointer (some ⟨g2, 0, none⟩)), (3, .bool false)]) ⟨rfl, rfl, trivial⟩ ?_)
          refine CX.ret ?_
          refine XX.block_ret ?_
          refine XX.then_ret ?_
          exact ret_cellT (i := 1) rfl rfl rfl agg_33 rfl rfl fun w1 hw => ⟨(({ kind := f.kind, id := f.id, version := f.version, period := 0, second := 0, account := 0, device := 0, recording := f.recording, territory := f.territory, holder := f.holder, role := f.role, since := f.since, till := f.till, amount := 0, share := f.share, currency := 0, mark := 0, text := .empty } : Fct), false), fun h => absurd h c12, rfl, hw.sub (List.nil_sublist _)⟩
      · exfalso; omega

set_option maxRecDepth 100000 in
theorem w_fields4 {w : World} (f : Fct) (hx : f.text.size ≤ 9223372036854775807) (hk : f.kind = 4) :
    Calls Tryd.prog 26 #[.agg (Fct.cells f)] w (fun e w' => ∃ x : Fct × Bool, (f.kind = 1 → x.1 = playOf f ∧ x.2 = playOk f) ∧ e = .returned (.tuple #[.agg (Fct.cells x.1), .bool x.2]) ∧ SL w [] w' []) := by
  refine calls_of_CX (O := []) (L := []) (args := [.agg (Fct.cells f)]) Tryd.func26 rfl (by simp [Tryd.ntmps26]) (SL.refl w) ?_
  refine CX.sub (V' := [(0, .agg (Fct.cells f))]) ⟨rfl, trivial⟩ ?_
  refine CX.seq ?_
  refine CX.region ?_
  refine RX.cons rfl rfl (op_box rfl rfl rfl rfl fun g1 => ?_)
  refine RX.cons rfl rfl (op_alloc rfl rfl rfl zero_33 fun g2 => ?_)
  refine RX.cons rfl rfl (op_w (yw_assign rfl rfl) rfl rfl ?_)
  refine RX.nil (XX.next (V' := [(1, .pointer (some ⟨g1, 0, none⟩)), (2, .pointer (some ⟨g2, 0, none⟩))]) ⟨rfl, rfl, trivial⟩ ?_)
  refine CX.seq ?_
  refine CX.region ?_
  refine RX.cons rfl rfl (op_w (yw_field0 rfl fld_33_0 rfl) rfl rfl ?_)
  refine RX.cons rfl rfl (op_yld (y_load (i := 1) rfl rfl one_3 rfl rfl) rfl rfl ?_)
  refine RX.cons rfl rfl (op_w (yw_fieldAddr rfl fld_33_2 rfl) rfl rfl ?_)
  refine RX.cons rfl rfl (op_yld (y_load (i := 1) rfl rfl one_3 rfl rfl) rfl rfl ?_)
  refine RX.cons rfl rfl (op_w (yw_build (v := .agg (#[.int .i64 f.kind, .int .i64 0, .int .i64 f.version, .int .i64 0, .int .i64 0, .int .i64 0, .int .i64 0, .int .i64 0, .int .i64 0, .int .i64 0, .int .i64 0, .int .i64 0, .int .i64 0, .int .i64 0, .int .i64 0, .int .i64 0, .int .i64 0, .string .empty])) rfl rfl (fun _ => by kernel_rfl)) rfl rfl ?_)
  refine RX.cons rfl rfl (op_alloc rfl rfl rfl zero_33 fun g3 => ?_)
  refine RX.cons rfl rfl (op_storeAll (i := 0) rfl rfl rfl rfl szt_33 rfl (plain_of rfl) rfl rfl ?_)
  refine RX.nil (XX.next (V' := [(1, .pointer (some ⟨g1, 0, none⟩)), (2, .pointer (some ⟨g2, 0, none⟩)), (4, .pointer (some ⟨g3, 0, none⟩))]) ⟨rfl, rfl, rfl, trivial⟩ ?_)
  refine CX.seq ?_
  refine CX.seq ?_
  refine CX.region ?_
  refine RX.cons rfl rfl (op_w (yw_field0 rfl fld_33_0 rfl) rfl rfl ?_)
  refine RX.cons rfl rfl (op_yld (y_load (i := 2) rfl rfl one_3 rfl rfl) rfl rfl ?_)
  refine RX.nil (XX.next (V' := [(1, .pointer (some ⟨g1, 0, none⟩)), (2, .pointer (some ⟨g2, 0, none⟩)), (4, .pointer (some ⟨g3, 0, none⟩)), (11, .int .i64 f.kind)]) ⟨rfl, rfl, rfl, rfl, trivial⟩ ?_)
  refine CX.block ?_
  refine CX.seq ?_
  refine CX.region ?_
  refine RX.cons rfl rfl (op_w (yw_eql rfl rfl rfl) rfl rfl ?_)
  refine RX.cons rfl rfl (op_w (yw_assign rfl rfl) rfl rfl ?_)
  refine RX.nil (XX.next (V' := [(1, .pointer (some ⟨g1, 0, none⟩)), (2, .pointer (some ⟨g2, 0, none⟩)), (4, .pointer (some ⟨g3, 0, none⟩)), (11, .int .i64 f.kind), (12, .bool (decide (f.kind = 1)))]) ⟨rfl, rfl, rfl, rfl, rfl, trivial⟩ ?_)
  refine CX.condD (p := f.kind = 1) rfl (fun c12 => ?_) (fun c12 => ?_)
  · exfalso; omega
  · refine CX.seq ?_
    refine CX.region ?_
    refine RX.cons rfl rfl (op_w (yw_eql rfl rfl rfl) rfl rfl ?_)
    refine RX.cons rfl rfl (op_w (yw_assign rfl rfl) rfl rfl ?_)
    refine RX.nil (XX.next (V' := [(1, .pointer (some ⟨g1, 0, none⟩)), (2, .pointer (some ⟨g2, 0, none⟩)), (4, .pointer (some ⟨g3, 0, none⟩)), (11, .int .i64 f.kind), (77, .bool (decide (f.kind = 2)))]) ⟨rfl, rfl, rfl, rfl, rfl, trivial⟩ ?_)
    refine CX.condD (p := f.kind = 2) rfl (fun c77 => ?_) (fun c77 => ?_)
    · exfalso; omega
    · refine CX.seq ?_
      refine CX.region ?_
      refine RX.cons rfl rfl (op_w (yw_eql rfl rfl rfl) rfl rfl ?_)
      refine RX.cons rfl rfl (op_w (yw_assign rfl rfl) rfl rfl ?_)
      refine RX.nil (XX.next (V' := [(1, .pointer (some ⟨g1, 0, none⟩)), (2, .pointer (some ⟨g2, 0, none⟩)), (4, .pointer (some ⟨g3, 0, none⟩)), (11, .int .i64 f.kind), (102, .bool (decide (f.kind = 3)))]) ⟨rfl, rfl, rfl, rfl, rfl, trivial⟩ ?_)
      refine CX.condD (p := f.kind = 3) rfl (fun c102 => ?_) (fun c102 => ?_)
      · exfalso; omega
      · refine CX.seq ?_
        refine CX.region ?_
        refine RX.cons rfl rfl (op_w (yw_eql rfl rfl rfl) rfl rfl ?_)
        refine RX.cons rfl rfl (op_w (yw_assign rfl rfl) rfl rfl ?_)
        refine RX.nil (XX.next (V' := [(1, .pointer (some ⟨g1, 0, none⟩)), (2, .pointer (some ⟨g2, 0, none⟩)), (4, .pointer (some ⟨g3, 0, none⟩)), (11, .int .i64 f.kind), (174, .bool (decide (f.kind = 4)))]) ⟨rfl, rfl, rfl, rfl, rfl, trivial⟩ ?_)
        refine CX.condD (p := f.kind = 4) rfl (fun c174 => ?_) (fun c174 => ?_)
        · refine CX.seq ?_
          refine CX.drawL 12 ([.blk g1 (.cells (Fct.cells f) 33 (0, 0))]) (by kernel_rfl) ?_
          refine DX.takeW 0 1 (by kernel_rfl) rfl rfl rfl rfl rfl (yw_fieldAddr rfl fld_33_9 rfl) ?_
          refine DX.take 1 3 (by kernel_rfl) rfl rfl rfl rfl rfl (List.Sublist.cons _ (List.Sublist.cons _ (List.Sublist.refl _))) (y_load (i := 0) rfl rfl one_3 rfl rfl) ?_
          refine DX.takeW 2 7 (by kernel_rfl) rfl rfl rfl rfl rfl (yw_fieldAddr rfl fld_33_11 rfl) ?_
          refine DX.take 3 15 (by kernel_rfl) rfl rfl rfl rfl rfl (List.Sublist.cons _ (List.Sublist.cons _ (List.Sublist.refl _))) (y_load (i := 0) rfl rfl one_3 rfl rfl) ?_
          refine DX.takeW 4 31 (by kernel_rfl) rfl rfl rfl rfl rfl (yw_fieldAddr rfl fld_33_17 rfl) ?_
          refine DX.take 5 63 (by kernel_rfl) rfl rfl rfl rfl rfl (List.Sublist.cons _ (List.Sublist.cons _ (List.Sublist.refl _))) (y_load (i := 0) rfl rfl one_9 rfl rfl) ?_
          refine DX.takeW 6 127 (by kernel_rfl) rfl rfl rfl rfl rfl (yw_fieldAddr rfl fld_33_9 rfl) ?_
          refine DX.step 7 255 (by kernel_rfl) rfl rfl rfl (op_store1 (i := 0) (cs' := #[.int .i64 f.kind, .int .i64 0, .int .i64 f.version, .int .i64 0, .int .i64 0, .int .i64 0, .int .i64 0, .int .i64 0, .int .i64 0, .int .i64 f.holder, .int .i64 0, .int .i64 0, .int .i64 0, .int .i64 0, .int .i64 0, .int .i64 0, .int .i64 0, .string .empty]) rfl rfl rfl rfl szt_3 rfl rfl rfl rfl (DXs.mk (List.Sublist.cons _ (List.Sublist.cons _ (List.Sublist.refl _))) ?_))
          refine DX.takeW 8 511 (by kernel_rfl) rfl rfl rfl rfl rfl (yw_fieldAddr rfl fld_33_11 rfl) ?_
          refine DX.step 9 1023 (by kernel_rfl) rfl rfl rfl (op_store1 (i := 0) (cs' := #[.int .i64 f.kind, .int .i64 0, .int .i64 f.version, .int .i64 0, .int .i64 0, .int .i64 0, .int .i64 0, .int .i64 0, .int .i64 0, .int .i64 f.holder, .int .i64 0, .int .i64 f.since, .int .i64 0, .int .i64 0, .int .i64 0, .int .i64 0, .int .i64 0, .string .empty]) rfl rfl rfl rfl szt_3 rfl rfl rfl rfl (DXs.mk (List.Sublist.cons _ (List.Sublist.cons _ (List.Sublist.refl _))) ?_))
          refine DX.takeW 10 2047 (by kernel_rfl) rfl rfl rfl rfl rfl (yw_fieldAddr rfl fld_33_17 rfl) ?_
          refine DX.step 11 4095 (by kernel_rfl) rfl rfl rfl (op_store1 (i := 0) (cs' := #[.int .i64 f.kind, .int .i64 0, .int .i64 f.version, .int .i64 0, .int .i64 0, .int .i64 0, .int .i64 0, .int .i64 0, .int .i64 0, .int .i64 f.holder, .int .i64 0, .int .i64 f.since, .int .i64 0, .int .i64 0, .int .i64 0, .int .i64 0, .int .i64 0, .string f.text]) rfl rfl rfl rfl szt_9 rfl rfl rfl rfl (DXs.mk (List.Sublist.cons _ (List.Sublist.cons _ (List.Sublist.refl _))) ?_))
          refine DX.done (by kernel_rfl) (XX.next (V' := [(1, .pointer (some ⟨g1, 0, none⟩)), (2, .pointer (some ⟨g2, 0, none⟩)), (4, .pointer (some ⟨g3, 0, none⟩))]) ⟨rfl, rfl, rfl, trivial⟩ ?_)
          refine CX.seq ?_
          refine CX.drawL 17 ([.blk g3 (.cells (#[.int .i64 f.kind, .int .i64 0, .int .i64 f.version, .int .i64 0, .int .i64 0, .int .i64 0, .int .i64 0, .int .i64 0, .int .i64 0, .int .i64 f.holder, .int .i64 0, .int .i64 f.since, .int .i64 0, .int .i64 0, .int .i64 0, .int .i64 0, .int .i64 0, .string f.text]) 33 (0, 0)), .blk g1 (.cells (Fct.cells f) 33 (0, 0))]) (by kernel_rfl) ?_
          refine DX.take 0 1 (by kernel_rfl) rfl rfl rfl rfl rfl (List.Sublist.cons_cons _ (List.Sublist.cons _ (List.Sublist.refl _))) (y_loadA (i := 0) rfl rfl agg_33 rfl rfl) ?_
          refine DX.takeW 1 3 (by kernel_rfl) rfl rfl rfl rfl rfl (yw_fieldAddr rfl fld_33_9 rfl) ?_
          refine DX.take 2 7 (by kernel_rfl) rfl rfl rfl rfl rfl (List.Sublist.cons_cons _ (List.Sublist.cons _ (List.Sublist.refl _))) (y_load (i := 1) rfl rfl one_3 rfl rfl) ?_
          refine DX.step 3 15 (by kernel_rfl) rfl rfl rfl (op_callV (v := .bool (within f.holder 1 1000000)) rfl rfl rfl rfl rfl ent_36 (fun w _ => w_refId f.holder) (DXs.mk (List.Sublist.cons_cons _ (List.Sublist.cons _ (List.Sublist.refl _))) ?_))
          refine DX.takeW 4 31 (by kernel_rfl) rfl rfl rfl rfl rfl (yw_move rfl rfl) ?_
          refine DX.split (t := 189) (b := within f.holder 1 1000000) rfl (fun d189 => ?_) (fun d189 => ?_)
          · refine DX.takeWG 5 63 (by kernel_rfl) rfl rfl rfl rfl rfl rfl rfl rfl (yw_fieldAddr rfl fld_33_11 rfl) ?_
            refine DX.takeG 6 127 (by kernel_rfl) rfl rfl rfl rfl rfl rfl rfl rfl (List.Sublist.cons_cons _ (List.Sublist.cons _ (List.Sublist.refl _))) (y_load (i := 1) rfl rfl one_3 rfl rfl) ?_
            refine DX.stepG 7 255 (by kernel_rfl) rfl rfl rfl rfl rfl rfl (op_callV (v := .bool (within f.since 0 1199)) rfl rfl rfl rfl rfl ent_38 (fun w _ => w_refPeriod f.since) (DXs.mk (List.Sublist.cons_cons _ (List.Sublist.cons _ (List.Sublist.refl _))) ?_))
            refine DX.takeW 8 511 (by kernel_rfl) rfl rfl rfl rfl rfl (yw_pickT rfl rfl rfl) ?_
            refine DX.takeW 9 1023 (by kernel_rfl) rfl rfl rfl rfl rfl (yw_move rfl rfl) ?_
            refine DX.split (t := 194) (b := within f.since 0 1199) rfl (fun d194 => ?_) (fun d194 => ?_)
            · refine DX.takeWG 10 2047 (by kernel_rfl) rfl rfl rfl rfl rfl rfl rfl rfl (yw_fieldAddr rfl fld_33_17 rfl) ?_
              refine DX.takeG 11 4095 (by kernel_rfl) rfl rfl rfl rfl rfl rfl rfl rfl (List.Sublist.cons_cons _ (List.Sublist.cons _ (List.Sublist.refl _))) (y_load (i := 1) rfl rfl one_9 rfl rfl) ?_
              refine DX.takeWG 12 8191 (by kernel_rfl) rfl rfl rfl rfl rfl rfl rfl rfl (yw_lenStr rfl Tryd.underlying9 rfl) ?_
              refine DX.takeWG 13 16383 (by kernel_rfl) rfl rfl rfl rfl rfl rfl rfl rfl (yw_leq rfl rfl rfl) ?_
              refine DX.takeW 14 32767 (by kernel_rfl) rfl rfl rfl rfl rfl (yw_pickT rfl rfl rfl) ?_
              refine DX.step 15 65535 (by kernel_rfl) rfl rfl rfl (op_storeAll (i := 1) rfl rfl rfl rfl szt_33 rfl (plain_of rfl) rfl rfl (DXs.mk (List.Sublist.cons_cons _ (List.Sublist.cons _ (List.Sublist.refl _))) ?_))
              refine DX.takeW 16 131071 (by kernel_rfl) rfl rfl rfl rfl rfl (yw_assign rfl rfl) ?_
              refine DX.done (by kernel_rfl) (XX.next (V' := [(2, .pointer (some ⟨g2, 0, none⟩)), (3, .bool (decide (((ByteArray.size f.text : Nat) : Int) ≤ 2000)))]) ⟨rfl, rfl, trivial⟩ ?_)
              refine CX.ret ?_
              refine XX.block_ret ?_
              refine XX.then_ret ?_
              exact ret_cellT (i := 1) rfl rfl rfl agg_33 rfl rfl fun w1 hw => ⟨(({ kind := f.kind, id := 0, version := f.version, period := 0, second := 0, account := 0, device := 0, recording := 0, territory := 0, holder := f.holder, role := 0, since := f.since, till := 0, amount := 0, share := 0, currency := 0, mark := 0, text := f.text } : Fct), (decide (((ByteArray.size f.text : Nat) : Int) ≤ 2000))), fun h => absurd h c12, rfl, hw.sub (List.nil_sublist _)⟩
            · refine DX.skip 10 2047 (by kernel_rfl) rfl rfl rfl rfl rfl rfl rfl rfl ?_
              refine DX.skip 11 4095 (by kernel_rfl) rfl rfl rfl rfl rfl rfl rfl rfl ?_
              refine DX.skip 12 8191 (by kernel_rfl) rfl rfl rfl rfl rfl rfl rfl rfl ?_
              refine DX.skip 13 16383 (by kernel_rfl) rfl rfl rfl rfl rfl rfl rfl rfl ?_
              refine DX.takeW 14 32767 (by kernel_rfl) rfl rfl rfl rfl rfl (yw_pickF rfl rfl rfl) ?_
              refine DX.step 15 65535 (by kernel_rfl) rfl rfl rfl (op_storeAll (i := 1) rfl rfl rfl rfl szt_33 rfl (plain_of rfl) rfl rfl (DXs.mk (List.Sublist.cons_cons _ (List.Sublist.cons _ (List.Sublist.refl _))) ?_))
              refine DX.takeW 16 131071 (by kernel_rfl) rfl rfl rfl rfl rfl (yw_assign rfl rfl) ?_
              refine DX.done (by kernel_rfl) (XX.next (V' := [(2, .pointer (some ⟨g2, 0, none⟩)), (3, .bool false)]) ⟨rfl, rfl, trivial⟩ ?_)
              refine CX.ret ?_
              refine XX.block_ret ?_
              refine XX.then_ret ?_
              exact ret_cellT (i := 1) rfl rfl rfl agg_33 rfl rfl fun w1 hw => ⟨(({ kind := f.kind, id := 0, version := f.version, period := 0, second := 0, account := 0, device := 0, recording := 0, territory := 0, holder := f.holder, role := 0, since := f.since, till := 0, amount := 0, share := 0, currency := 0, mark := 0, text := f.text } : Fct), false), fun h => absurd h c12, rfl, hw.sub (List.nil_sublist _)⟩
          · refine DX.skip 5 63 (by kernel_rfl) rfl rfl rfl rfl rfl rfl rfl rfl ?_
            refine DX.skip 6 127 (by kernel_rfl) rfl rfl rfl rfl rfl rfl rfl rfl ?_
            refine DX.skip 7 255 (by kernel_rfl) rfl rfl rfl rfl rfl rfl rfl rfl ?_
            refine DX.takeW 8 511 (by kernel_rfl) rfl rfl rfl rfl rfl (yw_pickF rfl rfl rfl) ?_
            refine DX.takeW 9 1023 (by kernel_rfl) rfl rfl rfl rfl rfl (yw_move rfl rfl) ?_
            refine DX.skip 10 2047 (by kernel_rfl) rfl rfl rfl rfl rfl rfl rfl rfl ?_
            refine DX.skip 11 4095 (by kernel_rfl) rfl rfl rfl rfl rfl rfl rfl rfl ?_
            refine DX.skip 12 8191 (by kernel_rfl) rfl rfl rfl rfl rfl rfl rfl rfl ?_
            refine DX.skip 13 16383 (by kernel_rfl) rfl rfl rfl rfl rfl rfl rfl rfl ?_
            refine DX.takeW 14 32767 (by kernel_rfl) rfl rfl rfl rfl rfl (yw_pickF rfl rfl rfl) ?_
            refine DX.step 15 65535 (by kernel_rfl) rfl rfl rfl (op_storeAll (i := 1) rfl rfl rfl rfl szt_33 rfl (plain_of rfl) rfl rfl (DXs.mk (List.Sublist.cons_cons _ (List.Sublist.cons _ (List.Sublist.refl _))) ?_))
            refine DX.takeW 16 131071 (by kernel_rfl) rfl rfl rfl rfl rfl (yw_assign rfl rfl) ?_
            refine DX.done (by kernel_rfl) (XX.next (V' := [(2, .pointer (some ⟨g2, 0, none⟩)), (3, .bool false)]) ⟨rfl, rfl, trivial⟩ ?_)
            refine CX.ret ?_
            refine XX.block_ret ?_
            refine XX.then_ret ?_
            exact ret_cellT (i := 1) rfl rfl rfl agg_33 rfl rfl fun w1 hw => ⟨(({ kind := f.kind, id := 0, version := f.version, period := 0, second := 0, account := 0, device := 0, recording := 0, territory := 0, holder := f.holder, role := 0, since := f.since, till := 0, amount := 0, share := 0, currency := 0, mark := 0, text := f.text } : Fct), false), fun h => absurd h c12, rfl, hw.sub (List.nil_sublist _)⟩
        · exfalso; omega

set_option maxRecDepth 100000 in
theorem w_fields5 {w : World} (f : Fct) (hx : f.text.size ≤ 9223372036854775807) (hk : f.kind = 5) :
    Calls Tryd.prog 26 #[.agg (Fct.cells f)] w (fun e w' => ∃ x : Fct × Bool, (f.kind = 1 → x.1 = playOf f ∧ x.2 = playOk f) ∧ e = .returned (.tuple #[.agg (Fct.cells x.1), .bool x.2]) ∧ SL w [] w' []) := by
  refine calls_of_CX (O := []) (L := []) (args := [.agg (Fct.cells f)]) Tryd.func26 rfl (by simp [Tryd.ntmps26]) (SL.refl w) ?_
  refine CX.sub (V' := [(0, .agg (Fct.cells f))]) ⟨rfl, trivial⟩ ?_
  refine CX.seq ?_
  refine CX.region ?_
  refine RX.cons rfl rfl (op_box rfl rfl rfl rfl fun g1 => ?_)
  refine RX.cons rfl rfl (op_alloc rfl rfl rfl zero_33 fun g2 => ?_)
  refine RX.cons rfl rfl (op_w (yw_assign rfl rfl) rfl rfl ?_)
  refine RX.nil (XX.next (V' := [(1, .pointer (some ⟨g1, 0, none⟩)), (2, .pointer (some ⟨g2, 0, none⟩))]) ⟨rfl, rfl, trivial⟩ ?_)
  refine CX.seq ?_
  refine CX.region ?_
  refine RX.cons rfl rfl (op_w (yw_field0 rfl fld_33_0 rfl) rfl rfl ?_)
  refine RX.cons rfl rfl (op_yld (y_load (i := 1) rfl rfl one_3 rfl rfl) rfl rfl ?_)
  refine RX.cons rfl rfl (op_w (yw_fieldAddr rfl fld_33_2 rfl) rfl rfl ?_)
  refine RX.cons rfl rfl (op_yld (y_load (i := 1) rfl rfl one_3 rfl rfl) rfl rfl ?_)
  refine RX.cons rfl rfl (op_w (yw_build (v := .agg (#[.int .i64 f.kind, .int .i64 0, .int .i64 f.version, .int .i64 0, .int .i64 0, .int .i64 0, .int .i64 0, .int .i64 0, .int .i64 0, .int .i64 0, .int .i64 0, .int .i64 0, .int .i64 0, .int .i64 0, .int .i64 0, .int .i64 0, .int .i64 0, .string .empty])) rfl rfl (fun _ => by kernel_rfl)) rfl rfl ?_)
  refine RX.cons rfl rfl (op_alloc rfl rfl rfl zero_33 fun g3 => ?_)
  refine RX.cons rfl rfl (op_storeAll (i := 0) rfl rfl rfl rfl szt_33 rfl (plain_of rfl) rfl rfl ?_)
  refine RX.nil (XX.next (V' := [(1, .pointer (some ⟨g1, 0, none⟩)), (2, .pointer (some ⟨g2, 0, none⟩)), (4, .pointer (some ⟨g3, 0, none⟩))]) ⟨rfl, rfl, rfl, trivial⟩ ?_)
  refine CX.seq ?_
  refine CX.seq ?_
  refine CX.region ?_
  refine RX.cons rfl rfl (op_w (yw_field0 rfl fld_33_0 rfl) rfl rfl ?_)
  refine RX.cons rfl rfl (op_yld (y_load (i := 2) rfl rfl one_3 rfl rfl) rfl rfl ?_)
  refine RX.nil (XX.next (V' := [(1, .pointer (some ⟨g1, 0, none⟩)), (2, .pointer (some ⟨g2, 0, none⟩)), (4, .pointer (some ⟨g3, 0, none⟩)), (11, .int .i64 f.kind)]) ⟨rfl, rfl, rfl, rfl, trivial⟩ ?_)
  refine CX.block ?_
  refine CX.seq ?_
  refine CX.region ?_
  refine RX.cons rfl rfl (op_w (yw_eql rfl rfl rfl) rfl rfl ?_)
  refine RX.cons rfl rfl (op_w (yw_assign rfl rfl) rfl rfl ?_)
  refine RX.nil (XX.next (V' := [(1, .pointer (some ⟨g1, 0, none⟩)), (2, .pointer (some ⟨g2, 0, none⟩)), (4, .pointer (some ⟨g3, 0, none⟩)), (11, .int .i64 f.kind), (12, .bool (decide (f.kind = 1)))]) ⟨rfl, rfl, rfl, rfl, rfl, trivial⟩ ?_)
  refine CX.condD (p := f.kind = 1) rfl (fun c12 => ?_) (fun c12 => ?_)
  · exfalso; omega
  · refine CX.seq ?_
    refine CX.region ?_
    refine RX.cons rfl rfl (op_w (yw_eql rfl rfl rfl) rfl rfl ?_)
    refine RX.cons rfl rfl (op_w (yw_assign rfl rfl) rfl rfl ?_)
    refine RX.nil (XX.next (V' := [(1, .pointer (some ⟨g1, 0, none⟩)), (2, .pointer (some ⟨g2, 0, none⟩)), (4, .pointer (some ⟨g3, 0, none⟩)), (11, .int .i64 f.kind), (77, .bool (decide (f.kind = 2)))]) ⟨rfl, rfl, rfl, rfl, rfl, trivial⟩ ?_)
    refine CX.condD (p := f.kind = 2) rfl (fun c77 => ?_) (fun c77 => ?_)
    · exfalso; omega
    · refine CX.seq ?_
      refine CX.region ?_
      refine RX.cons rfl rfl (op_w (yw_eql rfl rfl rfl) rfl rfl ?_)
      refine RX.cons rfl rfl (op_w (yw_assign rfl rfl) rfl rfl ?_)
      refine RX.nil (XX.next (V' := [(1, .pointer (some ⟨g1, 0, none⟩)), (2, .pointer (some ⟨g2, 0, none⟩)), (4, .pointer (some ⟨g3, 0, none⟩)), (11, .int .i64 f.kind), (102, .bool (decide (f.kind = 3)))]) ⟨rfl, rfl, rfl, rfl, rfl, trivial⟩ ?_)
      refine CX.condD (p := f.kind = 3) rfl (fun c102 => ?_) (fun c102 => ?_)
      · exfalso; omega
      · refine CX.seq ?_
        refine CX.region ?_
        refine RX.cons rfl rfl (op_w (yw_eql rfl rfl rfl) rfl rfl ?_)
        refine RX.cons rfl rfl (op_w (yw_assign rfl rfl) rfl rfl ?_)
        refine RX.nil (XX.next (V' := [(1, .pointer (some ⟨g1, 0, none⟩)), (2, .pointer (some ⟨g2, 0, none⟩)), (4, .pointer (some ⟨g3, 0, none⟩)), (11, .int .i64 f.kind), (174, .bool (decide (f.kind = 4)))]) ⟨rfl, rfl, rfl, rfl, rfl, trivial⟩ ?_)
        refine CX.condD (p := f.kind = 4) rfl (fun c174 => ?_) (fun c174 => ?_)
        · exfalso; omega
        · refine CX.seq ?_
          refine CX.region ?_
          refine RX.cons rfl rfl (op_w (yw_eql rfl rfl rfl) rfl rfl ?_)
          refine RX.cons rfl rfl (op_w (yw_assign rfl rfl) rfl rfl ?_)
          refine RX.nil (XX.next (V' := [(1, .pointer (some ⟨g1, 0, none⟩)), (2, .pointer (some ⟨g2, 0, none⟩)), (4, .pointer (some ⟨g3, 0, none⟩)), (200, .bool (decide (f.kind = 5)))]) ⟨rfl, rfl, rfl, rfl, trivial⟩ ?_)
          refine CX.condD (p := f.kind = 5) rfl (fun c200 => ?_) (fun c200 => ?_)
          · refine CX.seq ?_
            refine CX.drawL 20 ([.blk g1 (.cells (Fct.cells f) 33 (0, 0))]) (by kernel_rfl) ?_
            refine DX.takeW 0 1 (by kernel_rfl) rfl rfl rfl rfl rfl (yw_fieldAddr rfl fld_33_1 rfl) ?_
            refine DX.take 1 3 (by kernel_rfl) rfl rfl rfl rfl rfl (List.Sublist.cons _ (List.Sublist.cons _ (List.Sublist.refl _))) (y_load (i := 0) rfl rfl one_3 rfl rfl) ?_
            refine DX.takeW 2 7 (by kernel_rfl) rfl rfl rfl rfl rfl (yw_fieldAddr rfl fld_33_3 rfl) ?_
            refine DX.take 3 15 (by kernel_rfl) rfl rfl rfl rfl rfl (List.Sublist.cons _ (List.Sublist.cons _ (List.Sublist.refl _))) (y_load (i := 0) rfl rfl one_3 rfl rfl) ?_
            refine DX.takeW 4 31 (by kernel_rfl) rfl rfl rfl rfl rfl (yw_fieldAddr rfl fld_33_8 rfl) ?_
            refine DX.take 5 63 (by kernel_rfl) rfl rfl rfl rfl rfl (List.Sublist.cons _ (List.Sublist.cons _ (List.Sublist.refl _))) (y_load (i := 0) rfl rfl one_3 rfl rfl) ?_
            refine DX.takeW 6 127 (by kernel_rfl) rfl rfl rfl rfl rfl (yw_fieldAddr rfl fld_33_13 rfl) ?_
            refine DX.take 7 255 (by kernel_rfl) rfl rfl rfl rfl rfl (List.Sublist.cons _ (List.Sublist.cons _ (List.Sublist.refl _))) (y_load (i := 0) rfl rfl one_3 rfl rfl) ?_
            refine DX.takeW 8 511 (by kernel_rfl) rfl rfl rfl rfl rfl (yw_fieldAddr rfl fld_33_15 rfl) ?_
            refine DX.take 9 1023 (by kernel_rfl) rfl rfl rfl rfl rfl (List.Sublist.cons _ (List.Sublist.cons _ (List.Sublist.refl _))) (y_load (i := 0) rfl rfl one_3 rfl rfl) ?_
            refine DX.takeW 10 2047 (by kernel_rfl) rfl rfl rfl rfl rfl (yw_fieldAddr rfl fld_33_1 rfl) ?_
            refine DX.step 11 4095 (by kernel_rfl) rfl rfl rfl (op_store1 (i := 0) (cs' := #[.int .i64 f.kind, .int .i64 f.id, .int .i64 f.version, .int .i64 0, .int .i64 0, .int .i64 0, .int .i64 0, .int .i64 0, .int .i64 0, .int .i64 0, .int .i64 0, .int .i64 0, .int .i64 0, .int .i64 0, .int .i64 0, .int .i64 0, .int .i64 0, .string .empty]) rfl rfl rfl rfl szt_3 rfl rfl rfl rfl (DXs.mk (List.Sublist.cons _ (List.Sublist.cons _ (List.Sublist.refl _))) ?_))
            refine DX.takeW 12 8191 (by kernel_rfl) rfl rfl rfl rfl rfl (yw_fieldAddr rfl fld_33_3 rfl) ?_
            refine DX.step 13 16383 (by kernel_rfl) rfl rfl rfl (op_store1 (i := 0) (cs' := #[.int .i64 f.kind, .int .i64 f.id, .int .i64 f.version, .int .i64 f.period, .int .i64 0, .int .i64 0, .int .i64 0, .int .i64 0, .int .i64 0, .int .i64 0, .int .i64 0, .int .i64 0, .int .i64 0, .int .i64 0, .int .i64 0, .int .i64 0, .int .i64 0, .string .empty]) rfl rfl rfl rfl szt_3 rfl rfl rfl rfl (DXs.mk (List.Sublist.cons _ (List.Sublist.cons _ (List.Sublist.refl _))) ?_))
            refine DX.takeW 14 32767 (by kernel_rfl) rfl rfl rfl rfl rfl (yw_fieldAddr rfl fld_33_8 rfl) ?_
            refine DX.step 15 65535 (by kernel_rfl) rfl rfl rfl (op_store1 (i := 0) (cs' := #[.int .i64 f.kind, .int .i64 f.id, .int .i64 f.version, .int .i64 f.period, .int .i64 0, .int .i64 0, .int .i64 0, .int .i64 0, .int .i64 f.territory, .int .i64 0, .int .i64 0, .int .i64 0, .int .i64 0, .int .i64 0, .int .i64 0, .int .i64 0, .int .i64 0, .string .empty]) rfl rfl rfl rfl szt_3 rfl rfl rfl rfl (DXs.mk (List.Sublist.cons _ (List.Sublist.cons _ (List.Sublist.refl _))) ?_))
            refine DX.takeW 16 131071 (by kernel_rfl) rfl rfl rfl rfl rfl (yw_fieldAddr rfl fld_33_13 rfl) ?_
            refine DX.step 17 262143 (by kernel_rfl) rfl rfl rfl (op_store1 (i := 0) (cs' := #[.int .i64 f.kind, .int .i64 f.id, .int .i64 f.version, .int .i64 f.period, .int .i64 0, .int .i64 0, .int .i64 0, .int .i64 0, .int .i64 f.territory, .int .i64 0, .int .i64 0, .int .i64 0, .int .i64 0, .int .i64 f.amount, .int .i64 0, .int .i64 0, .int .i64 0, .string .empty]) rfl rfl rfl rfl szt_3 rfl rfl rfl rfl (DXs.mk (List.Sublist.cons _ (List.Sublist.cons _ (List.Sublist.refl _))) ?_))
            refine DX.takeW 18 524287 (by kernel_rfl) rfl rfl rfl rfl rfl (yw_fieldAddr rfl fld_33_15 rfl) ?_
            refine DX.step 19 1048575 (by kernel_rfl) rfl rfl rfl (op_store1 (i := 0) (cs' := #[.int .i64 f.kind, .int .i64 f.id, .int .i64 f.version, .int .i64 f.period, .int .i64 0, .int .i64 0, .int .i64 0, .int .i64 0, .int .i64 f.territory, .int .i64 0, .int .i64 0, .int .i64 0, .int .i64 0, .int .i64 f.amount, .int .i64 0, .int .i64 f.currency, .int .i64 0, .string .empty]) rfl rfl rfl rfl szt_3 rfl rfl rfl rfl (DXs.mk (List.Sublist.cons _ (List.Sublist.cons _ (List.Sublist.refl _))) ?_))
            refine DX.done (by kernel_rfl) (XX.next (V' := [(1, .pointer (some ⟨g1, 0, none⟩)), (2, .pointer (some ⟨g2, 0, none⟩)), (4, .pointer (some ⟨g3, 0, none⟩))]) ⟨rfl, rfl, rfl, trivial⟩ ?_)
            refine CX.seq ?_
            refine CX.drawL 26 ([.blk g3 (.cells (#[.int .i64 f.kind, .int .i64 f.id, .int .i64 f.version, .int .i64 f.period, .int .i64 0, .int .i64 0, .int .i64 0, .int .i64 0, .int .i64 f.territory, .int .i64 0, .int .i64 0, .int .i64 0, .int .i64 0, .int .i64 f.amount, .int .i64 0, .int .i64 f.currency, .int .i64 0, .string .empty]) 33 (0, 0)), .blk g1 (.cells (Fct.cells f) 33 (0, 0))]) (by kernel_rfl) ?_
            refine DX.take 0 1 (by kernel_rfl) rfl rfl rfl rfl rfl (List.Sublist.cons_cons _ (List.Sublist.cons _ (List.Sublist.refl _))) (y_loadA (i := 0) rfl rfl agg_33 rfl rfl) ?_
            refine DX.takeW 1 3 (by kernel_rfl) rfl rfl rfl rfl rfl (yw_fieldAddr rfl fld_33_1 rfl) ?_
            refine DX.take 2 7 (by kernel_rfl) rfl rfl rfl rfl rfl (List.Sublist.cons_cons _ (List.Sublist.cons _ (List.Sublist.refl _))) (y_load (i := 1) rfl rfl one_3 rfl rfl) ?_
            refine DX.step 3 15 (by kernel_rfl) rfl rfl rfl (op_callV (v := .bool (within f.id 1 1000000)) rfl rfl rfl rfl rfl ent_36 (fun w _ => w_refId f.id) (DXs.mk (List.Sublist.cons_cons _ (List.Sublist.cons _ (List.Sublist.refl _))) ?_))
            refine DX.takeW 4 31 (by kernel_rfl) rfl rfl rfl rfl rfl (yw_move rfl rfl) ?_
            refine DX.split (t := 221) (b := within f.id 1 1000000) rfl (fun d221 => ?_) (fun d221 => ?_)
            · refine DX.takeWG 5 63 (by kernel_rfl) rfl rfl rfl rfl rfl rfl rfl rfl (yw_fieldAddr rfl fld_33_3 rfl) ?_
              refine DX.takeG 6 127 (by kernel_rfl) rfl rfl rfl rfl rfl rfl rfl rfl (List.Sublist.cons_cons _ (List.Sublist.cons _ (List.Sublist.refl _))) (y_load (i := 1) rfl rfl one_3 rfl rfl) ?_
              refine DX.stepG 7 255 (by kernel_rfl) rfl rfl rfl rfl rfl rfl (op_callV (v := .bool (within f.period 0 1199)) rfl rfl rfl rfl rfl ent_38 (fun w _ => w_refPeriod f.period) (DXs.mk (List.Sublist.cons_cons _ (List.Sublist.cons _ (List.Sublist.refl _))) ?_))
              refine DX.takeW 8 511 (by kernel_rfl) rfl rfl rfl rfl rfl (yw_pickT rfl rfl rfl) ?_
              refine DX.takeW 9 1023 (by kernel_rfl) rfl rfl rfl rfl rfl (yw_move rfl rfl) ?_
              refine DX.split (t := 226) (b := within f.period 0 1199) rfl (fun d226 => ?_) (fun d226 => ?_)
              · refine DX.takeWG 10 2047 (by kernel_rfl) rfl rfl rfl rfl rfl rfl rfl rfl (yw_fieldAddr rfl fld_33_8 rfl) ?_
                refine DX.takeG 11 4095 (by kernel_rfl) rfl rfl rfl rfl rfl rfl rfl rfl (List.Sublist.cons_cons _ (List.Sublist.cons _ (List.Sublist.refl _))) (y_load (i := 1) rfl rfl one_3 rfl rfl) ?_
                refine DX.stepG 12 8191 (by kernel_rfl) rfl rfl rfl rfl rfl rfl (op_callV (v := .bool (within f.territory 0 7)) rfl rfl rfl rfl rfl ent_37 (fun w _ => w_refTerritory f.territory) (DXs.mk (List.Sublist.cons_cons _ (List.Sublist.cons _ (List.Sublist.refl _))) ?_))
                refine DX.takeW 13 16383 (by kernel_rfl) rfl rfl rfl rfl rfl (yw_pickT rfl rfl rfl) ?_
                refine DX.takeW 14 32767 (by kernel_rfl) rfl rfl rfl rfl rfl (yw_move rfl rfl) ?_
                refine DX.split (t := 231) (b := within f.territory 0 7) rfl (fun d231 => ?_) (fun d231 => ?_)
                · refine DX.takeWG 15 65535 (by kernel_rfl) rfl rfl rfl rfl rfl rfl rfl rfl (yw_fieldAddr rfl fld_33_13 rfl) ?_
                  refine DX.takeG 16 131071 (by kernel_rfl) rfl rfl rfl rfl rfl rfl rfl rfl (List.Sublist.cons_cons _ (List.Sublist.cons _ (List.Sublist.refl _))) (y_load (i := 1) rfl rfl one_3 rfl rfl) ?_
                  refine DX.stepG 17 262143 (by kernel_rfl) rfl rfl rfl rfl rfl rfl (op_callV (v := .bool (within f.amount 0 10000000000)) rfl rfl rfl rfl rfl ent_27 (fun w _ => w_within f.amount 0 10000000000) (DXs.mk (List.Sublist.cons_cons _ (List.Sublist.cons _ (List.Sublist.refl _))) ?_))
                  refine DX.takeW 18 524287 (by kernel_rfl) rfl rfl rfl rfl rfl (yw_pickT rfl rfl rfl) ?_
                  refine DX.takeW 19 1048575 (by kernel_rfl) rfl rfl rfl rfl rfl (yw_move rfl rfl) ?_
                  refine DX.split (t := 236) (b := within f.amount 0 10000000000) rfl (fun d236 => ?_) (fun d236 => ?_)
                  · refine DX.takeWG 20 2097151 (by kernel_rfl) rfl rfl rfl rfl rfl rfl rfl rfl (yw_fieldAddr rfl fld_33_15 rfl) ?_
                    refine DX.takeG 21 4194303 (by kernel_rfl) rfl rfl rfl rfl rfl rfl rfl rfl (List.Sublist.cons_cons _ (List.Sublist.cons _ (List.Sublist.refl _))) (y_load (i := 1) rfl rfl one_3 rfl rfl) ?_
                    refine DX.stepG 22 8388607 (by kernel_rfl) rfl rfl rfl rfl rfl rfl (op_callV (v := .bool (within f.currency 0 20)) rfl rfl rfl rfl rfl ent_27 (fun w _ => w_within f.currency 0 20) (DXs.mk (List.Sublist.cons_cons _ (List.Sublist.cons _ (List.Sublist.refl _))) ?_))
                    refine DX.takeW 23 16777215 (by kernel_rfl) rfl rfl rfl rfl rfl (yw_pickT rfl rfl rfl) ?_
                    refine DX.step 24 33554431 (by kernel_rfl) rfl rfl rfl (op_storeAll (i := 1) rfl rfl rfl rfl szt_33 rfl (plain_of rfl) rfl rfl (DXs.mk (List.Sublist.cons_cons _ (List.Sublist.cons _ (List.Sublist.refl _))) ?_))
                    refine DX.takeW 25 67108863 (by kernel_rfl) rfl rfl rfl rfl rfl (yw_assign rfl rfl) ?_
                    refine DX.done (by kernel_rfl) (XX.next (V' := [(2, .pointer (some ⟨g2, 0, none⟩)), (3, .bool (within f.currency 0 20))]) ⟨rfl, rfl, trivial⟩ ?_)
                    refine CX.ret ?_
                    refine XX.block_ret ?_
                    refine XX.then_ret ?_
                    exact ret_cellT (i := 1) rfl rfl rfl agg_33 rfl rfl fun w1 hw => ⟨(({ kind := f.kind, id := f.id, version := f.version, period := f.period, second := 0, account := 0, device := 0, recording := 0, territory := f.territory, holder := 0, role := 0, since := 0, till := 0, amount := f.amount, share := 0, currency := f.currency, mark := 0, text := .empty } : Fct), (within f.currency 0 20)), fun h => absurd h c12, rfl, hw.sub (List.nil_sublist _)⟩
                  · refine DX.skip 20 2097151 (by kernel_rfl) rfl rfl rfl rfl rfl rfl rfl rfl ?_
                    refine DX.skip 21 4194303 (by kernel_rfl) rfl rfl rfl rfl rfl rfl rfl rfl ?_
                    refine DX.skip 22 8388607 (by kernel_rfl) rfl rfl rfl rfl rfl rfl rfl rfl ?_
                    refine DX.takeW 23 16777215 (by kernel_rfl) rfl rfl rfl rfl rfl (yw_pickF rfl rfl rfl) ?_
                    refine DX.step 24 33554431 (by kernel_rfl) rfl rfl rfl (op_storeAll (i := 1) rfl rfl rfl rfl szt_33 rfl (plain_of rfl) rfl rfl (DXs.mk (List.Sublist.cons_cons _ (List.Sublist.cons _ (List.Sublist.refl _))) ?_))
                    refine DX.takeW 25 67108863 (by kernel_rfl) rfl rfl rfl rfl rfl (yw_assign rfl rfl) ?_
                    refine DX.done (by kernel_rfl) (XX.next (V' := [(2, .pointer (some ⟨g2, 0, none⟩)), (3, .bool false)]) ⟨rfl, rfl, trivial⟩ ?_)
                    refine CX.ret ?_
                    refine XX.block_ret ?_
                    refine XX.then_ret ?_
                    exact ret_cellT (i := 1) rfl rfl rfl agg_33 rfl rfl fun w1 hw => ⟨(({ kind := f.kind, id := f.id, version := f.version, period := f.period, second := 0, account := 0, device := 0, recording := 0, territory := f.territory, holder := 0, role := 0, since := 0, till := 0, amount := f.amount, share := 0, currency := f.currency, mark := 0, text := .empty } : Fct), false), fun h => absurd h c12, rfl, hw.sub (List.nil_sublist _)⟩
                · refine DX.skip 15 65535 (by kernel_rfl) rfl rfl rfl rfl rfl rfl rfl rfl ?_
                  refine DX.skip 16 131071 (by kernel_rfl) rfl rfl rfl rfl rfl rfl rfl rfl ?_
                  refine DX.skip 17 262143 (by kernel_rfl) rfl rfl rfl rfl rfl rfl rfl rfl ?_
                  refine DX.takeW 18 524287 (by kernel_rfl) rfl rfl rfl rfl rfl (yw_pickF rfl rfl rfl) ?_
                  refine DX.takeW 19 1048575 (by kernel_rfl) rfl rfl rfl rfl rfl (yw_move rfl rfl) ?_
                  refine DX.skip 20 2097151 (by kernel_rfl) rfl rfl rfl rfl rfl rfl rfl rfl ?_
                  refine DX.skip 21 4194303 (by kernel_rfl) rfl rfl rfl rfl rfl rfl rfl rfl ?_
                  refine DX.skip 22 8388607 (by kernel_rfl) rfl rfl rfl rfl rfl rfl rfl rfl ?_
                  refine DX.takeW 23 16777215 (by kernel_rfl) rfl rfl rfl rfl rfl (yw_pickF rfl rfl rfl) ?_
                  refine DX.step 24 33554431 (by kernel_rfl) rfl rfl rfl (op_storeAll (i := 1) rfl rfl rfl rfl szt_33 rfl (plain_of rfl) rfl rfl (DXs.mk (List.Sublist.cons_cons _ (List.Sublist.cons _ (List.Sublist.refl _))) ?_))
                  refine DX.takeW 25 67108863 (by kernel_rfl) rfl rfl rfl rfl rfl (yw_assign rfl rfl) ?_
                  refine DX.done (by kernel_rfl) (XX.next (V' := [(2, .pointer (some ⟨g2, 0, none⟩)), (3, .bool false)]) ⟨rfl, rfl, trivial⟩ ?_)
                  refine CX.ret ?_
                  refine XX.block_ret ?_
                  refine XX.then_ret ?_
                  exact ret_cellT (i := 1) rfl rfl rfl agg_33 rfl rfl fun w1 hw => ⟨(({ kind := f.kind, id := f.id, version := f.version, period := f.period, second := 0, account := 0, device := 0, recording := 0, territory := f.territory, holder := 0, role := 0, since := 0, till := 0, amount := f.amount, share := 0, currency := f.currency, mark := 0, text := .empty } : Fct), false), fun h => absurd h c12, rfl, hw.sub (List.nil_sublist _)⟩
              · refine DX.skip 10 2047 (by kernel_rfl) rfl rfl rfl rfl rfl rfl rfl rfl ?_
                refine DX.skip 11 4095 (by kernel_rfl) rfl rfl rfl rfl rfl rfl rfl rfl ?_
                refine DX.skip 12 8191 (by kernel_rfl) rfl rfl rfl rfl rfl rfl rfl rfl ?_
                refine DX.takeW 13 16383 (by kernel_rfl) rfl rfl rfl rfl rfl (yw_pickF rfl rfl rfl) ?_
                refine DX.takeW 14 32767 (by kernel_rfl) rfl rfl rfl rfl rfl (yw_move rfl rfl) ?_
                refine DX.skip 15 65535 (by kernel_rfl) rfl rfl rfl rfl rfl rfl rfl rfl ?_
                refine DX.skip 16 131071 (by kernel_rfl) rfl rfl rfl rfl rfl rfl rfl rfl ?_
                refine DX.skip 17 262143 (by kernel_rfl) rfl rfl rfl rfl rfl rfl rfl rfl ?_
                refine DX.takeW 18 524287 (by kernel_rfl) rfl rfl rfl rfl rfl (yw_pickF rfl rfl rfl) ?_
                refine DX.takeW 19 1048575 (by kernel_rfl) rfl rfl rfl rfl rfl (yw_move rfl rfl) ?_
                refine DX.skip 20 2097151 (by kernel_rfl) rfl rfl rfl rfl rfl rfl rfl rfl ?_
                refine DX.skip 21 4194303 (by kernel_rfl) rfl rfl rfl rfl rfl rfl rfl rfl ?_
                refine DX.skip 22 8388607 (by kernel_rfl) rfl rfl rfl rfl rfl rfl rfl rfl ?_
                refine DX.takeW 23 16777215 (by kernel_rfl) rfl rfl rfl rfl rfl (yw_pickF rfl rfl rfl) ?_
                refine DX.step 24 33554431 (by kernel_rfl) rfl rfl rfl (op_storeAll (i := 1) rfl rfl rfl rfl szt_33 rfl (plain_of rfl) rfl rfl (DXs.mk (List.Sublist.cons_cons _ (List.Sublist.cons _ (List.Sublist.refl _))) ?_))
                refine DX.takeW 25 67108863 (by kernel_rfl) rfl rfl rfl rfl rfl (yw_assign rfl rfl) ?_
                refine DX.done (by kernel_rfl) (XX.next (V' := [(2, .pointer (some ⟨g2, 0, none⟩)), (3, .bool false)]) ⟨rfl, rfl, trivial⟩ ?_)
                refine CX.ret ?_
                refine XX.block_ret ?_
                refine XX.then_ret ?_
                exact ret_cellT (i := 1) rfl rfl rfl agg_33 rfl rfl fun w1 hw => ⟨(({ kind := f.kind, id := f.id, version := f.version, period := f.period, second := 0, account := 0, device := 0, recording := 0, territory := f.territory, holder := 0, role := 0, since := 0, till := 0, amount := f.amount, share := 0, currency := f.currency, mark := 0, text := .empty } : Fct), false), fun h => absurd h c12, rfl, hw.sub (List.nil_sublist _)⟩
            · refine DX.skip 5 63 (by kernel_rfl) rfl rfl rfl rfl rfl rfl rfl rfl ?_
              refine DX.skip 6 127 (by kernel_rfl) rfl rfl rfl rfl rfl rfl rfl rfl ?_
              refine DX.skip 7 255 (by kernel_rfl) rfl rfl rfl rfl rfl rfl rfl rfl ?_
              refine DX.takeW 8 511 (by kernel_rfl) rfl rfl rfl rfl rfl (yw_pickF rfl rfl rfl) ?_
              refine DX.takeW 9 1023 (by kernel_rfl) rfl rfl rfl rfl rfl (yw_move rfl rfl) ?_
              refine DX.skip 10 2047 (by kernel_rfl) rfl rfl rfl rfl rfl rfl rfl rfl ?_
              refine DX.skip 11 4095 (by kernel_rfl) rfl rfl rfl rfl rfl rfl rfl rfl ?_
              refine DX.skip 12 8191 (by kernel_rfl) rfl rfl rfl rfl rfl rfl rfl rfl ?_
              refine DX.takeW 13 16383 (by kernel_rfl) rfl rfl rfl rfl rfl (yw_pickF rfl rfl rfl) ?_
              refine DX.takeW 14 32767 (by kernel_rfl) rfl rfl rfl rfl rfl (yw_move rfl rfl) ?_
              refine DX.skip 15 65535 (by kernel_rfl) rfl rfl rfl rfl rfl rfl rfl rfl ?_
              refine DX.skip 16 131071 (by kernel_rfl) rfl rfl rfl rfl rfl rfl rfl rfl ?_
              refine DX.skip 17 262143 (by kernel_rfl) rfl rfl rfl rfl rfl rfl rfl rfl ?_
              refine DX.takeW 18 524287 (by kernel_rfl) rfl rfl rfl rfl rfl (yw_pickF rfl rfl rfl) ?_
              refine DX.takeW 19 1048575 (by kernel_rfl) rfl rfl rfl rfl rfl (yw_move rfl rfl) ?_
              refine DX.skip 20 2097151 (by kernel_rfl) rfl rfl rfl rfl rfl rfl rfl rfl ?_
              refine DX.skip 21 4194303 (by kernel_rfl) rfl rfl rfl rfl rfl rfl rfl rfl ?_
              refine DX.skip 22 8388607 (by kernel_rfl) rfl rfl rfl rfl rfl rfl rfl rfl ?_
              refine DX.takeW 23 16777215 (by kernel_rfl) rfl rfl rfl rfl rfl (yw_pickF rfl rfl rfl) ?_
              refine DX.step 24 33554431 (by kernel_rfl) rfl rfl rfl (op_storeAll (i := 1) rfl rfl rfl rfl szt_33 rfl (plain_of rfl) rfl rfl (DXs.mk (List.Sublist.cons_cons _ (List.Sublist.cons _ (List.Sublist.refl _))) ?_))
              refine DX.takeW 25 67108863 (by kernel_rfl) rfl rfl rfl rfl rfl (yw_assign rfl rfl) ?_
              refine DX.done (by kernel_rfl) (XX.next (V' := [(2, .pointer (some ⟨g2, 0, none⟩)), (3, .bool false)]) ⟨rfl, rfl, trivial⟩ ?_)
              refine CX.ret ?_
              refine XX.block_ret ?_
              refine XX.then_ret ?_
              exact ret_cellT (i := 1) rfl rfl rfl agg_33 rfl rfl fun w1 hw => ⟨(({ kind := f.kind, id := f.id, version := f.version, period := f.period, second := 0, account := 0, device := 0, recording := 0, territory := f.territory, holder := 0, role := 0, since := 0, till := 0, amount := f.amount, share := 0, currency := f.currency, mark := 0, text := .empty } : Fct), false), fun h => absurd h c12, rfl, hw.sub (List.nil_sublist _)⟩
          · exfalso; omega

set_option maxRecDepth 100000 in
theorem w_fields0 {w : World} (f : Fct) (hx : f.text.size ≤ 9223372036854775807) (hk : f.kind ≠ 1 ∧ f.kind ≠ 2 ∧ f.kind ≠ 3 ∧ f.kind ≠ 4 ∧ f.kind ≠ 5) :
    Calls Tryd.prog 26 #[.agg (Fct.cells f)] w (fun e w' => ∃ x : Fct × Bool, (f.kind = 1 → x.1 = playOf f ∧ x.2 = playOk f) ∧ e = .returned (.tuple #[.agg (Fct.cells x.1), .bool x.2]) ∧ SL w [] w' []) := by
  refine calls_of_CX (O := []) (L := []) (args := [.agg (Fct.cells f)]) Tryd.func26 rfl (by simp [Tryd.ntmps26]) (SL.refl w) ?_
  refine CX.sub (V' := [(0, .agg (Fct.cells f))]) ⟨rfl, trivial⟩ ?_
  refine CX.seq ?_
  refine CX.region ?_
  refine RX.cons rfl rfl (op_box rfl rfl rfl rfl fun g1 => ?_)
  refine RX.cons rfl rfl (op_alloc rfl rfl rfl zero_33 fun g2 => ?_)
  refine RX.cons rfl rfl (op_w (yw_assign rfl rfl) rfl rfl ?_)
  refine RX.nil (XX.next (V' := [(1, .pointer (some ⟨g1, 0, none⟩)), (2, .pointer (some ⟨g2, 0, none⟩))]) ⟨rfl, rfl, trivial⟩ ?_)
  refine CX.seq ?_
  refine CX.region ?_
  refine RX.cons rfl rfl (op_w (yw_field0 rfl fld_33_0 rfl) rfl rfl ?_)
  refine RX.cons rfl rfl (op_yld (y_load (i := 1) rfl rfl one_3 rfl rfl) rfl rfl ?_)
  refine RX.cons rfl rfl (op_w (yw_fieldAddr rfl fld_33_2 rfl) rfl rfl ?_)
  refine RX.cons rfl rfl (op_yld (y_load (i := 1) rfl rfl one_3 rfl rfl) rfl rfl ?_)
  refine RX.cons rfl rfl (op_w (yw_build (v := .agg (#[.int .i64 f.kind, .int .i64 0, .int .i64 f.version, .int .i64 0, .int .i64 0, .int .i64 0, .int .i64 0, .int .i64 0, .int .i64 0, .int .i64 0, .int .i64 0, .int .i64 0, .int .i64 0, .int .i64 0, .int .i64 0, .int .i64 0, .int .i64 0, .string .empty])) rfl rfl (fun _ => by kernel_rfl)) rfl rfl ?_)
  refine RX.cons rfl rfl (op_alloc rfl rfl rfl zero_33 fun g3 => ?_)
  refine RX.cons rfl rfl (op_storeAll (i := 0) rfl rfl rfl rfl szt_33 rfl (plain_of rfl) rfl rfl ?_)
  refine RX.nil (XX.next (V' := [(1, .pointer (some ⟨g1, 0, none⟩)), (2, .pointer (some ⟨g2, 0, none⟩)), (4, .pointer (some ⟨g3, 0, none⟩))]) ⟨rfl, rfl, rfl, trivial⟩ ?_)
  refine CX.seq ?_
  refine CX.seq ?_
  refine CX.region ?_
  refine RX.cons rfl rfl (op_w (yw_field0 rfl fld_33_0 rfl) rfl rfl ?_)
  refine RX.cons rfl rfl (op_yld (y_load (i := 2) rfl rfl one_3 rfl rfl) rfl rfl ?_)
  refine RX.nil (XX.next (V' := [(1, .pointer (some ⟨g1, 0, none⟩)), (2, .pointer (some ⟨g2, 0, none⟩)), (4, .pointer (some ⟨g3, 0, none⟩)), (11, .int .i64 f.kind)]) ⟨rfl, rfl, rfl, rfl, trivial⟩ ?_)
  refine CX.block ?_
  refine CX.seq ?_
  refine CX.region ?_
  refine RX.cons rfl rfl (op_w (yw_eql rfl rfl rfl) rfl rfl ?_)
  refine RX.cons rfl rfl (op_w (yw_assign rfl rfl) rfl rfl ?_)
  refine RX.nil (XX.next (V' := [(1, .pointer (some ⟨g1, 0, none⟩)), (2, .pointer (some ⟨g2, 0, none⟩)), (4, .pointer (some ⟨g3, 0, none⟩)), (11, .int .i64 f.kind), (12, .bool (decide (f.kind = 1)))]) ⟨rfl, rfl, rfl, rfl, rfl, trivial⟩ ?_)
  refine CX.condD (p := f.kind = 1) rfl (fun c12 => ?_) (fun c12 => ?_)
  · exfalso; omega
  · refine CX.seq ?_
    refine CX.region ?_
    refine RX.cons rfl rfl (op_w (yw_eql rfl rfl rfl) rfl rfl ?_)
    refine RX.cons rfl rfl (op_w (yw_assign rfl rfl) rfl rfl ?_)
    refine RX.nil (XX.next (V' := [(1, .pointer (some ⟨g1, 0, none⟩)), (2, .pointer (some ⟨g2, 0, none⟩)), (4, .pointer (some ⟨g3, 0, none⟩)), (11, .int .i64 f.kind), (77, .bool (decide (f.kind = 2)))]) ⟨rfl, rfl, rfl, rfl, rfl, trivial⟩ ?_)
    refine CX.condD (p := f.kind = 2) rfl (fun c77 => ?_) (fun c77 => ?_)
    · exfalso; omega
    · refine CX.seq ?_
      refine CX.region ?_
      refine RX.cons rfl rfl (op_w (yw_eql rfl rfl rfl) rfl rfl ?_)
      refine RX.cons rfl rfl (op_w (yw_assign rfl rfl) rfl rfl ?_)
      refine RX.nil (XX.next (V' := [(1, .pointer (some ⟨g1, 0, none⟩)), (2, .pointer (some ⟨g2, 0, none⟩)), (4, .pointer (some ⟨g3, 0, none⟩)), (11, .int .i64 f.kind), (102, .bool (decide (f.kind = 3)))]) ⟨rfl, rfl, rfl, rfl, rfl, trivial⟩ ?_)
      refine CX.condD (p := f.kind = 3) rfl (fun c102 => ?_) (fun c102 => ?_)
      · exfalso; omega
      · refine CX.seq ?_
        refine CX.region ?_
        refine RX.cons rfl rfl (op_w (yw_eql rfl rfl rfl) rfl rfl ?_)
        refine RX.cons rfl rfl (op_w (yw_assign rfl rfl) rfl rfl ?_)
        refine RX.nil (XX.next (V' := [(1, .pointer (some ⟨g1, 0, none⟩)), (2, .pointer (some ⟨g2, 0, none⟩)), (4, .pointer (some ⟨g3, 0, none⟩)), (11, .int .i64 f.kind), (174, .bool (decide (f.kind = 4)))]) ⟨rfl, rfl, rfl, rfl, rfl, trivial⟩ ?_)
        refine CX.condD (p := f.kind = 4) rfl (fun c174 => ?_) (fun c174 => ?_)
        · exfalso; omega
        · refine CX.seq ?_
          refine CX.region ?_
          refine RX.cons rfl rfl (op_w (yw_eql rfl rfl rfl) rfl rfl ?_)
          refine RX.cons rfl rfl (op_w (yw_assign rfl rfl) rfl rfl ?_)
          refine RX.nil (XX.next (V' := [(1, .pointer (some ⟨g1, 0, none⟩)), (2, .pointer (some ⟨g2, 0, none⟩)), (4, .pointer (some ⟨g3, 0, none⟩)), (200, .bool (decide (f.kind = 5)))]) ⟨rfl, rfl, rfl, rfl, trivial⟩ ?_)
          refine CX.condD (p := f.kind = 5) rfl (fun c200 => ?_) (fun c200 => ?_)
          · exfalso; omega
          · refine CX.skip (XX.inBlock (V' := [(1, .pointer (some ⟨g1, 0, none⟩)), (2, .pointer (some ⟨g2, 0, none⟩)), (4, .pointer (some ⟨g3, 0, none⟩))]) ⟨rfl, rfl, rfl, trivial⟩ ?_)
            refine XX.next (V' := [(1, .pointer (some ⟨g1, 0, none⟩)), (2, .pointer (some ⟨g2, 0, none⟩)), (4, .pointer (some ⟨g3, 0, none⟩))]) ⟨rfl, rfl, rfl, trivial⟩ ?_
            refine CX.seq ?_
            refine CX.region ?_
            refine RX.cons rfl rfl (op_yld (y_loadA (i := 2) rfl rfl agg_33 rfl rfl) rfl rfl ?_)
            refine RX.cons rfl rfl (op_yld (y_loadA (i := 0) rfl rfl agg_33 rfl rfl) rfl rfl ?_)
            refine RX.cons rfl rfl (op_callE rfl rfl rfl rfl rfl ent_39 (fun w _ => w_rest f ({ kind := f.kind, id := 0, version := f.version, period := 0, second := 0, account := 0, device := 0, recording := 0, territory := 0, holder := 0, role := 0, since := 0, till := 0, amount := 0, share := 0, currency := 0, mark := 0, text := .empty } : Fct) hx) (fun x39 _ => ?_))
            refine RX.cons rfl rfl (op_w (yw_extract rfl rfl rfl) rfl rfl ?_)
            refine RX.cons rfl rfl (op_w (yw_extract rfl rfl rfl) rfl rfl ?_)
            refine RX.cons rfl rfl (op_storeAll (i := 1) rfl rfl rfl rfl szt_33 rfl (plain_of rfl) rfl rfl ?_)
            refine RX.cons rfl rfl (op_w (yw_assign rfl rfl) rfl rfl ?_)
            refine RX.nil (XX.next (V' := [(2, .pointer (some ⟨g2, 0, none⟩)), (3, .bool x39.2)]) ⟨rfl, rfl, trivial⟩ ?_)
            refine CX.ret ?_
            exact ret_cellT (i := 1) rfl rfl rfl agg_33 rfl rfl fun w1 hw => ⟨(({ kind := x39.1.kind, id := x39.1.id, version := x39.1.version, period := x39.1.period, second := x39.1.second, account := x39.1.account, device := x39.1.device, recording := x39.1.recording, territory := x39.1.territory, holder := x39.1.holder, role := x39.1.role, since := x39.1.since, till := x39.1.till, amount := x39.1.amount, share := x39.1.share, currency := x39.1.currency, mark := x39.1.mark, text := x39.1.text } : Fct), x39.2), fun h => absurd h c12, rfl, hw.sub (List.nil_sublist _)⟩

theorem w_fields {w : World} (f : Fct) (hx : f.text.size ≤ 9223372036854775807) : Calls Tryd.prog 26 #[.agg (Fct.cells f)] w (fun e w' => ∃ x : Fct × Bool, (f.kind = 1 → x.1 = playOf f ∧ x.2 = playOk f) ∧ e = .returned (.tuple #[.agg (Fct.cells x.1), .bool x.2]) ∧ SL w [] w' []) := by
  by_cases h1 : f.kind = 1
  · exact w_fields1 f hx h1
  by_cases h2 : f.kind = 2
  · exact w_fields2 f hx h2
  by_cases h3 : f.kind = 3
  · exact w_fields3 f hx h3
  by_cases h4 : f.kind = 4
  · exact w_fields4 f hx h4
  by_cases h5 : f.kind = 5
  · exact w_fields5 f hx h5
  exact w_fields0 f hx ⟨h1, h2, h3, h4, h5⟩

set_option maxRecDepth 100000 in
theorem w_refValid {w : World} (f : Fct) (hx : f.text.size ≤ 9223372036854775807) :
    Calls Tryd.prog 17 #[.agg (Fct.cells f)] w (fun e w' => ∃ b : Bool, (f.kind = 1 → b = f.valid) ∧ e = .returned (.bool b) ∧ SL w [] w' []) := by
  refine calls_of_CX (O := []) (L := []) (args := [.agg (Fct.cells f)]) Tryd.func17 rfl (by simp [Tryd.ntmps17]) (SL.refl w) ?_
  refine CX.sub (V' := [(0, .agg (Fct.cells f))]) ⟨rfl, trivial⟩ ?_
  refine CX.seq ?_
  refine CX.region ?_
  refine RX.cons rfl rfl (op_box rfl rfl rfl rfl fun g1 => ?_)
  refine RX.cons rfl rfl (op_w (yw_assign rfl rfl) rfl rfl ?_)
  refine RX.nil (XX.next (V' := [(1, .pointer (some ⟨g1, 0, none⟩))]) ⟨rfl, trivial⟩ ?_)
  refine CX.seq ?_
  refine CX.region ?_
  refine RX.cons rfl rfl (op_yld (y_loadA (i := 0) rfl rfl agg_33 rfl rfl) rfl rfl ?_)
  refine RX.cons rfl rfl (op_callE rfl rfl rfl rfl rfl ent_26 (fun w _ => w_fields f hx) (fun x26 h26 => ?_))
  refine RX.cons rfl rfl (op_w (yw_move rfl rfl) rfl rfl ?_)
  refine RX.cons rfl rfl (op_w (yw_extract rfl rfl rfl) rfl rfl ?_)
  refine RX.cons rfl rfl (op_w (yw_extract rfl rfl rfl) rfl rfl ?_)
  refine RX.cons rfl rfl (op_alloc rfl rfl rfl zero_33 fun g2 => ?_)
  refine RX.cons rfl rfl (op_storeAll (i := 0) rfl rfl rfl rfl szt_33 rfl (plain_of rfl) rfl rfl ?_)
  refine RX.cons rfl rfl (op_w (yw_assign rfl rfl) rfl rfl ?_)
  refine RX.nil (XX.next (V' := [(1, .pointer (some ⟨g1, 0, none⟩)), (3, .pointer (some ⟨g2, 0, none⟩)), (4, .bool x26.2)]) ⟨rfl, rfl, rfl, trivial⟩ ?_)
  refine CX.seq ?_
  refine CX.region ?_
  refine RX.cons rfl rfl (op_w (yw_move rfl rfl) rfl rfl ?_)
  refine RX.cons rfl rfl (op_w (yw_move rfl rfl) rfl rfl ?_)
  refine RX.split (t := 11) (b := x26.2) rfl (fun d11 => ?_) (fun d11 => ?_)
  · refine RX.consG rfl rfl rfl rfl rfl (op_yld (y_loadA (i := 0) rfl rfl agg_33 rfl rfl) rfl rfl ?_)
    refine RX.consG rfl rfl rfl rfl rfl (op_yld (y_loadA (i := 1) rfl rfl agg_33 rfl rfl) rfl rfl ?_)
    refine RX.consG rfl rfl rfl rfl rfl (op_w (yw_eqlAgg (b := Fct.same x26.1 f) rfl rfl rfl eqg_33 (fun w => eq_fct _ _ w)) rfl rfl ?_)
    refine RX.cons rfl rfl (op_w (yw_pickT rfl rfl rfl) rfl rfl ?_)
    refine RX.cons rfl rfl (op_w (yw_move rfl rfl) rfl rfl ?_)
    refine RX.split (t := 16) (b := Fct.same x26.1 f) rfl (fun d16 => ?_) (fun d16 => ?_)
    · refine RX.consG rfl rfl rfl rfl rfl (op_w (yw_fieldAddr rfl fld_33_2 rfl) rfl rfl ?_)
      refine RX.consG rfl rfl rfl rfl rfl (op_yld (y_load (i := 1) rfl rfl one_3 rfl rfl) rfl rfl ?_)
      refine RX.consG rfl rfl rfl rfl rfl (op_callV (v := .bool (within f.version 1 1000)) rfl rfl rfl rfl rfl ent_27 (fun w _ => w_within f.version 1 1000) ?_)
      refine RX.cons rfl rfl (op_w (yw_pickT rfl rfl rfl) rfl rfl ?_)
      refine RX.cons rfl rfl (op_w (yw_assign rfl rfl) rfl rfl ?_)
      refine RX.nil (XX.next (V' := [(2, .bool (within f.version 1 1000))]) ⟨rfl, trivial⟩ ?_)
      refine CX.ret ?_
      exact ret_tmp rfl rfl fun w1 hw => ⟨(within f.version 1 1000), fun h => by rw [ref_valid h (h26 h).1 (h26 h).2]; simp [d11, d16], rfl, hw.sub (List.nil_sublist _)⟩
    · refine RX.skip rfl rfl rfl rfl rfl rfl rfl ?_
      refine RX.skip rfl rfl rfl rfl rfl rfl rfl ?_
      refine RX.skip rfl rfl rfl rfl rfl rfl rfl ?_
      refine RX.cons rfl rfl (op_w (yw_pickF rfl rfl rfl) rfl rfl ?_)
      refine RX.cons rfl rfl (op_w (yw_assign rfl rfl) rfl rfl ?_)
      refine RX.nil (XX.next (V' := [(2, .bool false)]) ⟨rfl, trivial⟩ ?_)
      refine CX.ret ?_
      exact ret_tmp rfl rfl fun w1 hw => ⟨false, fun h => by rw [ref_valid h (h26 h).1 (h26 h).2]; simp [d11, d16], rfl, hw.sub (List.nil_sublist _)⟩
  · refine RX.skip rfl rfl rfl rfl rfl rfl rfl ?_
    refine RX.skip rfl rfl rfl rfl rfl rfl rfl ?_
    refine RX.skip rfl rfl rfl rfl rfl rfl rfl ?_
    refine RX.cons rfl rfl (op_w (yw_pickF rfl rfl rfl) rfl rfl ?_)
    refine RX.cons rfl rfl (op_w (yw_move rfl rfl) rfl rfl ?_)
    refine RX.skip rfl rfl rfl rfl rfl rfl rfl ?_
    refine RX.skip rfl rfl rfl rfl rfl rfl rfl ?_
    refine RX.skip rfl rfl rfl rfl rfl rfl rfl ?_
    refine RX.cons rfl rfl (op_w (yw_pickF rfl rfl rfl) rfl rfl ?_)
    refine RX.cons rfl rfl (op_w (yw_assign rfl rfl) rfl rfl ?_)
    refine RX.nil (XX.next (V' := [(2, .bool false)]) ⟨rfl, trivial⟩ ?_)
    refine CX.ret ?_
    exact ret_tmp rfl rfl fun w1 hw => ⟨false, fun h => by rw [ref_valid h (h26 h).1 (h26 h).2]; simp [d11], rfl, hw.sub (List.nil_sublist _)⟩

end Go.Proofs.YtmndhiaaolfepaaDoor
