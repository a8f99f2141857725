/- Walks, printed by a program. -/
import Derived.Test.YtmndhiaaolfepaaDoorWalkB
namespace Go.Proofs.YtmndhiaaolfepaaDoor
set_option linter.all false
open Go Go.RowKit
set_option maxRecDepth 100000
theorem fld_60_3 : Fld Tryd.prog 60 3 3 := ⟨_, _, (Tryd.prog.info? 3).get!, Tryd.underlying60, rfl, rfl, by kernel_rfl, by decide +kernel⟩
theorem fld_60_4 : Fld Tryd.prog 60 4 4 := ⟨_, _, (Tryd.prog.info? 58).get!, Tryd.underlying60, rfl, rfl, by kernel_rfl, by decide +kernel⟩
theorem one_58 : One Tryd.prog 58 := ⟨_, Tryd.underlying58, rfl⟩
theorem mapt_58 : MapT Tryd.prog 58 (.int .i64 0) := ⟨_, _, (Tryd.prog.info? 3).get!, Tryd.underlying58, Tryd.underlying3, by kernel_rfl, by kernel_rfl⟩
theorem fld_60_0 : Fld Tryd.prog 60 0 0 := ⟨_, _, (Tryd.prog.info? 3).get!, Tryd.underlying60, rfl, rfl, by kernel_rfl, by decide +kernel⟩
theorem szt_60 : SzT Tryd.prog 60 5 := ⟨(Tryd.prog.info? 60).get!, by kernel_rfl, by kernel_rfl⟩
theorem ent_41 : ∀ args w, (callFunc 41 args).run Tryd.prog w = .ok (.enter 41 args) w := enters_of Tryd.func41 (by kernel_rfl) rfl
theorem fld_60_1 : Fld Tryd.prog 60 1 1 := ⟨_, _, (Tryd.prog.info? 3).get!, Tryd.underlying60, rfl, rfl, by kernel_rfl, by decide +kernel⟩
theorem agg_54 : AggT Tryd.prog 54 18 := ⟨_, _, Tryd.underlying54, rfl, (by kernel_rfl : Tryd.prog.info? 54 = some (Tryd.prog.info? 54).get!), by kernel_rfl⟩
theorem ent_29 : ∀ args w, (callFunc 29 args).run Tryd.prog w = .ok (.enter 29 args) w := enters_of Tryd.func29 (by kernel_rfl) rfl
theorem fld_60_2 : Fld Tryd.prog 60 2 2 := ⟨_, _, (Tryd.prog.info? 3).get!, Tryd.underlying60, rfl, rfl, by kernel_rfl, by decide +kernel⟩
theorem fld_33_7 : Fld Tryd.prog 33 7 7 := ⟨_, _, (Tryd.prog.info? 3).get!, Tryd.underlying33, rfl, rfl, by kernel_rfl, by decide +kernel⟩
theorem ent_42 : ∀ args w, (callFunc 42 args).run Tryd.prog w = .ok (.enter 42 args) w := enters_of Tryd.func42 (by kernel_rfl) rfl
set_option maxRecDepth 100000 in
theorem w_begin {w : World} {g m : Nat} (x : Plr) (hs : SL w [g, m] w [.blk g (.cells (plrCells x m) 60 (0, 0)), .imap m (loopsMap x)]) (h0 : 0 ≤ x.session) (h1 : x.session ≤ 1000000) :
    Calls Tryd.prog 41 #[.pointer (some ⟨g, 0, none⟩)] w (fun e w' => e = .returned (.tuple #[]) ∧ SL w [g, m] w' [.blk g (.cells (plrCells x.begin m) 60 (0, 0)), .imap m (loopsMap x.begin)]) := by
  refine calls_of_CX (O := [g, m]) (L := [.blk g (.cells (plrCells x m) 60 (0, 0)), .imap m (loopsMap x)]) (args := [.pointer (some ⟨g, 0, none⟩)]) Tryd.func41 rfl (by simp [Tryd.ntmps41]) hs ?_
  refine CX.sub (V' := [(0, .pointer (some ⟨g, 0, none⟩))]) ⟨rfl, trivial⟩ ?_
  refine CX.seq ?_
  refine CX.region ?_
  refine RX.cons rfl rfl (op_w (yw_move rfl rfl) rfl rfl ?_)
  refine RX.cons rfl rfl (op_w (yw_nilCheck rfl rfl) rfl rfl ?_)
  refine RX.cons rfl rfl (op_w (yw_fieldAddr rfl fld_60_3 rfl) rfl rfl ?_)
  refine RX.cons rfl rfl (op_yld (y_load (i := 0) rfl rfl one_3 rfl rfl) rfl rfl ?_)
  refine RX.cons rfl rfl (op_w (yw_add rfl rfl rfl (by omega) (by omega)) rfl rfl ?_)
  refine RX.cons rfl rfl (op_w (yw_nilCheck rfl rfl) rfl rfl ?_)
  refine RX.cons rfl rfl (op_w (yw_fieldAddr rfl fld_60_3 rfl) rfl rfl ?_)
  refine RX.cons rfl rfl (op_store1 (i := 0) (cs' := #[.int .i64 x.device, .int .i64 x.last, .int .i64 x.stop, .int .i64 (x.session + 1), .map (some m)]) rfl rfl rfl rfl szt_3 rfl rfl rfl rfl ?_)
  refine RX.nil (XX.next (V' := [(0, .pointer (some ⟨g, 0, none⟩))]) ⟨rfl, trivial⟩ ?_)
  refine CX.region ?_
  refine RX.cons rfl rfl (op_w (yw_move rfl rfl) rfl rfl ?_)
  refine RX.cons rfl rfl (op_w (yw_nilCheck rfl rfl) rfl rfl ?_)
  refine RX.cons rfl rfl (op_w (yw_fieldAddr rfl fld_60_4 rfl) rfl rfl ?_)
  refine RX.cons rfl rfl (op_yld (y_load (i := 0) rfl rfl one_58 rfl rfl) rfl rfl ?_)
  refine RX.cons rfl rfl (op_clearMap (i := 1) rfl rfl rfl mapt_58 rfl ?_)
  refine RX.nil ?_
  exact end_none rfl fun w1 hw => ⟨rfl, hw⟩

set_option maxRecDepth 100000 in
theorem w_look {w : World} {g m : Nat} (x : Plr) (p : Fct) (hs : SL w [g, m] w [.blk g (.cells (plrCells x m) 60 (0, 0)), .imap m (loopsMap x)]) (hx : PlrOk x) (h0 : 0 ≤ p.second) (h1 : p.second ≤ 3155759999) (h2 : 0 ≤ p.amount) (h3 : p.amount ≤ 86400000) :
    Calls Tryd.prog 32 #[.pointer (some ⟨g, 0, none⟩), .agg (Fct.cells p)] w (fun e w' => ∃ m', True ∧ e = .returned (.bool (x.look p).2) ∧ SL w [g, m] w' [.blk g (.cells (plrCells ((x.look p).1) m') 60 (0, 0)), .imap m' (loopsMap ((x.look p).1))]) := by
  refine calls_of_CX (O := [g, m]) (L := [.blk g (.cells (plrCells x m) 60 (0, 0)), .imap m (loopsMap x)]) (args := [.pointer (some ⟨g, 0, none⟩), .agg (Fct.cells p)]) Tryd.func32 rfl (by simp [Tryd.ntmps32]) hs ?_
  refine CX.sub (V' := [(0, .pointer (some ⟨g, 0, none⟩)), (1, .agg (Fct.cells p))]) ⟨rfl, rfl, trivial⟩ ?_
  refine CX.seq ?_
  refine CX.region ?_
  refine RX.cons rfl rfl (op_box rfl rfl rfl rfl fun g1 => ?_)
  refine RX.cons rfl rfl (op_w (yw_assign rfl rfl) rfl rfl ?_)
  refine RX.nil (XX.next (V' := [(0, .pointer (some ⟨g, 0, none⟩)), (3, .pointer (some ⟨g1, 0, none⟩))]) ⟨rfl, rfl, trivial⟩ ?_)
  refine CX.cut (σ := Nat) (fun m1 => [(0, .pointer (some ⟨g, 0, none⟩)), (3, .pointer (some ⟨g1, 0, none⟩))]) (fun m1 => [.blk g (.cells (plrCells (x.fresh p) m1) 60 (0, 0)), .imap m1 (loopsMap (x.fresh p)), .blk g1 (.cells (Fct.cells p) 54 (0, 0))]) (fun m1 => True) ?_ (fun m1 _ => ?_)
  · refine CX.seq ?_
    refine CX.draw 8 (by kernel_rfl) ?_
    refine DX.takeW 0 1 (by kernel_rfl) rfl rfl rfl rfl rfl (yw_move rfl rfl) ?_
    refine DX.takeW 1 3 (by kernel_rfl) rfl rfl rfl rfl rfl (yw_nilCheck rfl rfl) ?_
    refine DX.takeW 2 7 (by kernel_rfl) rfl rfl rfl rfl rfl (yw_field0 rfl fld_60_0 rfl) ?_
    refine DX.take 3 15 (by kernel_rfl) rfl rfl rfl rfl rfl (List.Sublist.refl _) (y_load (i := 1) rfl rfl one_3 rfl rfl) ?_
    refine DX.takeW 4 31 (by kernel_rfl) rfl rfl rfl rfl rfl (yw_field0 rfl fld_54_0 rfl) ?_
    refine DX.takeW 5 63 (by kernel_rfl) rfl rfl rfl rfl rfl (yw_fieldAddr rfl fld_33_6 rfl) ?_
    refine DX.take 6 127 (by kernel_rfl) rfl rfl rfl rfl rfl (List.Sublist.refl _) (y_load (i := 0) rfl rfl one_3 rfl rfl) ?_
    refine DX.takeW 7 255 (by kernel_rfl) rfl rfl rfl rfl rfl (yw_neq rfl rfl rfl) ?_
    refine DX.done (by kernel_rfl) (XX.next (V' := [(0, .pointer (some ⟨g, 0, none⟩)), (3, .pointer (some ⟨g1, 0, none⟩)), (12, .bool (decide (x.device ≠ p.device)))]) ⟨rfl, rfl, rfl, trivial⟩ ?_)
    refine CX.condD (p := x.device ≠ p.device) rfl (fun c12 => ?_) (fun c12 => ?_)
    · refine CX.seq ?_
      refine CX.region ?_
      refine RX.cons rfl rfl (op_w (yw_move rfl rfl) rfl rfl ?_)
      refine RX.cons rfl rfl (op_w (yw_field0 rfl fld_54_0 rfl) rfl rfl ?_)
      refine RX.cons rfl rfl (op_w (yw_fieldAddr rfl fld_33_6 rfl) rfl rfl ?_)
      refine RX.cons rfl rfl (op_yld (y_load (i := 0) rfl rfl one_3 rfl rfl) rfl rfl ?_)
      refine RX.cons rfl rfl (op_w (yw_field0 rfl fld_54_0 rfl) rfl rfl ?_)
      refine RX.cons rfl rfl (op_w (yw_fieldAddr rfl fld_33_4 rfl) rfl rfl ?_)
      refine RX.cons rfl rfl (op_yld (y_load (i := 0) rfl rfl one_3 rfl rfl) rfl rfl ?_)
      refine RX.cons rfl rfl (op_makeMap rfl rfl rfl fun m' => ?_)
      refine RX.know1 0 (q := .imap m' (loopsMap { device := p.device, last := p.second, stop := 0, session := 0, loops := fun _ => 0 })) rfl rfl ?_
      refine RX.cons rfl rfl (op_w (yw_build (v := .agg (#[.int .i64 p.device, .int .i64 p.second, .int .i64 0, .int .i64 0, .map (some m')])) rfl rfl (fun _ => by kernel_rfl)) rfl rfl ?_)
      refine RX.cons rfl rfl (op_w (yw_nilCheck rfl rfl) rfl rfl ?_)
      refine RX.cons rfl rfl (op_storeAll (i := 2) rfl rfl rfl rfl szt_60 rfl (plain_of rfl) rfl rfl ?_)
      refine RX.nil (XX.next (V' := [(0, .pointer (some ⟨g, 0, none⟩)), (3, .pointer (some ⟨g1, 0, none⟩))]) ⟨rfl, rfl, trivial⟩ ?_)
      refine CX.region ?_
      refine RX.cons rfl rfl (op_w (yw_move rfl rfl) rfl rfl ?_)
      refine RX.cons rfl rfl (op_callP [.blk g (.cells (#[.int .i64 p.device, .int .i64 p.second, .int .i64 0, .int .i64 0, .map (some m')]) 60 (0, 0)), .imap m' (loopsMap { device := p.device, last := p.second, stop := 0, session := 0, loops := fun _ => 0 })] [.blk g1 (.cells (Fct.cells p) 54 (0, 0)), .imap m (loopsMap x)] rfl rfl rfl rfl rfl ent_41 ((perm_pick 2 rfl).trans (List.Perm.cons _ ((perm_pick 0 rfl).trans (List.Perm.cons _ (List.Perm.refl _))))) (σ := Unit) (val := fun _ => .tuple #[]) (LL := fun _ => [.blk g (.cells (plrCells (({ device := p.device, last := p.second, stop := 0, session := 0, loops := fun _ => 0 } : Plr).begin) m') 60 (0, 0)), .imap m' (loopsMap (({ device := p.device, last := p.second, stop := 0, session := 0, loops := fun _ => 0 } : Plr).begin))]) (post := fun _ => True) (fun w hw hs => (w_begin ({ device := p.device, last := p.second, stop := 0, session := 0, loops := fun _ => 0 } : Plr) hs (Int.le_refl 0) (by decide : (0:Int) ≤ 1000000)).mono fun e w' h => ⟨(), trivial, h⟩) (fun _ _ => ?_))
      refine RX.nil (by rw [fresh_ne p c12]; exact XX.meetP ([.imap m (loopsMap x)]) m' trivial ⟨rfl, rfl, trivial⟩ ((perm_pick 0 rfl).trans (List.Perm.cons _ ((perm_pick 0 rfl).trans (List.Perm.cons _ ((perm_pick 0 rfl).trans (List.Perm.cons _ (List.Perm.refl _))))))))
    · refine CX.skip (by rw [fresh_eq p (by omega)]; exact XX.meetP ([]) m trivial ⟨rfl, rfl, trivial⟩ ((perm_pick 1 rfl).trans (List.Perm.cons _ ((perm_pick 1 rfl).trans (List.Perm.cons _ ((perm_pick 0 rfl).trans (List.Perm.cons _ (List.Perm.refl _))))))))
  · have hok := fresh_ok (p := p) hx h0 h1
    refine CX.cut (σ := Unit) (fun _ => [(0, .pointer (some ⟨g, 0, none⟩)), (3, .pointer (some ⟨g1, 0, none⟩))]) (fun _ => [.blk g (.cells (plrCells (x.gap p) m1) 60 (0, 0)), .imap m1 (loopsMap (x.gap p)), .blk g1 (.cells (Fct.cells p) 54 (0, 0))]) (fun _ => True) ?_ (fun _ _ => ?_)
    · refine CX.seq ?_
      refine CX.draw 9 (by kernel_rfl) ?_
      refine DX.takeW 0 1 (by kernel_rfl) rfl rfl rfl rfl rfl (yw_field0 rfl fld_54_0 rfl) ?_
      refine DX.takeW 1 3 (by kernel_rfl) rfl rfl rfl rfl rfl (yw_fieldAddr rfl fld_33_4 rfl) ?_
      refine DX.take 2 7 (by kernel_rfl) rfl rfl rfl rfl rfl (List.Sublist.refl _) (y_load (i := 2) rfl rfl one_3 rfl rfl) ?_
      refine DX.takeW 3 15 (by kernel_rfl) rfl rfl rfl rfl rfl (yw_move rfl rfl) ?_
      refine DX.takeW 4 31 (by kernel_rfl) rfl rfl rfl rfl rfl (yw_nilCheck rfl rfl) ?_
      refine DX.takeW 5 63 (by kernel_rfl) rfl rfl rfl rfl rfl (yw_fieldAddr rfl fld_60_1 rfl) ?_
      refine DX.take 6 127 (by kernel_rfl) rfl rfl rfl rfl rfl (List.Sublist.refl _) (y_load (i := 0) rfl rfl one_3 rfl rfl) ?_
      refine DX.takeW 7 255 (by kernel_rfl) rfl rfl rfl rfl rfl (yw_sub rfl rfl rfl (by have := hok.last; have := hok.lastLe; omega) (by have := hok.last; have := hok.lastLe; omega)) ?_
      refine DX.takeW 8 511 (by kernel_rfl) rfl rfl rfl rfl rfl (yw_gtr rfl rfl rfl) ?_
      refine DX.done (by kernel_rfl) (XX.next (V' := [(0, .pointer (some ⟨g, 0, none⟩)), (3, .pointer (some ⟨g1, 0, none⟩)), (33, .bool (decide (1800 < p.second - ((x.fresh p).last))))]) ⟨rfl, rfl, rfl, trivial⟩ ?_)
      refine CX.condD (p := 1800 < p.second - ((x.fresh p).last)) rfl (fun c33 => ?_) (fun c33 => ?_)
      · refine CX.region ?_
        refine RX.cons rfl rfl (op_w (yw_move rfl rfl) rfl rfl ?_)
        refine RX.cons rfl rfl (op_callP [.blk g (.cells (plrCells (x.fresh p) m1) 60 (0, 0)), .imap m1 (loopsMap (x.fresh p))] [.blk g1 (.cells (Fct.cells p) 54 (0, 0))] rfl rfl rfl rfl rfl ent_41 ((perm_pick 0 rfl).trans (List.Perm.cons _ ((perm_pick 0 rfl).trans (List.Perm.cons _ (List.Perm.refl _))))) (σ := Unit) (val := fun _ => .tuple #[]) (LL := fun _ => [.blk g (.cells (plrCells ((x.fresh p).begin) m1) 60 (0, 0)), .imap m1 (loopsMap ((x.fresh p).begin))]) (post := fun _ => True) (fun w hw hs => (w_begin (x.fresh p) hs hok.session hok.sessionLe).mono fun e w' h => ⟨(), trivial, h⟩) (fun _ _ => ?_))
        refine RX.nil (by rw [arrive_gap c33]; exact XX.meetP ([]) () trivial ⟨rfl, rfl, trivial⟩ ((perm_pick 0 rfl).trans (List.Perm.cons _ ((perm_pick 0 rfl).trans (List.Perm.cons _ ((perm_pick 0 rfl).trans (List.Perm.cons _ (List.Perm.refl _))))))))
      · refine CX.skip (by rw [arrive_near c33]; exact XX.meetP ([]) () trivial ⟨rfl, rfl, trivial⟩ ((perm_pick 0 rfl).trans (List.Perm.cons _ ((perm_pick 0 rfl).trans (List.Perm.cons _ ((perm_pick 0 rfl).trans (List.Perm.cons _ (List.Perm.refl _))))))))
    · refine CX.seq ?_
      refine CX.region ?_
      refine RX.cons rfl rfl (op_w (yw_move rfl rfl) rfl rfl ?_)
      refine RX.cons rfl rfl (op_w (yw_field0 rfl fld_54_0 rfl) rfl rfl ?_)
      refine RX.cons rfl rfl (op_w (yw_fieldAddr rfl fld_33_4 rfl) rfl rfl ?_)
      refine RX.cons rfl rfl (op_yld (y_load (i := 2) rfl rfl one_3 rfl rfl) rfl rfl ?_)
      refine RX.cons rfl rfl (op_w (yw_nilCheck rfl rfl) rfl rfl ?_)
      refine RX.cons rfl rfl (op_w (yw_fieldAddr rfl fld_60_1 rfl) rfl rfl ?_)
      refine RX.cons rfl rfl (op_store1 (i := 0) (cs' := #[.int .i64 ((x.gap p).device), .int .i64 p.second, .int .i64 ((x.gap p).stop), .int .i64 ((x.gap p).session), .map (some m1)]) rfl rfl rfl rfl szt_3 rfl rfl rfl rfl ?_)
      refine RX.nil (XX.next (V' := [(0, .pointer (some ⟨g, 0, none⟩)), (3, .pointer (some ⟨g1, 0, none⟩))]) ⟨rfl, rfl, trivial⟩ ?_)
      refine CX.seq ?_
      refine CX.seq ?_
      refine CX.draw 24 (by kernel_rfl) ?_
      refine DX.take 0 1 (by kernel_rfl) rfl rfl rfl rfl rfl (List.Sublist.refl _) (y_loadA (i := 2) rfl rfl agg_54 rfl rfl) ?_
      refine DX.step 1 3 (by kernel_rfl) rfl rfl rfl (op_callV (v := .bool (Fct.qual p)) rfl rfl rfl rfl rfl ent_29 (fun w _ => w_qualifies p) (DXs.mk (List.Sublist.refl _) ?_))
      refine DX.takeW 2 7 (by kernel_rfl) rfl rfl rfl rfl rfl (yw_not rfl rfl) ?_
      refine DX.takeW 3 15 (by kernel_rfl) rfl rfl rfl rfl rfl (yw_move rfl rfl) ?_
      refine DX.split (t := 45) (b := !(Fct.qual p)) rfl (fun d45 => ?_) (fun d45 => ?_)
      · refine DX.skip 4 31 (by kernel_rfl) rfl rfl rfl rfl rfl rfl rfl rfl ?_
        refine DX.skip 5 63 (by kernel_rfl) rfl rfl rfl rfl rfl rfl rfl rfl ?_
        refine DX.skip 6 127 (by kernel_rfl) rfl rfl rfl rfl rfl rfl rfl rfl ?_
        refine DX.skip 7 255 (by kernel_rfl) rfl rfl rfl rfl rfl rfl rfl rfl ?_
        refine DX.skip 8 511 (by kernel_rfl) rfl rfl rfl rfl rfl rfl rfl rfl ?_
        refine DX.skip 9 1023 (by kernel_rfl) rfl rfl rfl rfl rfl rfl rfl rfl ?_
        refine DX.skip 10 2047 (by kernel_rfl) rfl rfl rfl rfl rfl rfl rfl rfl ?_
        refine DX.skip 11 4095 (by kernel_rfl) rfl rfl rfl rfl rfl rfl rfl rfl ?_
        refine DX.takeW 12 8191 (by kernel_rfl) rfl rfl rfl rfl rfl (yw_pickT rfl rfl rfl) ?_
        refine DX.takeW 13 16383 (by kernel_rfl) rfl rfl rfl rfl rfl (yw_move rfl rfl) ?_
        refine DX.skip 14 32767 (by kernel_rfl) rfl rfl rfl rfl rfl rfl rfl rfl ?_
        refine DX.skip 15 65535 (by kernel_rfl) rfl rfl rfl rfl rfl rfl rfl rfl ?_
        refine DX.skip 16 131071 (by kernel_rfl) rfl rfl rfl rfl rfl rfl rfl rfl ?_
        refine DX.skip 17 262143 (by kernel_rfl) rfl rfl rfl rfl rfl rfl rfl rfl ?_
        refine DX.skip 18 524287 (by kernel_rfl) rfl rfl rfl rfl rfl rfl rfl rfl ?_
        refine DX.skip 19 1048575 (by kernel_rfl) rfl rfl rfl rfl rfl rfl rfl rfl ?_
        refine DX.skip 20 2097151 (by kernel_rfl) rfl rfl rfl rfl rfl rfl rfl rfl ?_
        refine DX.skip 21 4194303 (by kernel_rfl) rfl rfl rfl rfl rfl rfl rfl rfl ?_
        refine DX.skip 22 8388607 (by kernel_rfl) rfl rfl rfl rfl rfl rfl rfl rfl ?_
        refine DX.takeW 23 16777215 (by kernel_rfl) rfl rfl rfl rfl rfl (yw_pickT rfl rfl rfl) ?_
        refine DX.done (by kernel_rfl) (XX.next (V' := [(0, .pointer (some ⟨g, 0, none⟩)), (3, .pointer (some ⟨g1, 0, none⟩)), (65, .bool true)]) ⟨rfl, rfl, rfl, trivial⟩ ?_)
        refine CX.condT rfl ?_
        refine CX.seq ?_
        refine CX.region ?_
        refine RX.cons rfl rfl (op_w (yw_assign rfl rfl) rfl rfl ?_)
        refine RX.nil (XX.next (V' := [(4, .bool false)]) ⟨rfl, trivial⟩ ?_)
        refine CX.ret ?_
        refine XX.then_ret ?_
        exact ret_tmp rfl rfl fun w1 hw => ⟨m1, trivial, by rw [look_no (takes_no45 d45)], by rw [look_no (takes_no45 d45)]; exact hw.pick ((perm_pick 0 rfl).trans (List.Perm.cons _ ((perm_pick 0 rfl).trans (List.Perm.cons _ (List.Perm.refl _)))))⟩
      · refine DX.takeWG 4 31 (by kernel_rfl) rfl rfl rfl rfl rfl rfl rfl rfl (yw_field0 rfl fld_54_0 rfl) ?_
        refine DX.takeWG 5 63 (by kernel_rfl) rfl rfl rfl rfl rfl rfl rfl rfl (yw_fieldAddr rfl fld_33_4 rfl) ?_
        refine DX.takeG 6 127 (by kernel_rfl) rfl rfl rfl rfl rfl rfl rfl rfl (List.Sublist.refl _) (y_load (i := 2) rfl rfl one_3 rfl rfl) ?_
        refine DX.takeWG 7 255 (by kernel_rfl) rfl rfl rfl rfl rfl rfl rfl rfl (yw_move rfl rfl) ?_
        refine DX.takeWG 8 511 (by kernel_rfl) rfl rfl rfl rfl rfl rfl rfl rfl (yw_nilCheck rfl rfl) ?_
        refine DX.takeWG 9 1023 (by kernel_rfl) rfl rfl rfl rfl rfl rfl rfl rfl (yw_fieldAddr rfl fld_60_2 rfl) ?_
        refine DX.takeG 10 2047 (by kernel_rfl) rfl rfl rfl rfl rfl rfl rfl rfl (List.Sublist.refl _) (y_load (i := 0) rfl rfl one_3 rfl rfl) ?_
        refine DX.takeWG 11 4095 (by kernel_rfl) rfl rfl rfl rfl rfl rfl rfl rfl (yw_lss rfl rfl rfl) ?_
        refine DX.takeW 12 8191 (by kernel_rfl) rfl rfl rfl rfl rfl (yw_pickF rfl rfl rfl) ?_
        refine DX.takeW 13 16383 (by kernel_rfl) rfl rfl rfl rfl rfl (yw_move rfl rfl) ?_
        refine DX.splitD (t := 55) (p := p.second < (x.gap p).stop) rfl (fun d55 => ?_) (fun d55 => ?_)
        · refine DX.skip 14 32767 (by kernel_rfl) rfl rfl rfl rfl rfl rfl rfl rfl ?_
          refine DX.skip 15 65535 (by kernel_rfl) rfl rfl rfl rfl rfl rfl rfl rfl ?_
          refine DX.skip 16 131071 (by kernel_rfl) rfl rfl rfl rfl rfl rfl rfl rfl ?_
          refine DX.skip 17 262143 (by kernel_rfl) rfl rfl rfl rfl rfl rfl rfl rfl ?_
          refine DX.skip 18 524287 (by kernel_rfl) rfl rfl rfl rfl rfl rfl rfl rfl ?_
          refine DX.skip 19 1048575 (by kernel_rfl) rfl rfl rfl rfl rfl rfl rfl rfl ?_
          refine DX.skip 20 2097151 (by kernel_rfl) rfl rfl rfl rfl rfl rfl rfl rfl ?_
          refine DX.skip 21 4194303 (by kernel_rfl) rfl rfl rfl rfl rfl rfl rfl rfl ?_
          refine DX.skip 22 8388607 (by kernel_rfl) rfl rfl rfl rfl rfl rfl rfl rfl ?_
          refine DX.takeW 23 16777215 (by kernel_rfl) rfl rfl rfl rfl rfl (yw_pickT rfl rfl rfl) ?_
          refine DX.done (by kernel_rfl) (XX.next (V' := [(0, .pointer (some ⟨g, 0, none⟩)), (3, .pointer (some ⟨g1, 0, none⟩)), (65, .bool true)]) ⟨rfl, rfl, rfl, trivial⟩ ?_)
          refine CX.condT rfl ?_
          refine CX.seq ?_
          refine CX.region ?_
          refine RX.cons rfl rfl (op_w (yw_assign rfl rfl) rfl rfl ?_)
          refine RX.nil (XX.next (V' := [(4, .bool false)]) ⟨rfl, trivial⟩ ?_)
          refine CX.ret ?_
          refine XX.then_ret ?_
          exact ret_tmp rfl rfl fun w1 hw => ⟨m1, trivial, by rw [look_no (takes_no55 d55)], by rw [look_no (takes_no55 d55)]; exact hw.pick ((perm_pick 0 rfl).trans (List.Perm.cons _ ((perm_pick 0 rfl).trans (List.Perm.cons _ (List.Perm.refl _)))))⟩
        · refine DX.takeWG 14 32767 (by kernel_rfl) rfl rfl rfl rfl rfl rfl rfl rfl (yw_move rfl rfl) ?_
          refine DX.takeWG 15 65535 (by kernel_rfl) rfl rfl rfl rfl rfl rfl rfl rfl (yw_nilCheck rfl rfl) ?_
          refine DX.takeWG 16 131071 (by kernel_rfl) rfl rfl rfl rfl rfl rfl rfl rfl (yw_fieldAddr rfl fld_60_4 rfl) ?_
          refine DX.takeG 17 262143 (by kernel_rfl) rfl rfl rfl rfl rfl rfl rfl rfl (List.Sublist.refl _) (y_load (i := 0) rfl rfl one_58 rfl rfl) ?_
          refine DX.takeWG 18 524287 (by kernel_rfl) rfl rfl rfl rfl rfl rfl rfl rfl (yw_field0 rfl fld_54_0 rfl) ?_
          refine DX.takeWG 19 1048575 (by kernel_rfl) rfl rfl rfl rfl rfl rfl rfl rfl (yw_fieldAddr rfl fld_33_7 rfl) ?_
          refine DX.takeG 20 2097151 (by kernel_rfl) rfl rfl rfl rfl rfl rfl rfl rfl (List.Sublist.refl _) (y_load (i := 2) rfl rfl one_3 rfl rfl) ?_
          refine DX.takeG 21 4194303 (by kernel_rfl) rfl rfl rfl rfl rfl rfl rfl rfl (List.Sublist.refl _) (y_lookupE (i := 1) (v := .int .i64 ((x.arrive p).loops p.recording)) rfl rfl rfl mapt_58 rfl (loops_get _ _)) ?_
          refine DX.takeWG 22 8388607 (by kernel_rfl) rfl rfl rfl rfl rfl rfl rfl rfl (yw_geq rfl rfl rfl) ?_
          refine DX.takeW 23 16777215 (by kernel_rfl) rfl rfl rfl rfl rfl (yw_pickF rfl rfl rfl) ?_
          refine DX.done (by kernel_rfl) (XX.next (V' := [(0, .pointer (some ⟨g, 0, none⟩)), (3, .pointer (some ⟨g1, 0, none⟩)), (65, .bool (decide (5 ≤ (x.arrive p).loops p.recording)))]) ⟨rfl, rfl, rfl, trivial⟩ ?_)
          refine CX.condD (p := 5 ≤ (x.arrive p).loops p.recording) rfl (fun c65 => ?_) (fun c65 => ?_)
          · refine CX.seq ?_
            refine CX.region ?_
            refine RX.cons rfl rfl (op_w (yw_assign rfl rfl) rfl rfl ?_)
            refine RX.nil (XX.next (V' := [(4, .bool false)]) ⟨rfl, trivial⟩ ?_)
            refine CX.ret ?_
            refine XX.then_ret ?_
            exact ret_tmp rfl rfl fun w1 hw => ⟨m1, trivial, by rw [look_no (takes_no65 c65)], by rw [look_no (takes_no65 c65)]; exact hw.pick ((perm_pick 0 rfl).trans (List.Perm.cons _ ((perm_pick 0 rfl).trans (List.Perm.cons _ (List.Perm.refl _)))))⟩
          · refine CX.skip (XX.next (V' := [(0, .pointer (some ⟨g, 0, none⟩)), (3, .pointer (some ⟨g1, 0, none⟩))]) ⟨rfl, rfl, trivial⟩ ?_)
            refine CX.seq ?_
            refine CX.region ?_
            refine RX.cons rfl rfl (op_w (yw_move rfl rfl) rfl rfl ?_)
            refine RX.cons rfl rfl (op_yld (y_loadA (i := 2) rfl rfl agg_54 rfl rfl) rfl rfl ?_)
            refine RX.cons rfl rfl (op_callV (v := .int .i64 (Fct.stop p)) rfl rfl rfl rfl rfl ent_42 (fun w _ => w_end p h0 h1 h2 h3) ?_)
            refine RX.cons rfl rfl (op_w (yw_nilCheck rfl rfl) rfl rfl ?_)
            refine RX.cons rfl rfl (op_w (yw_fieldAddr rfl fld_60_2 rfl) rfl rfl ?_)
            refine RX.cons rfl rfl (op_store1 (i := 0) (cs' := #[.int .i64 ((x.gap p).device), .int .i64 p.second, .int .i64 (Fct.stop p), .int .i64 ((x.gap p).session), .map (some m1)]) rfl rfl rfl rfl szt_3 rfl rfl rfl rfl ?_)
            refine RX.nil (XX.next (V' := [(0, .pointer (some ⟨g, 0, none⟩)), (3, .pointer (some ⟨g1, 0, none⟩))]) ⟨rfl, rfl, trivial⟩ ?_)
            refine CX.seq ?_
            refine CX.draw 9 (by kernel_rfl) ?_
            refine DX.takeW 0 1 (by kernel_rfl) rfl rfl rfl rfl rfl (yw_move rfl rfl) ?_
            refine DX.takeW 1 3 (by kernel_rfl) rfl rfl rfl rfl rfl (yw_nilCheck rfl rfl) ?_
            refine DX.takeW 2 7 (by kernel_rfl) rfl rfl rfl rfl rfl (yw_fieldAddr rfl fld_60_4 rfl) ?_
            refine DX.take 3 15 (by kernel_rfl) rfl rfl rfl rfl rfl (List.Sublist.refl _) (y_load (i := 0) rfl rfl one_58 rfl rfl) ?_
            refine DX.takeW 4 31 (by kernel_rfl) rfl rfl rfl rfl rfl (yw_field0 rfl fld_54_0 rfl) ?_
            refine DX.takeW 5 63 (by kernel_rfl) rfl rfl rfl rfl rfl (yw_fieldAddr rfl fld_33_7 rfl) ?_
            refine DX.take 6 127 (by kernel_rfl) rfl rfl rfl rfl rfl (List.Sublist.refl _) (y_load (i := 2) rfl rfl one_3 rfl rfl) ?_
            refine DX.take 7 255 (by kernel_rfl) rfl rfl rfl rfl rfl (List.Sublist.refl _) (y_lookupE (i := 1) (v := .int .i64 ((x.arrive p).loops p.recording)) rfl rfl rfl mapt_58 rfl (loops_get _ _)) ?_
            refine DX.takeW 8 511 (by kernel_rfl) rfl rfl rfl rfl rfl (yw_add rfl rfl rfl (by have := arrive_loops hok p.recording; omega) (by have := arrive_loops hok p.recording; omega)) ?_
            refine DX.stepT 9 1023 (by kernel_rfl) rfl rfl rfl rfl (op_mapUpdate (i := 1) (.inl rfl) rfl rfl rfl rfl mapt_58 rfl ?_)
            refine DX.done (by kernel_rfl) (XX.next (V' := []) trivial ?_)
            refine CX.seq ?_
            refine CX.region ?_
            refine RX.cons rfl rfl (op_w (yw_assign rfl rfl) rfl rfl ?_)
            refine RX.nil (XX.next (V' := [(4, .bool true)]) ⟨rfl, trivial⟩ ?_)
            refine CX.ret ?_
            exact ret_tmp rfl rfl fun w1 hw => ⟨m1, trivial, by rw [look_yes (takes_yes d45 d55 c65)], by rw [look_yes (takes_yes d45 d55 c65), ← loops_count p (arrive_loops hok _)]; exact hw.pick ((perm_pick 0 rfl).trans (List.Perm.cons _ ((perm_pick 0 rfl).trans (List.Perm.cons _ (List.Perm.refl _)))))⟩

end Go.Proofs.YtmndhiaaolfepaaDoor
