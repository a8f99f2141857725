/- Walks, printed by a program. -/
import Derived.Test.YtmndhiaaolfepaaDoorWalkD
namespace Go.Proofs.YtmndhiaaolfepaaDoor
set_option linter.all false
open Go Go.RowKit
set_option maxRecDepth 100000
theorem zero_85 : Zero Tryd.prog 85 (.agg (#[.pointer none, .int .i64 0, .int .i64 0])) := ⟨(Tryd.prog.info? 85).get!, by kernel_rfl, by kernel_rfl⟩
theorem szt_85 : SzT Tryd.prog 85 3 := ⟨(Tryd.prog.info? 85).get!, by kernel_rfl, by kernel_rfl⟩
theorem agg_85 : AggT Tryd.prog 85 3 := ⟨_, _, Tryd.underlying85, rfl, (by kernel_rfl : Tryd.prog.info? 85 = some (Tryd.prog.info? 85).get!), by kernel_rfl⟩
theorem fld_85_0 : Fld Tryd.prog 85 0 0 := ⟨_, _, (Tryd.prog.info? 83).get!, Tryd.underlying85, rfl, rfl, by kernel_rfl, by decide +kernel⟩
theorem one_83 : One Tryd.prog 83 := ⟨_, Tryd.underlying83, rfl⟩
theorem fld_85_1 : Fld Tryd.prog 85 1 1 := ⟨_, _, (Tryd.prog.info? 3).get!, Tryd.underlying85, rfl, rfl, by kernel_rfl, by decide +kernel⟩
theorem fld_85_2 : Fld Tryd.prog 85 2 2 := ⟨_, _, (Tryd.prog.info? 3).get!, Tryd.underlying85, rfl, rfl, by kernel_rfl, by decide +kernel⟩
theorem mapt_78 : MapT Tryd.prog 78 (.agg (#[.nilFunc, .bool false, .nilFunc])) := ⟨_, _, (Tryd.prog.info? 76).get!, Tryd.underlying78, Tryd.underlying3, by kernel_rfl, by kernel_rfl⟩
theorem fld_81_0 : Fld Tryd.prog 81 0 0 := ⟨_, _, (Tryd.prog.info? 33).get!, Tryd.underlying81, rfl, rfl, by kernel_rfl, by decide +kernel⟩
theorem fld_33_5 : Fld Tryd.prog 33 5 5 := ⟨_, _, (Tryd.prog.info? 3).get!, Tryd.underlying33, rfl, rfl, by kernel_rfl, by decide +kernel⟩
theorem fld_33_8 : Fld Tryd.prog 33 8 8 := ⟨_, _, (Tryd.prog.info? 3).get!, Tryd.underlying33, rfl, rfl, by kernel_rfl, by decide +kernel⟩
theorem ent_71 : ∀ args w, (callFunc 71 args).run Tryd.prog w = .ok (.enter 71 args) w := enters_of Tryd.func71 (by kernel_rfl) rfl
theorem ent_72 : ∀ args w, (callFunc 72 args).run Tryd.prog w = .ok (.enter 72 args) w := enters_of Tryd.func72 (by kernel_rfl) rfl
theorem slb_82 : SlB Tryd.prog 82 85 3 24 (.agg (#[.pointer none, .int .i64 0, .int .i64 0])) := ⟨Tryd.underlying82, ⟨(Tryd.prog.info? 85).get!, by kernel_rfl, by kernel_rfl, by kernel_rfl, by kernel_rfl⟩, by decide, by decide⟩
set_option maxRecDepth 100000 in
theorem w_fid {w : World} (g j : Nat) :
    Calls Tryd.prog 71 #[.pointer (some ⟨g, j, none⟩)] w (fun e w' => e = .returned (.agg (#[.pointer (some ⟨g, j, none⟩), .int .i64 1, .int .i64 1000000])) ∧ SL w [] w' []) := by
  refine calls_of_CX (O := []) (L := []) (args := [.pointer (some ⟨g, j, none⟩)]) Tryd.func71 rfl (by simp [Tryd.ntmps71]) (SL.refl w) ?_
  refine CX.sub (V' := [(0, .pointer (some ⟨g, j, none⟩))]) ⟨rfl, trivial⟩ ?_
  refine CX.seq ?_
  refine CX.region ?_
  refine RX.cons rfl rfl (op_alloc rfl rfl rfl zero_85 fun g1 => ?_)
  refine RX.nil (XX.next (V' := [(0, .pointer (some ⟨g, j, none⟩)), (2, .pointer (some ⟨g1, 0, none⟩))]) ⟨rfl, rfl, trivial⟩ ?_)
  refine CX.seq ?_
  refine CX.region ?_
  refine RX.cons rfl rfl (op_w (yw_move rfl rfl) rfl rfl ?_)
  refine RX.cons rfl rfl (op_w (yw_build (v := .agg (#[.pointer (some ⟨g, j, none⟩), .int .i64 1, .int .i64 1000000])) rfl rfl (fun _ => by kernel_rfl)) rfl rfl ?_)
  refine RX.cons rfl rfl (op_storeAll (i := 0) rfl rfl rfl rfl szt_85 rfl (plain_of rfl) rfl rfl ?_)
  refine RX.nil (XX.next (V' := [(2, .pointer (some ⟨g1, 0, none⟩))]) ⟨rfl, trivial⟩ ?_)
  refine CX.ret ?_
  exact ret_cell (i := 0) rfl rfl agg_85 rfl rfl fun w1 hw => ⟨rfl, hw.sub (List.nil_sublist _)⟩

set_option maxRecDepth 100000 in
theorem w_fterr {w : World} (g j : Nat) :
    Calls Tryd.prog 72 #[.pointer (some ⟨g, j, none⟩)] w (fun e w' => e = .returned (.agg (#[.pointer (some ⟨g, j, none⟩), .int .i64 0, .int .i64 7])) ∧ SL w [] w' []) := by
  refine calls_of_CX (O := []) (L := []) (args := [.pointer (some ⟨g, j, none⟩)]) Tryd.func72 rfl (by simp [Tryd.ntmps72]) (SL.refl w) ?_
  refine CX.sub (V' := [(0, .pointer (some ⟨g, j, none⟩))]) ⟨rfl, trivial⟩ ?_
  refine CX.seq ?_
  refine CX.region ?_
  refine RX.cons rfl rfl (op_alloc rfl rfl rfl zero_85 fun g1 => ?_)
  refine RX.nil (XX.next (V' := [(0, .pointer (some ⟨g, j, none⟩)), (2, .pointer (some ⟨g1, 0, none⟩))]) ⟨rfl, rfl, trivial⟩ ?_)
  refine CX.seq ?_
  refine CX.region ?_
  refine RX.cons rfl rfl (op_w (yw_move rfl rfl) rfl rfl ?_)
  refine RX.cons rfl rfl (op_w (yw_build (v := .agg (#[.pointer (some ⟨g, j, none⟩), .int .i64 0, .int .i64 7])) rfl rfl (fun _ => by kernel_rfl)) rfl rfl ?_)
  refine RX.cons rfl rfl (op_storeAll (i := 0) rfl rfl rfl rfl szt_85 rfl (plain_of rfl) rfl rfl ?_)
  refine RX.nil (XX.next (V' := [(2, .pointer (some ⟨g1, 0, none⟩))]) ⟨rfl, trivial⟩ ?_)
  refine CX.ret ?_
  exact ret_cell (i := 0) rfl rfl agg_85 rfl rfl fun w1 hw => ⟨rfl, hw.sub (List.nil_sublist _)⟩

set_option maxRecDepth 100000 in
theorem w_fper {w : World} (g j : Nat) :
    Calls Tryd.prog 73 #[.pointer (some ⟨g, j, none⟩)] w (fun e w' => e = .returned (.agg (#[.pointer (some ⟨g, j, none⟩), .int .i64 0, .int .i64 1199])) ∧ SL w [] w' []) := by
  refine calls_of_CX (O := []) (L := []) (args := [.pointer (some ⟨g, j, none⟩)]) Tryd.func73 rfl (by simp [Tryd.ntmps73]) (SL.refl w) ?_
  refine CX.sub (V' := [(0, .pointer (some ⟨g, j, none⟩))]) ⟨rfl, trivial⟩ ?_
  refine CX.seq ?_
  refine CX.region ?_
  refine RX.cons rfl rfl (op_alloc rfl rfl rfl zero_85 fun g1 => ?_)
  refine RX.nil (XX.next (V' := [(0, .pointer (some ⟨g, j, none⟩)), (2, .pointer (some ⟨g1, 0, none⟩))]) ⟨rfl, rfl, trivial⟩ ?_)
  refine CX.seq ?_
  refine CX.region ?_
  refine RX.cons rfl rfl (op_w (yw_move rfl rfl) rfl rfl ?_)
  refine RX.cons rfl rfl (op_w (yw_build (v := .agg (#[.pointer (some ⟨g, j, none⟩), .int .i64 0, .int .i64 1199])) rfl rfl (fun _ => by kernel_rfl)) rfl rfl ?_)
  refine RX.cons rfl rfl (op_storeAll (i := 0) rfl rfl rfl rfl szt_85 rfl (plain_of rfl) rfl rfl ?_)
  refine RX.nil (XX.next (V' := [(2, .pointer (some ⟨g1, 0, none⟩))]) ⟨rfl, trivial⟩ ?_)
  refine CX.ret ?_
  exact ret_cell (i := 0) rfl rfl agg_85 rfl rfl fun w1 hw => ⟨rfl, hw.sub (List.nil_sublist _)⟩

set_option maxRecDepth 100000 in
theorem w_isWithin {w : World} {g j : Nat} (v lo hi : Int) (hc : w.cell? ⟨g, j, none⟩ = some (.int .i64 v)) :
    Calls Tryd.prog 48 #[.agg (#[.pointer (some ⟨g, j, none⟩), .int .i64 lo, .int .i64 hi])] w (fun e w' => e = .returned (.bool (within v lo hi)) ∧ SL w [] w' []) := by
  refine calls_of_CX (O := []) (L := []) (args := [.agg (#[.pointer (some ⟨g, j, none⟩), .int .i64 lo, .int .i64 hi])]) Tryd.func48 rfl (by simp [Tryd.ntmps48]) (SL.refl w) ?_
  refine CX.sub (V' := [(0, .agg (#[.pointer (some ⟨g, j, none⟩), .int .i64 lo, .int .i64 hi]))]) ⟨rfl, trivial⟩ ?_
  refine CX.seq ?_
  refine CX.region ?_
  refine RX.cons rfl rfl (op_box rfl rfl rfl rfl fun g1 => ?_)
  refine RX.cons rfl rfl (op_w (yw_assign rfl rfl) rfl rfl ?_)
  refine RX.nil (XX.next (V' := [(1, .pointer (some ⟨g1, 0, none⟩))]) ⟨rfl, trivial⟩ ?_)
  refine CX.seq ?_
  refine CX.draw 17 (by kernel_rfl) ?_
  refine DX.takeW 0 1 (by kernel_rfl) rfl rfl rfl rfl rfl (yw_field0 rfl fld_85_0 rfl) ?_
  refine DX.take 1 3 (by kernel_rfl) rfl rfl rfl rfl rfl (List.Sublist.refl _) (y_load (i := 0) rfl rfl one_83 rfl rfl) ?_
  refine DX.takeW 2 7 (by kernel_rfl) rfl rfl rfl rfl rfl (yw_nilCheck rfl rfl) ?_
  refine DX.take 3 15 (by kernel_rfl) rfl rfl rfl rfl rfl (List.Sublist.refl _) (y_loadG (v := .int .i64 v) rfl rfl one_3 hc (by simp)) ?_
  refine DX.takeW 4 31 (by kernel_rfl) rfl rfl rfl rfl rfl (yw_fieldAddr rfl fld_85_1 rfl) ?_
  refine DX.take 5 63 (by kernel_rfl) rfl rfl rfl rfl rfl (List.Sublist.refl _) (y_load (i := 0) rfl rfl one_3 rfl rfl) ?_
  refine DX.takeW 6 127 (by kernel_rfl) rfl rfl rfl rfl rfl (yw_geq rfl rfl rfl) ?_
  refine DX.takeW 7 255 (by kernel_rfl) rfl rfl rfl rfl rfl (yw_move rfl rfl) ?_
  refine DX.splitD (t := 10) (p := lo ≤ v) rfl (fun d10 => ?_) (fun d10 => ?_)
  · refine DX.takeWG 8 511 (by kernel_rfl) rfl rfl rfl rfl rfl rfl rfl rfl (yw_field0 rfl fld_85_0 rfl) ?_
    refine DX.takeG 9 1023 (by kernel_rfl) rfl rfl rfl rfl rfl rfl rfl rfl (List.Sublist.refl _) (y_load (i := 0) rfl rfl one_83 rfl rfl) ?_
    refine DX.takeWG 10 2047 (by kernel_rfl) rfl rfl rfl rfl rfl rfl rfl rfl (yw_nilCheck rfl rfl) ?_
    refine DX.takeG 11 4095 (by kernel_rfl) rfl rfl rfl rfl rfl rfl rfl rfl (List.Sublist.refl _) (y_loadG (v := .int .i64 v) rfl rfl one_3 hc (by simp)) ?_
    refine DX.takeWG 12 8191 (by kernel_rfl) rfl rfl rfl rfl rfl rfl rfl rfl (yw_fieldAddr rfl fld_85_2 rfl) ?_
    refine DX.takeG 13 16383 (by kernel_rfl) rfl rfl rfl rfl rfl rfl rfl rfl (List.Sublist.refl _) (y_load (i := 0) rfl rfl one_3 rfl rfl) ?_
    refine DX.takeWG 14 32767 (by kernel_rfl) rfl rfl rfl rfl rfl rfl rfl rfl (yw_leq rfl rfl rfl) ?_
    refine DX.takeW 15 65535 (by kernel_rfl) rfl rfl rfl rfl rfl (yw_pickT rfl rfl rfl) ?_
    refine DX.takeW 16 131071 (by kernel_rfl) rfl rfl rfl rfl rfl (yw_assign rfl rfl) ?_
    refine DX.done (by kernel_rfl) (XX.next (V' := [(2, .bool (decide (v ≤ hi)))]) ⟨rfl, trivial⟩ ?_)
    refine CX.ret ?_
    exact ret_tmp rfl rfl fun w1 hw => ⟨by simp [within, *], hw.sub (List.nil_sublist _)⟩
  · refine DX.skip 8 511 (by kernel_rfl) rfl rfl rfl rfl rfl rfl rfl rfl ?_
    refine DX.skip 9 1023 (by kernel_rfl) rfl rfl rfl rfl rfl rfl rfl rfl ?_
    refine DX.skip 10 2047 (by kernel_rfl) rfl rfl rfl rfl rfl rfl rfl rfl ?_
    refine DX.skip 11 4095 (by kernel_rfl) rfl rfl rfl rfl rfl rfl rfl rfl ?_
    refine DX.skip 12 8191 (by kernel_rfl) rfl rfl rfl rfl rfl rfl rfl rfl ?_
    refine DX.skip 13 16383 (by kernel_rfl) rfl rfl rfl rfl rfl rfl rfl rfl ?_
    refine DX.skip 14 32767 (by kernel_rfl) rfl rfl rfl rfl rfl rfl rfl rfl ?_
    refine DX.takeW 15 65535 (by kernel_rfl) rfl rfl rfl rfl rfl (yw_pickF rfl rfl rfl) ?_
    refine DX.takeW 16 131071 (by kernel_rfl) rfl rfl rfl rfl rfl (yw_assign rfl rfl) ?_
    refine DX.done (by kernel_rfl) (XX.next (V' := [(2, .bool false)]) ⟨rfl, trivial⟩ ?_)
    refine CX.ret ?_
    exact ret_tmp rfl rfl fun w1 hw => ⟨by simp [within, *], hw.sub (List.nil_sublist _)⟩

set_option maxRecDepth 100000 in
theorem w_kinds {w : World} :
    Calls Tryd.prog 47 #[] w (fun e w' => ∃ x : Nat × (Int → Option Value), x.2 1 = some (.agg (#[.func (.func 53) #[] #[], .bool false, .func (.func 54) #[] #[]])) ∧ e = .returned (.map (some x.1)) ∧ SL w [] w' [.imap x.1 x.2]) := by
  refine calls_of_CX (O := []) (L := []) (args := []) Tryd.func47 rfl (by simp [Tryd.ntmps47]) (SL.refl w) ?_
  refine CX.sub (V' := []) trivial ?_
  refine CX.seq ?_
  refine CX.region ?_
  refine RX.cons rfl rfl (op_w (yw_assign rfl rfl) rfl rfl ?_)
  refine RX.nil (XX.next (V' := []) trivial ?_)
  refine CX.seq ?_
  refine CX.region ?_
  refine RX.cons rfl rfl (op_makeMap rfl rfl rfl fun m1 => ?_)
  refine RX.cons rfl rfl (op_w (yw_build (v := .agg (#[.func (.func 53) #[] #[], .bool false, .func (.func 54) #[] #[]])) rfl rfl (fun _ => by kernel_rfl)) rfl rfl ?_)
  refine RX.cons rfl rfl (op_mapUpdate (i := 0) (.inr rfl) rfl rfl rfl rfl mapt_78 rfl ?_)
  refine RX.cons rfl rfl (op_w (yw_build (v := .agg (#[.func (.func 55) #[] #[], .bool false, .func (.func 54) #[] #[]])) rfl rfl (fun _ => by kernel_rfl)) rfl rfl ?_)
  refine RX.cons rfl rfl (op_mapUpdate (i := 0) (.inr rfl) rfl rfl rfl rfl mapt_78 rfl ?_)
  refine RX.cons rfl rfl (op_w (yw_build (v := .agg (#[.func (.func 56) #[] #[], .bool false, .func (.func 57) #[] #[]])) rfl rfl (fun _ => by kernel_rfl)) rfl rfl ?_)
  refine RX.cons rfl rfl (op_mapUpdate (i := 0) (.inr rfl) rfl rfl rfl rfl mapt_78 rfl ?_)
  refine RX.cons rfl rfl (op_w (yw_build (v := .agg (#[.func (.func 58) #[] #[], .bool true, .func (.func 59) #[] #[]])) rfl rfl (fun _ => by kernel_rfl)) rfl rfl ?_)
  refine RX.cons rfl rfl (op_mapUpdate (i := 0) (.inr rfl) rfl rfl rfl rfl mapt_78 rfl ?_)
  refine RX.cons rfl rfl (op_w (yw_build (v := .agg (#[.func (.func 60) #[] #[], .bool false, .func (.func 57) #[] #[]])) rfl rfl (fun _ => by kernel_rfl)) rfl rfl ?_)
  refine RX.cons rfl rfl (op_mapUpdate (i := 0) (.inr rfl) rfl rfl rfl rfl mapt_78 rfl ?_)
  refine RX.cons rfl rfl (op_w (yw_build (v := .agg (#[.func (.func 61) #[] #[], .bool false, .func (.func 62) #[] #[]])) rfl rfl (fun _ => by kernel_rfl)) rfl rfl ?_)
  refine RX.cons rfl rfl (op_mapUpdate (i := 0) (.inr rfl) rfl rfl rfl rfl mapt_78 rfl ?_)
  refine RX.cons rfl rfl (op_w (yw_build (v := .agg (#[.func (.func 63) #[] #[], .bool false, .func (.func 64) #[] #[]])) rfl rfl (fun _ => by kernel_rfl)) rfl rfl ?_)
  refine RX.cons rfl rfl (op_mapUpdate (i := 0) (.inr rfl) rfl rfl rfl rfl mapt_78 rfl ?_)
  refine RX.cons rfl rfl (op_w (yw_build (v := .agg (#[.func (.func 65) #[] #[], .bool false, .func (.func 57) #[] #[]])) rfl rfl (fun _ => by kernel_rfl)) rfl rfl ?_)
  refine RX.cons rfl rfl (op_mapUpdate (i := 0) (.inr rfl) rfl rfl rfl rfl mapt_78 rfl ?_)
  refine RX.cons rfl rfl (op_w (yw_build (v := .agg (#[.func (.func 66) #[] #[], .bool true, .func (.func 67) #[] #[]])) rfl rfl (fun _ => by kernel_rfl)) rfl rfl ?_)
  refine RX.cons rfl rfl (op_mapUpdate (i := 0) (.inr rfl) rfl rfl rfl rfl mapt_78 rfl ?_)
  refine RX.cons rfl rfl (op_w (yw_build (v := .agg (#[.func (.func 68) #[] #[], .bool false, .func (.func 69) #[] #[]])) rfl rfl (fun _ => by kernel_rfl)) rfl rfl ?_)
  refine RX.cons rfl rfl (op_mapUpdate (i := 0) (.inr rfl) rfl rfl rfl rfl mapt_78 rfl ?_)
  refine RX.cons rfl rfl (op_w (yw_move rfl rfl) rfl rfl ?_)
  refine RX.cons rfl rfl (op_w (yw_assign rfl rfl) rfl rfl ?_)
  refine RX.nil (XX.next (V' := [(0, .map (some m1))]) ⟨rfl, trivial⟩ ?_)
  refine CX.ret ?_
  refine ret_tmp rfl rfl fun w1 hw => ⟨(_, _), ?_, rfl, hw⟩
  rfl

set_option maxRecDepth 100000 in
theorem w_fplay {w : World} (g : Nat) :
    Calls Tryd.prog 53 #[.pointer (some ⟨g, 0, none⟩)] w (fun e w' => ∃ g' : Nat, True ∧ e = .returned (.slice (some ⟨g', 0, none⟩) 8 8) ∧ SL w [] w' [.row (some ⟨g', 0, none⟩) 8 85 3 (fieldsRow g)]) := by
  refine calls_of_CX (O := []) (L := []) (args := [.pointer (some ⟨g, 0, none⟩)]) Tryd.func53 rfl (by simp [Tryd.ntmps53]) (SL.refl w) ?_
  refine CX.sub (V' := [(0, .pointer (some ⟨g, 0, none⟩))]) ⟨rfl, trivial⟩ ?_
  refine CX.seq ?_
  refine CX.region ?_
  refine RX.cons rfl rfl (op_w (yw_assign rfl rfl) rfl rfl ?_)
  refine RX.nil (XX.next (V' := [(0, .pointer (some ⟨g, 0, none⟩))]) ⟨rfl, trivial⟩ ?_)
  refine CX.seq ?_
  refine CX.draw 42 (by kernel_rfl) ?_
  refine DX.takeW 0 1 (by kernel_rfl) rfl rfl rfl rfl rfl (yw_move rfl rfl) ?_
  refine DX.takeW 1 3 (by kernel_rfl) rfl rfl rfl rfl rfl (yw_nilCheck rfl rfl) ?_
  refine DX.takeW 2 7 (by kernel_rfl) rfl rfl rfl rfl rfl (yw_field0 rfl fld_81_0 rfl) ?_
  refine DX.takeW 3 15 (by kernel_rfl) rfl rfl rfl rfl rfl (yw_fieldAddr rfl fld_33_1 rfl) ?_
  refine DX.takeW 5 47 (by kernel_rfl) rfl rfl rfl rfl rfl (yw_move rfl rfl) ?_
  refine DX.takeW 6 111 (by kernel_rfl) rfl rfl rfl rfl rfl (yw_nilCheck rfl rfl) ?_
  refine DX.takeW 7 239 (by kernel_rfl) rfl rfl rfl rfl rfl (yw_field0 rfl fld_81_0 rfl) ?_
  refine DX.takeW 8 495 (by kernel_rfl) rfl rfl rfl rfl rfl (yw_fieldAddr rfl fld_33_5 rfl) ?_
  refine DX.takeW 10 1519 (by kernel_rfl) rfl rfl rfl rfl rfl (yw_move rfl rfl) ?_
  refine DX.takeW 11 3567 (by kernel_rfl) rfl rfl rfl rfl rfl (yw_nilCheck rfl rfl) ?_
  refine DX.takeW 12 7663 (by kernel_rfl) rfl rfl rfl rfl rfl (yw_field0 rfl fld_81_0 rfl) ?_
  refine DX.takeW 13 15855 (by kernel_rfl) rfl rfl rfl rfl rfl (yw_fieldAddr rfl fld_33_6 rfl) ?_
  refine DX.takeW 15 48623 (by kernel_rfl) rfl rfl rfl rfl rfl (yw_move rfl rfl) ?_
  refine DX.takeW 16 114159 (by kernel_rfl) rfl rfl rfl rfl rfl (yw_nilCheck rfl rfl) ?_
  refine DX.takeW 17 245231 (by kernel_rfl) rfl rfl rfl rfl rfl (yw_field0 rfl fld_81_0 rfl) ?_
  refine DX.takeW 18 507375 (by kernel_rfl) rfl rfl rfl rfl rfl (yw_fieldAddr rfl fld_33_7 rfl) ?_
  refine DX.takeW 20 1555951 (by kernel_rfl) rfl rfl rfl rfl rfl (yw_move rfl rfl) ?_
  refine DX.takeW 21 3653103 (by kernel_rfl) rfl rfl rfl rfl rfl (yw_nilCheck rfl rfl) ?_
  refine DX.takeW 22 7847407 (by kernel_rfl) rfl rfl rfl rfl rfl (yw_field0 rfl fld_81_0 rfl) ?_
  refine DX.takeW 23 16236015 (by kernel_rfl) rfl rfl rfl rfl rfl (yw_fieldAddr rfl fld_33_8 rfl) ?_
  refine DX.takeW 25 49790447 (by kernel_rfl) rfl rfl rfl rfl rfl (yw_move rfl rfl) ?_
  refine DX.takeW 26 116899311 (by kernel_rfl) rfl rfl rfl rfl rfl (yw_nilCheck rfl rfl) ?_
  refine DX.takeW 27 251117039 (by kernel_rfl) rfl rfl rfl rfl rfl (yw_field0 rfl fld_81_0 rfl) ?_
  refine DX.takeW 28 519552495 (by kernel_rfl) rfl rfl rfl rfl rfl (yw_fieldAddr rfl fld_33_4 rfl) ?_
  refine DX.takeW 29 1056423407 (by kernel_rfl) rfl rfl rfl rfl rfl (yw_build (v := .agg (#[.pointer (some ⟨g, 4, none⟩), .int .i64 0, .int .i64 3155759999])) rfl rfl (fun _ => by kernel_rfl)) ?_
  refine DX.takeW 30 2130165231 (by kernel_rfl) rfl rfl rfl rfl rfl (yw_move rfl rfl) ?_
  refine DX.takeW 31 4277648879 (by kernel_rfl) rfl rfl rfl rfl rfl (yw_nilCheck rfl rfl) ?_
  refine DX.takeW 32 8572616175 (by kernel_rfl) rfl rfl rfl rfl rfl (yw_field0 rfl fld_81_0 rfl) ?_
  refine DX.takeW 33 17162550767 (by kernel_rfl) rfl rfl rfl rfl rfl (yw_fieldAddr rfl fld_33_13 rfl) ?_
  refine DX.takeW 34 34342419951 (by kernel_rfl) rfl rfl rfl rfl rfl (yw_build (v := .agg (#[.pointer (some ⟨g, 13, none⟩), .int .i64 0, .int .i64 86400000])) rfl rfl (fun _ => by kernel_rfl)) ?_
  refine DX.takeW 35 68702158319 (by kernel_rfl) rfl rfl rfl rfl rfl (yw_move rfl rfl) ?_
  refine DX.takeW 36 137421635055 (by kernel_rfl) rfl rfl rfl rfl rfl (yw_nilCheck rfl rfl) ?_
  refine DX.takeW 37 274860588527 (by kernel_rfl) rfl rfl rfl rfl rfl (yw_field0 rfl fld_81_0 rfl) ?_
  refine DX.takeW 38 549738495471 (by kernel_rfl) rfl rfl rfl rfl rfl (yw_fieldAddr rfl fld_33_16 rfl) ?_
  refine DX.takeW 39 1099494309359 (by kernel_rfl) rfl rfl rfl rfl rfl (yw_build (v := .agg (#[.pointer (some ⟨g, 16, none⟩), .int .i64 0, .int .i64 1])) rfl rfl (fun _ => by kernel_rfl)) ?_
  refine DX.step 4 1099494309375 (by kernel_rfl) rfl rfl rfl (op_callV (v := .agg (#[.pointer (some ⟨g, 1, none⟩), .int .i64 1, .int .i64 1000000])) rfl rfl rfl rfl rfl ent_71 (fun w _ => w_fid g 1) (DXs.mk (List.nil_sublist _) ?_))
  refine DX.step 9 1099494309887 (by kernel_rfl) rfl rfl rfl (op_callV (v := .agg (#[.pointer (some ⟨g, 5, none⟩), .int .i64 1, .int .i64 1000000])) rfl rfl rfl rfl rfl ent_71 (fun w _ => w_fid g 5) (DXs.mk (List.nil_sublist _) ?_))
  refine DX.step 14 1099494326271 (by kernel_rfl) rfl rfl rfl (op_callV (v := .agg (#[.pointer (some ⟨g, 6, none⟩), .int .i64 1, .int .i64 1000000])) rfl rfl rfl rfl rfl ent_71 (fun w _ => w_fid g 6) (DXs.mk (List.nil_sublist _) ?_))
  refine DX.step 19 1099494850559 (by kernel_rfl) rfl rfl rfl (op_callV (v := .agg (#[.pointer (some ⟨g, 7, none⟩), .int .i64 1, .int .i64 1000000])) rfl rfl rfl rfl rfl ent_71 (fun w _ => w_fid g 7) (DXs.mk (List.nil_sublist _) ?_))
  refine DX.step 24 1099511627775 (by kernel_rfl) rfl rfl rfl (op_callV (v := .agg (#[.pointer (some ⟨g, 8, none⟩), .int .i64 0, .int .i64 7])) rfl rfl rfl rfl rfl ent_72 (fun w _ => w_fterr g 8) (DXs.mk (List.nil_sublist _) ?_))
  refine DX.step 40 2199023255551 (by kernel_rfl) rfl rfl rfl (op_buildSlice rfl rfl rfl slb_82 rfl rfl (by intro v hv; simp only [List.mem_cons, List.not_mem_nil, or_false] at hv; rcases hv with rfl | rfl | rfl | rfl | rfl | rfl | rfl | rfl <;> exact ⟨rfl, (plain_of rfl)⟩) (by decide) fun g2 => (DXs.mk (List.nil_sublist _) ?_))
  refine DX.takeW 41 4398046511103 (by kernel_rfl) rfl rfl rfl rfl rfl (yw_assign rfl rfl) ?_
  refine DX.done (by kernel_rfl) (XX.next (V' := [(2, .slice (some ⟨g2, 0, none⟩) 8 8)]) ⟨rfl, trivial⟩ ?_)
  refine CX.ret ?_
  exact ret_tmp rfl rfl fun w1 hw => ⟨_, trivial, rfl, hw⟩

end Go.Proofs.YtmndhiaaolfepaaDoor
