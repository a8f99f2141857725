/- Walks, printed by a program. Walks, printed by a program. Walks, printed by a program. Walks, printed by a program. -/
import Derived.Test.YtpcfgoadkfajfaaGreatDoorK3
namespace Go.Proofs.YtpcfgoadkfajfaaGreatDoor.Se
set_option linter.all false
open Go Go.RowKit
set_option maxRecDepth 100000
theorem fld_27_0 : Fld Tryz.prog 27 0 0 := ⟨_, _, (Tryz.prog.info? 3).get!, Tryz.underlying27, rfl, rfl, by kernel_rfl, by decide +kernel⟩
theorem ent_32 : ∀ args w, (callFunc 32 args).run Tryz.prog w = .ok (.enter 32 args) w := enters_of Tryz.func32 (by kernel_rfl) rfl
theorem zero_74 : Zero Tryz.prog 74 (.agg (#[.nilFunc, .bool false, .nilFunc])) := ⟨(Tryz.prog.info? 74).get!, by kernel_rfl, by kernel_rfl⟩
theorem szt_74 : SzT Tryz.prog 74 3 := ⟨(Tryz.prog.info? 74).get!, by kernel_rfl, by kernel_rfl⟩
theorem fld_27_2 : Fld Tryz.prog 27 2 2 := ⟨_, _, (Tryz.prog.info? 3).get!, Tryz.underlying27, rfl, rfl, by kernel_rfl, by decide +kernel⟩
theorem fld_27_17 : Fld Tryz.prog 27 17 17 := ⟨_, _, (Tryz.prog.info? 9).get!, Tryz.underlying27, rfl, rfl, by kernel_rfl, by decide +kernel⟩
theorem one_9 : One Tryz.prog 9 := ⟨_, Tryz.underlying9, rfl⟩
theorem agg_27 : AggT Tryz.prog 27 18 := ⟨_, _, Tryz.underlying27, rfl, (by kernel_rfl : Tryz.prog.info? 27 = some (Tryz.prog.info? 27).get!), by kernel_rfl⟩
theorem fld_74_0 : Fld Tryz.prog 74 0 0 := ⟨_, _, (Tryz.prog.info? 71).get!, Tryz.underlying74, rfl, rfl, by kernel_rfl, by decide +kernel⟩
theorem one_71 : One Tryz.prog 71 := ⟨_, Tryz.underlying71, rfl⟩
theorem ent_56 : ∀ args w, (callFunc 56 args).run Tryz.prog w = .ok (.enter 56 args) w := enters_of Tryz.func56 (by kernel_rfl) rfl
theorem slt_81 : SlT Tryz.prog 81 84 3 := ⟨(Tryz.prog.info? 84).get!, Tryz.underlying81, by kernel_rfl, by kernel_rfl⟩
theorem ent_33 : ∀ args w, (callFunc 33 args).run Tryz.prog w = .ok (.enter 33 args) w := enters_of Tryz.func33 (by kernel_rfl) rfl
theorem fld_74_1 : Fld Tryz.prog 74 1 1 := ⟨_, _, (Tryz.prog.info? 4).get!, Tryz.underlying74, rfl, rfl, by kernel_rfl, by decide +kernel⟩
theorem one_4 : One Tryz.prog 4 := ⟨_, Tryz.underlying4, rfl⟩
theorem eqg_27 : Tryz.prog.eqGuardType Tryz.prog.depth 27 = false := by kernel_rfl
set_option maxRecDepth 100000 in
theorem w_valid {w : World} (f : Fct) (hk : f.kind = 1) :
    Calls Tryz.prog 15 #[.agg (Fct.cells f)] w (fun e w' => e = .returned (.bool f.valid) ∧ SL w [] w' []) := by
 refine calls_of_CX (O := []) (L := []) (args := [.agg (Fct.cells f)]) Tryz.func15 rfl (by simp [Tryz.ntmps15]) (SL.refl w) ?_
 refine CX.sub (V' := [(0, .agg (Fct.cells f))]) ⟨rfl, trivial⟩ ?_
 refine CX.seq ?_
 refine CX.region ?_
 refine RX.cons rfl rfl (op_box rfl rfl rfl rfl fun g1 => ?_)
 refine RX.cons rfl rfl (op_w (yw_assign rfl rfl) rfl rfl ?_)
 refine RX.nil (XX.next (V' := [(1, _)]) ⟨rfl, trivial⟩ ?_)
 refine CX.cut (σ := Nat) (fun g3 => [(1, .pointer (some ⟨g1, 0, none⟩)), (3, .pointer (some ⟨g3, 0, none⟩)), (4, .bool true)]) (fun g3 => [.blk g3 (.cells (#[.func (.func 56) #[] #[], .bool false, .func (.func 57) #[] #[]]) 74 (0, 0)), .blk g1 (.cells (Fct.cells f) 27 (0, 0))]) (fun g3 => True) ?_ (fun g3 _ => ?_)
 ·refine CX.draw 8 [(0, 0, 512), (0, 2, 1024), (2, 1024, 2048), (5, 2560, 4096), (8, 4096, 256), (16, 256, 8192), (16, 256, 16384), (0, 0, 8), (191, 8200, 0), (511, 16384, 16)] (by kernel_rfl) (by kernel_rfl) (by kernel_rfl) ?_
  refine DX.takeW 1 2 (by kernel_rfl) rfl rfl rfl rfl rfl (yw_field0 rfl fld_27_0 rfl) ?_
  refine DX.take 2 6 (by kernel_rfl) rfl rfl rfl rfl rfl (List.Sublist.refl _) (y_load (i := 0) rfl rfl one_3 rfl rfl) ?_
  refine DX.step2 0 7 7 134 (by kernel_rfl) rfl rfl rfl rfl rfl rfl (op_callE rfl rfl rfl rfl rfl ent_32 (fun w _ => w_kinds) (fun x47 h47 => (DXs.mk (List.Sublist.cons _ (List.Sublist.refl _)) ?_))) (op_alloc rfl rfl rfl zero_74 fun g3 => (DXs.mk (List.Sublist.cons _ (List.Sublist.refl _)) ?_))
  ·refine DX.step2 3 7 15 135 (by kernel_rfl) rfl rfl rfl rfl rfl rfl (op_yld (y_lookupOkE (i := 0) rfl rfl rfl mapt_76 rfl (by rw [hk]; exact h47)) rfl rfl (DXs.mk (List.Sublist.cons _ (List.Sublist.refl _)) ?_)) (op_alloc rfl rfl rfl zero_74 fun g3 => (DXs.mk (List.Sublist.cons _ (List.Sublist.cons _ (List.Sublist.refl _))) ?_))
   ·refine DX.takeW 4 31 (by kernel_rfl) rfl rfl rfl rfl rfl (yw_move rfl rfl) ?_
    refine DX.takeW 5 63 (by kernel_rfl) rfl rfl rfl rfl rfl (yw_extract rfl rfl rfl) ?_
    refine DX.takeW 6 127 (by kernel_rfl) rfl rfl rfl rfl rfl (yw_extract rfl rfl rfl) ?_
    refine DX.step 7 255 (by kernel_rfl) rfl rfl rfl (op_alloc rfl rfl rfl zero_74 fun g3 => (DXs.mk (List.Sublist.cons _ (List.Sublist.cons _ (List.Sublist.refl _))) ?_))
    refine DX.stepT 8 511 (by kernel_rfl) rfl rfl rfl rfl (op_storeAll (i := 0) rfl rfl rfl rfl szt_74 rfl (plain_of rfl) rfl rfl ?_)
    refine DX.takeW 9 1023 (by kernel_rfl) rfl rfl rfl rfl rfl (yw_assign rfl rfl) ?_
    refine DX.done (by kernel_rfl) (XX.meetP ([.imap x47.1 x47.2]) g3 trivial ⟨rfl, rfl, rfl, trivial⟩ ((perm_pick 0 rfl).trans (List.Perm.cons _ ((perm_pick 1 rfl).trans (List.Perm.cons _ (List.Perm.refl _))))))
   ·refine DX.step 3 143 (by kernel_rfl) rfl rfl rfl (op_yld (y_lookupOkE (i := 1) rfl rfl rfl mapt_76 rfl (by rw [hk]; exact h47)) rfl rfl (DXs.mk (List.Sublist.cons _ (List.Sublist.cons _ (List.Sublist.refl _))) ?_))
    refine DX.takeW 4 159 (by kernel_rfl) rfl rfl rfl rfl rfl (yw_move rfl rfl) ?_
    refine DX.takeW 5 191 (by kernel_rfl) rfl rfl rfl rfl rfl (yw_extract rfl rfl rfl) ?_
    refine DX.takeW 6 255 (by kernel_rfl) rfl rfl rfl rfl rfl (yw_extract rfl rfl rfl) ?_
    refine DX.stepT 8 511 (by kernel_rfl) rfl rfl rfl rfl (op_storeAll (i := 0) rfl rfl rfl rfl szt_74 rfl (plain_of rfl) rfl rfl ?_)
    refine DX.takeW 9 1023 (by kernel_rfl) rfl rfl rfl rfl rfl (yw_assign rfl rfl) ?_
    refine DX.done (by kernel_rfl) (XX.meetP ([.imap x47.1 x47.2]) g3 trivial ⟨rfl, rfl, rfl, trivial⟩ ((perm_pick 0 rfl).trans (List.Perm.cons _ ((perm_pick 1 rfl).trans (List.Perm.cons _ (List.Perm.refl _))))))
  ·refine DX.step 0 135 (by kernel_rfl) rfl rfl rfl (op_callE rfl rfl rfl rfl rfl ent_32 (fun w _ => w_kinds) (fun x47 h47 => (DXs.mk (List.Sublist.cons _ (List.Sublist.cons _ (List.Sublist.refl _))) ?_)))
   refine DX.step 3 143 (by kernel_rfl) rfl rfl rfl (op_yld (y_lookupOkE (i := 0) rfl rfl rfl mapt_76 rfl (by rw [hk]; exact h47)) rfl rfl (DXs.mk (List.Sublist.cons _ (List.Sublist.cons _ (List.Sublist.refl _))) ?_))
   refine DX.takeW 4 159 (by kernel_rfl) rfl rfl rfl rfl rfl (yw_move rfl rfl) ?_
   refine DX.takeW 5 191 (by kernel_rfl) rfl rfl rfl rfl rfl (yw_extract rfl rfl rfl) ?_
   refine DX.takeW 6 255 (by kernel_rfl) rfl rfl rfl rfl rfl (yw_extract rfl rfl rfl) ?_
   refine DX.stepT 8 511 (by kernel_rfl) rfl rfl rfl rfl (op_storeAll (i := 1) rfl rfl rfl rfl szt_74 rfl (plain_of rfl) rfl rfl ?_)
   refine DX.takeW 9 1023 (by kernel_rfl) rfl rfl rfl rfl rfl (yw_assign rfl rfl) ?_
   refine DX.done (by kernel_rfl) (XX.meetP ([.imap x47.1 x47.2]) g3 trivial ⟨rfl, rfl, rfl, trivial⟩ ((perm_pick 1 rfl).trans (List.Perm.cons _ ((perm_pick 1 rfl).trans (List.Perm.cons _ (List.Perm.refl _))))))
 ·refine CX.seq ?_
  refine CX.seq ?_
  refine CX.region ?_
  refine RX.cons rfl rfl (op_w (yw_move rfl rfl) rfl rfl ?_)
  refine RX.cons rfl rfl (op_w (yw_not rfl rfl) rfl rfl ?_)
  refine RX.cons rfl rfl (op_w (yw_move rfl rfl) rfl rfl ?_)
  refine RX.consG rfl rfl rfl rfl rfl (op_w (yw_fieldAddr rfl fld_27_2 rfl) rfl rfl ?_)
  refine RX.consG rfl rfl rfl rfl rfl (op_yld (y_load (i := 1) rfl rfl one_3 rfl rfl) rfl rfl ?_)
  refine RX.consG rfl rfl rfl rfl rfl (op_w (yw_lss rfl rfl rfl) rfl rfl ?_)
  refine RX.cons rfl rfl (op_w (yw_pickF rfl rfl rfl) rfl rfl ?_)
  refine RX.cons rfl rfl (op_w (yw_move rfl rfl) rfl rfl ?_)
  refine RX.splitD (t := 22) (p := f.version < 1) rfl (fun d22 => ?_) (fun d22 => ?_)
  ·refine RX.skip rfl rfl rfl rfl rfl rfl rfl ?_
   refine RX.skip rfl rfl rfl rfl rfl rfl rfl ?_
   refine RX.skip rfl rfl rfl rfl rfl rfl rfl ?_
   refine RX.cons rfl rfl (op_w (yw_pickT rfl rfl rfl) rfl rfl ?_)
   refine RX.cons rfl rfl (op_w (yw_move rfl rfl) rfl rfl ?_)
   refine RX.skip rfl rfl rfl rfl rfl rfl rfl ?_
   refine RX.skip rfl rfl rfl rfl rfl rfl rfl ?_
   refine RX.skip rfl rfl rfl rfl rfl rfl rfl ?_
   refine RX.skip rfl rfl rfl rfl rfl rfl rfl ?_
   refine RX.cons rfl rfl (op_w (yw_pickT rfl rfl rfl) rfl rfl ?_)
   refine RX.nil (XX.next (V' := [(1, _), (3, _), (32, _)]) ⟨rfl, rfl, rfl, trivial⟩ ?_)
   refine CX.condT rfl ?_
   refine CX.seq ?_
   refine CX.region ?_
   refine RX.cons rfl rfl (op_w (yw_assign rfl rfl) rfl rfl ?_)
   refine RX.nil (XX.next (V' := [(2, .bool false)]) ⟨rfl, trivial⟩ ?_)
   refine CX.ret ?_
   refine XX.then_ret ?_
   exact ret_tmp rfl rfl fun w1 hw => ⟨by rw [valid_no_version (.inl d22)], hw.sub (List.nil_sublist _)⟩
  ·refine RX.consG rfl rfl rfl rfl rfl (op_w (yw_fieldAddr rfl fld_27_2 rfl) rfl rfl ?_)
   refine RX.consG rfl rfl rfl rfl rfl (op_yld (y_load (i := 1) rfl rfl one_3 rfl rfl) rfl rfl ?_)
   refine RX.consG rfl rfl rfl rfl rfl (op_w (yw_gtr rfl rfl rfl) rfl rfl ?_)
   refine RX.cons rfl rfl (op_w (yw_pickF rfl rfl rfl) rfl rfl ?_)
   refine RX.cons rfl rfl (op_w (yw_move rfl rfl) rfl rfl ?_)
   refine RX.splitD (t := 27) (p := 1000 < f.version) rfl (fun d27 => ?_) (fun d27 => ?_)
   ·refine RX.skip rfl rfl rfl rfl rfl rfl rfl ?_
    refine RX.skip rfl rfl rfl rfl rfl rfl rfl ?_
    refine RX.skip rfl rfl rfl rfl rfl rfl rfl ?_
    refine RX.skip rfl rfl rfl rfl rfl rfl rfl ?_
    refine RX.cons rfl rfl (op_w (yw_pickT rfl rfl rfl) rfl rfl ?_)
    refine RX.nil (XX.next (V' := [(1, _), (3, _), (32, _)]) ⟨rfl, rfl, rfl, trivial⟩ ?_)
    refine CX.condT rfl ?_
    refine CX.seq ?_
    refine CX.region ?_
    refine RX.cons rfl rfl (op_w (yw_assign rfl rfl) rfl rfl ?_)
    refine RX.nil (XX.next (V' := [(2, .bool false)]) ⟨rfl, trivial⟩ ?_)
    refine CX.ret ?_
    refine XX.then_ret ?_
    exact ret_tmp rfl rfl fun w1 hw => ⟨by rw [valid_no_version (.inr d27)], hw.sub (List.nil_sublist _)⟩
   ·refine RX.consG rfl rfl rfl rfl rfl (op_w (yw_fieldAddr rfl fld_27_17 rfl) rfl rfl ?_)
    refine RX.consG rfl rfl rfl rfl rfl (op_yld (y_load (i := 1) rfl rfl one_9 rfl rfl) rfl rfl ?_)
    refine RX.consG rfl rfl rfl rfl rfl (op_w (yw_lenStr rfl Tryz.underlying9 rfl) rfl rfl ?_)
    refine RX.consG rfl rfl rfl rfl rfl (op_w (yw_gtr rfl rfl rfl) rfl rfl ?_)
    refine RX.cons rfl rfl (op_w (yw_pickF rfl rfl rfl) rfl rfl ?_)
    refine RX.nil (XX.next (V' := [(1, _), (3, _), (32, _)]) ⟨rfl, rfl, rfl, trivial⟩ ?_)
    refine CX.condD (p := 2000 < ((ByteArray.size f.text : Nat) : Int)) rfl (fun c32 => ?_) (fun c32 => ?_)
    ·refine CX.seq ?_
     refine CX.region ?_
     refine RX.cons rfl rfl (op_w (yw_assign rfl rfl) rfl rfl ?_)
     refine RX.nil (XX.next (V' := [(2, .bool false)]) ⟨rfl, trivial⟩ ?_)
     refine CX.ret ?_
     refine XX.then_ret ?_
     exact ret_tmp rfl rfl fun w1 hw => ⟨by rw [valid_no_text (by omega)], hw.sub (List.nil_sublist _)⟩
    ·refine CX.skip (XX.next (V' := [(1, _), (3, _)]) ⟨rfl, rfl, trivial⟩ ?_)
     refine CX.seq ?_
     refine CX.region ?_
     refine RX.cons rfl rfl (op_yld (y_loadA (i := 1) rfl rfl agg_27 rfl rfl) rfl rfl ?_)
     refine RX.cons rfl rfl (op_w (yw_build (v := .agg (Fct.cells f)) rfl rfl (fun _ => by kernel_rfl)) rfl rfl ?_)
     refine RX.cons rfl rfl (op_box rfl rfl rfl rfl fun g4 => ?_)
     refine RX.cons rfl rfl (op_w (yw_assign rfl rfl) rfl rfl ?_)
     refine RX.nil (XX.next (V' := [(1, _), (3, _), (5, _)]) ⟨rfl, rfl, rfl, trivial⟩ ?_)
     refine CX.seq ?_
     refine CX.seq ?_
     refine CX.region ?_
     refine RX.cons rfl rfl (op_w (yw_field0 rfl fld_74_0 rfl) rfl rfl ?_)
     refine RX.cons rfl rfl (op_yld (y_load (i := 1) rfl rfl one_71 rfl rfl) rfl rfl ?_)
     refine RX.cons rfl rfl (op_w (yw_move rfl rfl) rfl rfl ?_)
     refine RX.cons rfl rfl (op_callE rfl rfl rfl rfl rfl ent_56 (fun w _ => w_fplay g4) (fun g53 _ => ?_))
     refine RX.cons rfl rfl (op_w (yw_lenS rfl Tryz.underlying81 rfl) rfl rfl ?_)
     refine RX.cons rfl rfl (op_w (yw_move rfl rfl) rfl rfl ?_)
     refine RX.nil (XX.next (V' := [(1, _), (3, _), (5, _), (39, _), (40, _), (41, _)]) ⟨rfl, rfl, rfl, rfl, rfl, rfl, trivial⟩ ?_)
     refine CX.block ?_
     refine CX.loop (σ := Nat) (fun k => [(1, .pointer (some ⟨g1, 0, none⟩)), (3, .pointer (some ⟨g3, 0, none⟩)), (5, .pointer (some ⟨g4, 0, none⟩)), (39, .slice (some ⟨g53, 0, none⟩) 8 8), (40, .int .i64 ((8 : Nat) : Int)), (41, .int .i64 ((k : Nat) : Int))]) (fun k => [.row (some ⟨g53, 0, none⟩) 8 84 3 (fieldsRow g4), .blk g4 (.cells (Fct.cells (strip f k)) 80 (0, 0)), .blk g3 (.cells (#[.func (.func 56) #[] #[], .bool false, .func (.func 57) #[] #[]]) 74 (0, 0)), .blk g1 (.cells (Fct.cells f) 27 (0, 0))]) (fun k => k ≤ 8 ∧ ∀ j, j < k → within (fget f j) (flo j) (fhi j) = true) (fun k => 8 - k) 0 ⟨by decide, fun j hj => by omega⟩ ⟨rfl, rfl, rfl, rfl, rfl, rfl, trivial⟩ rfl (fun k hI => ?_)
     obtain ⟨hk0, hI2⟩ := hI
     refine CX.seq ?_
     refine CX.region ?_
     refine RX.cons rfl rfl (op_w (yw_lss rfl rfl rfl) rfl rfl ?_)
     refine RX.nil (XX.next (V' := [(1, _), (3, _), (5, _), (39, _), (40, _), (41, _), (42, _)]) ⟨rfl, rfl, rfl, rfl, rfl, rfl, rfl, trivial⟩ ?_)
     refine CX.seq ?_
     refine CX.condD (p := ((k : Nat) : Int) < ((8 : Nat) : Int)) rfl (fun c42 => ?_) (fun c42 => ?_)
     ·have hk8 : k < 8 := by omega
      refine CX.skip (XX.next (V' := [(1, _), (3, _), (5, _), (39, _), (40, _), (41, _)]) ⟨rfl, rfl, rfl, rfl, rfl, rfl, trivial⟩ ?_)
      refine CX.seq ?_
      refine CX.block ?_
      refine CX.seq ?_
      refine CX.region ?_
      refine RX.cons rfl rfl (op_w (yw_index (k := k) rfl slt_81 rfl rfl (by omega) (by omega) ⟨_, _, rfl⟩) rfl rfl ?_)
      refine RX.cons rfl rfl (op_yld (y_rowElem (i := 0) rfl rfl agg_84 rfl (fields_get _ k (by omega))) rfl rfl ?_)
      refine RX.cons rfl rfl (op_alloc rfl rfl rfl zero_84 fun g2 => ?_)
      refine RX.cons rfl rfl (op_storeAll (i := 0) rfl rfl rfl rfl szt_84 rfl (plain_of rfl) rfl rfl ?_)
      refine RX.nil (XX.next (V' := [(1, _), (3, _), (5, _), (7, _), (39, _), (40, _), (41, _)]) ⟨rfl, rfl, rfl, rfl, rfl, rfl, rfl, trivial⟩ ?_)
      refine CX.seq ?_
      refine CX.seq ?_
      refine CX.region ?_
      refine RX.cons rfl rfl (op_yld (y_loadA (i := 0) rfl rfl agg_84 rfl rfl) rfl rfl ?_)
      refine RX.cons rfl rfl (op_callV (v := .bool (within (fget f k) (flo k) (fhi k))) rfl rfl rfl rfl rfl ent_33 (fun w hw => w_isWithin (fget f k) _ _ (hw.cellOf (i := 2) rfl (strip_get f k hk8))) ?_)
      refine RX.cons rfl rfl (op_w (yw_not rfl rfl) rfl rfl ?_)
      refine RX.nil (XX.next (V' := [(1, _), (3, _), (5, _), (7, _), (39, _), (40, _), (41, _), (47, _)]) ⟨rfl, rfl, rfl, rfl, rfl, rfl, rfl, rfl, trivial⟩ ?_)
      refine CX.cond (b := !(within (fget f k) (flo k) (fhi k))) rfl (fun c47 => ?_) (fun c47 => ?_)
      ·refine CX.seq ?_
       refine CX.region ?_
       refine RX.cons rfl rfl (op_w (yw_assign rfl rfl) rfl rfl ?_)
       refine RX.nil (XX.next (V' := [(2, .bool false)]) ⟨rfl, trivial⟩ ?_)
       refine CX.ret ?_
       refine XX.then_ret ?_
       refine XX.block_ret ?_
       refine XX.then_ret ?_
       refine XX.then_ret ?_
       refine XX.block_ret ?_
       refine XX.then_ret ?_
       exact ret_tmp rfl rfl fun w1 hw => ⟨by rw [valid_no k hk8 (by simpa using c47)], hw.sub (List.nil_sublist _)⟩
      ·refine CX.skip (XX.next (V' := [(1, _), (3, _), (5, _), (7, _), (39, _), (40, _), (41, _)]) ⟨rfl, rfl, rfl, rfl, rfl, rfl, rfl, trivial⟩ ?_)
       refine CX.region ?_
       refine RX.cons rfl rfl (op_w (yw_field0 rfl fld_84_0 rfl) rfl rfl ?_)
       refine RX.cons rfl rfl (op_yld (y_load (i := 0) rfl rfl one_82 rfl rfl) rfl rfl ?_)
       refine RX.cons rfl rfl (op_w (yw_nilCheck rfl rfl) rfl rfl ?_)
       refine RX.cons rfl rfl (op_store1 (i := 2) (j := foff k) (cs' := Fct.cells (strip f (k + 1))) rfl rfl rfl rfl szt_3 rfl rfl (strip_lt f k hk8) (strip_set f k hk8) ?_)
       refine RX.nil (XX.inBlock (V' := [(1, _), (3, _), (5, _), (39, _), (40, _), (41, _)]) ⟨rfl, rfl, rfl, rfl, rfl, rfl, trivial⟩ ?_)
       refine XX.next (V' := [(1, _), (3, _), (5, _), (39, _), (40, _), (41, _)]) ⟨rfl, rfl, rfl, rfl, rfl, rfl, trivial⟩ ?_
       refine CX.region ?_
       refine RX.cons rfl rfl (op_w (yw_add rfl rfl rfl (by omega) (by omega)) rfl rfl ?_)
       refine RX.cons rfl rfl (op_w (yw_move rfl rfl) rfl rfl ?_)
       refine RX.nil (XX.againP ([.blk g2 (.cells (#[.pointer (some ⟨g4, foff k, none⟩), .int .i64 (flo k), .int .i64 (fhi k)]) 84 (0, 0))]) (k + 1) (by omega) ⟨by omega, fun j hj => if hjk : j < k then hI2 j hjk else (by have e : j = k := (by omega); rw [e]; simpa using c47)⟩ ⟨rfl, rfl, rfl, rfl, rfl, rfl, trivial⟩ ((perm_pick 1 rfl).trans (List.Perm.cons _ ((perm_pick 1 rfl).trans (List.Perm.cons _ ((perm_pick 1 rfl).trans (List.Perm.cons _ ((perm_pick 1 rfl).trans (List.Perm.cons _ (List.Perm.refl _))))))))))
     ·obtain rfl : k = 8 := by omega
      refine CX.exit ?_
      refine XX.then_exit ?_
      refine XX.then_exit ?_
      refine XX.block_exit ?_
      refine XX.next (V' := [(1, _), (3, _), (5, _)]) ⟨rfl, rfl, rfl, trivial⟩ ?_
      refine CX.seq ?_
      refine CX.seq ?_
      refine CX.region ?_
      refine RX.cons rfl rfl (op_w (yw_fieldAddr rfl fld_74_1 rfl) rfl rfl ?_)
      refine RX.cons rfl rfl (op_yld (y_load (i := 2) rfl rfl one_4 rfl rfl) rfl rfl ?_)
      refine RX.nil (XX.next (V' := [(1, _), (5, _), (53, _)]) ⟨rfl, rfl, rfl, trivial⟩ ?_)
      refine CX.condF rfl ?_
      refine CX.skip (XX.next (V' := [(1, _), (5, _)]) ⟨rfl, rfl, trivial⟩ ?_)
      refine CX.seq ?_
      refine CX.draw 11 [(0, 32, 288230376151711744), (1, 288230376151711744, 576460752303423488), (2, 576460752303423488, 1152921504606846976), (4, 1152921504606846976, 2305843009213693952), (0, 2, 4611686018427387904), (16, 4611686018427387904, 9223372036854775808), (0, 2, 18446744073709551616), (64, 18446744073709551616, 36893488147419103232), (160, 46116860184273879040, 73786976294838206464), (264, 76092819304051900416, 147573952589676412928), (1023, 147573952589676412928, 4)] (by kernel_rfl) (by kernel_rfl) (by kernel_rfl) ?_
      refine DX.takeW 0 1 (by kernel_rfl) rfl rfl rfl rfl rfl (yw_move rfl rfl) ?_
      refine DX.takeW 1 3 (by kernel_rfl) rfl rfl rfl rfl rfl (yw_nilCheck rfl rfl) ?_
      refine DX.takeW 2 7 (by kernel_rfl) rfl rfl rfl rfl rfl (yw_field0 rfl fld_80_0 rfl) ?_
      refine DX.take 3 15 (by kernel_rfl) rfl rfl rfl rfl rfl (List.Sublist.refl _) (y_loadA (i := 1) rfl rfl agg_27 rfl rfl) ?_
      refine DX.takeW 4 31 (by kernel_rfl) rfl rfl rfl rfl rfl (yw_field0 rfl fld_27_0 rfl) ?_
      refine DX.take 5 63 (by kernel_rfl) rfl rfl rfl rfl rfl (List.Sublist.refl _) (y_load (i := 3) rfl rfl one_3 rfl rfl) ?_
      refine DX.takeW 6 127 (by kernel_rfl) rfl rfl rfl rfl rfl (yw_fieldAddr rfl fld_27_2 rfl) ?_
      refine DX.take 7 255 (by kernel_rfl) rfl rfl rfl rfl rfl (List.Sublist.refl _) (y_load (i := 3) rfl rfl one_3 rfl rfl) ?_
      refine DX.takeW 8 511 (by kernel_rfl) rfl rfl rfl rfl rfl (yw_build (v := .agg (Fct.cells (bare f.kind f.version))) rfl rfl (fun _ => by kernel_rfl)) ?_
      refine DX.takeW 9 1023 (by kernel_rfl) rfl rfl rfl rfl rfl (yw_eqlAgg (b := (Fct.same (strip f 8) (bare f.kind f.version))) rfl rfl rfl eqg_27 (fun w => eq_fct _ _ w)) ?_
      refine DX.takeW 10 2047 (by kernel_rfl) rfl rfl rfl rfl rfl (yw_assign rfl rfl) ?_
      refine DX.done (by kernel_rfl) (XX.next (V' := [(2, .bool (Fct.same (strip f 8) (bare f.kind f.version)))]) ⟨rfl, trivial⟩ ?_)
      refine CX.ret ?_
      exact ret_tmp rfl rfl fun w1 hw => ⟨by rw [← valid_yes hk (by omega) (by omega) hI2], hw.sub (List.nil_sublist _)⟩

end Go.Proofs.YtpcfgoadkfajfaaGreatDoor.Se
namespace Go.Proofs.YtpcfgoadkfajfaaGreatDoor.Se
set_option linter.all false
open Go Go.RowKit
set_option maxRecDepth 100000
theorem slt_63 : SlT Tryz.prog 63 100 18 := ⟨(Tryz.prog.info? 100).get!, Tryz.underlying63, by kernel_rfl, by kernel_rfl⟩
theorem szt_100 : SzT Tryz.prog 100 18 := ⟨(Tryz.prog.info? 100).get!, by kernel_rfl, by kernel_rfl⟩
theorem ent_127 : ∀ args w, (callFunc 127 args).run Tryz.prog w = .ok (.enter 127 args) w := enters_of Tryz.func127 (by kernel_rfl) rfl
set_option maxRecDepth 100000 in
theorem w_swapRange {w : World} {A : Option Addr} {cap len : Nat} (p X q Y r : List Fct) (a b n : Nat) (hlen : (p ++ X ++ q ++ Y ++ r).length = len) (ha : p.length = a) (hb : p.length + X.length + q.length = b) (hX : X.length = n) (hY : Y.length = n) (hA : 0 < len → ∃ b j, A = some ⟨b, j, none⟩) (hn : len ≤ 1000000)(hs : SL w (rowO A) w [PRow A cap (p ++ X ++ q ++ Y ++ r)]) :
    Calls Tryz.prog 127 #[.slice A len cap, .int .i64 ((a : Nat) : Int), .int .i64 ((b : Nat) : Int), .int .i64 ((n : Nat) : Int), .func (.func 46) #[] #[]] w (fun e w' => e = .returned (.tuple #[]) ∧ SL w (rowO A) w' [PRow A cap (p ++ Y ++ q ++ X ++ r)]) := by
 refine calls_of_CX (O := (rowO A)) (L := [PRow A cap (p ++ X ++ q ++ Y ++ r)]) (args := [.slice A len cap, .int .i64 ((a : Nat) : Int), .int .i64 ((b : Nat) : Int), .int .i64 ((n : Nat) : Int), .func (.func 46) #[] #[]]) Tryz.func127 rfl (by simp [Tryz.ntmps127]) hs ?_
 refine CX.sub (V' := [(0, .slice A len cap), (1, .int .i64 ((a : Nat) : Int)), (2, .int .i64 ((b : Nat) : Int)), (3, .int .i64 ((n : Nat) : Int)), (4, .func (.func 46) #[] #[])]) ⟨rfl, rfl, rfl, rfl, rfl, trivial⟩ ?_
 refine CX.seq ?_
 refine CX.region ?_
 refine RX.cons rfl rfl (op_w (yw_assign rfl rfl) rfl rfl ?_)
 refine RX.nil (XX.next (V' := [(0, _), (1, _), (2, _), (3, _), (10, _)]) ⟨rfl, rfl, rfl, rfl, rfl, trivial⟩ ?_)
 refine CX.block ?_
 refine CX.loop (σ := Nat × List Fct × List Fct × List Fct × List Fct) (fun z => [(0, .slice A len cap), (1, .int .i64 ((a : Nat) : Int)), (2, .int .i64 ((b : Nat) : Int)), (3, .int .i64 ((n : Nat) : Int)), (10, .int .i64 ((z.1 : Nat) : Int))]) (fun z => [PRow A cap (p ++ z.2.2.2.1 ++ z.2.2.1 ++ q ++ z.2.1 ++ z.2.2.2.2 ++ r)]) (fun z => z.2.1.length = z.1 ∧ z.2.2.2.1.length = z.1 ∧ z.2.1 ++ z.2.2.1 = X ∧ z.2.2.2.1 ++ z.2.2.2.2 = Y) (fun z => z.2.2.1.length) (0, [], X, [], Y) ⟨rfl, rfl, rfl, rfl⟩ ⟨rfl, rfl, rfl, rfl, rfl, trivial⟩ (by simp) (fun z hI => ?_)
 obtain ⟨i, X1, X2, Y1, Y2⟩ := z
 dsimp only at hI ⊢
 obtain ⟨h1, h2, hX', hY'⟩ := hI
 subst hX' hY'
 simp only [List.length_append] at hlen hX hY hb
 refine CX.seq ?_
 refine CX.seq ?_
 refine CX.region ?_
 refine RX.cons rfl rfl (op_w (yw_move rfl rfl) rfl rfl ?_)
 refine RX.cons rfl rfl (op_w (yw_move rfl rfl) rfl rfl ?_)
 refine RX.cons rfl rfl (op_w (yw_lss rfl rfl rfl) rfl rfl ?_)
 refine RX.nil (XX.next (V' := [(0, _), (1, _), (2, _), (3, _), (10, _), (13, _)]) ⟨rfl, rfl, rfl, rfl, rfl, rfl, trivial⟩ ?_)
 refine CX.condD (p := ((i : Nat) : Int) < ((n : Nat) : Int)) rfl (fun c13 => ?_) (fun c13 => ?_)
 ·obtain ⟨x, X2, rfl⟩ := exists_cons (l := X2) (by omega)
  obtain ⟨y, Y2, rfl⟩ := exists_cons (l := Y2) (by omega)
  simp only [List.length_cons] at hlen hX hY hb
  refine CX.skip (XX.next (V' := [(0, _), (1, _), (2, _), (3, _), (10, _)]) ⟨rfl, rfl, rfl, rfl, rfl, trivial⟩ ?_)
  refine CX.seq ?_
  refine CX.block ?_
  refine CX.draw 21 [(0, 1, 65536), (0, 2, 131072), (0, 1024, 262144), (6, 393216, 524288), (0, 1, 1048576), (0, 4, 2097152), (0, 1024, 4194304), (96, 6291456, 8388608), (0, 1, 16777216), (0, 4, 33554432), (0, 1024, 67108864), (1536, 100663296, 134217728), (2304, 150994944, 268435456), (4096, 268435456, 536870912), (0, 1, 1073741824), (0, 2, 2147483648), (0, 1024, 4294967296), (98304, 6442450944, 8589934592), (147456, 9663676416, 17179869184), (262144, 17179869184, 34359738368), (540431, 589824, 68719476736), (1589007, 69256347648, 0), (4194303, 9437184, 137438953472), (8388607, 171798691840, 0)] (by kernel_rfl) (by kernel_rfl) (by kernel_rfl) ?_
  refine DX.takeW 0 1 (by kernel_rfl) rfl rfl rfl rfl rfl (yw_move rfl rfl) ?_
  refine DX.takeW 1 3 (by kernel_rfl) rfl rfl rfl rfl rfl (yw_move rfl rfl) ?_
  refine DX.takeW 2 7 (by kernel_rfl) rfl rfl rfl rfl rfl (yw_move rfl rfl) ?_
  refine DX.takeW 3 15 (by kernel_rfl) rfl rfl rfl rfl rfl (yw_add rfl rfl rfl (by omega) (by omega)) ?_
  refine DX.takeW 4 31 (by kernel_rfl) rfl rfl rfl rfl rfl (yw_move rfl rfl) ?_
  refine DX.takeW 5 63 (by kernel_rfl) rfl rfl rfl rfl rfl (yw_move rfl rfl) ?_
  refine DX.takeW 6 127 (by kernel_rfl) rfl rfl rfl rfl rfl (yw_move rfl rfl) ?_
  refine DX.takeW 7 255 (by kernel_rfl) rfl rfl rfl rfl rfl (yw_add rfl rfl rfl (by omega) (by omega)) ?_
  refine DX.takeW 8 511 (by kernel_rfl) rfl rfl rfl rfl rfl (yw_move rfl rfl) ?_
  refine DX.takeW 9 1023 (by kernel_rfl) rfl rfl rfl rfl rfl (yw_move rfl rfl) ?_
  refine DX.takeW 10 2047 (by kernel_rfl) rfl rfl rfl rfl rfl (yw_move rfl rfl) ?_
  refine DX.takeW 11 4095 (by kernel_rfl) rfl rfl rfl rfl rfl (yw_add rfl rfl rfl (by omega) (by omega)) ?_
  refine DX.takeW 12 8191 (by kernel_rfl) rfl rfl rfl rfl rfl (yw_index (k := (b + i)) rfl slt_63 rfl rfl (by omega) (by omega) (hA (by omega))) ?_
  refine DX.take 13 16383 (by kernel_rfl) rfl rfl rfl rfl rfl (List.Sublist.refl _) (y_rowElem (i := 0) rfl rfl agg_100 rfl (get_at (x := y) (p ++ Y1 ++ x :: X2 ++ q ++ X1) (Y2 ++ r) (by simp) (by first | omega | (simp; omega)))) ?_
  refine DX.takeW 14 32767 (by kernel_rfl) rfl rfl rfl rfl rfl (yw_move rfl rfl) ?_
  refine DX.takeW 15 65535 (by kernel_rfl) rfl rfl rfl rfl rfl (yw_move rfl rfl) ?_
  refine DX.takeW 16 131071 (by kernel_rfl) rfl rfl rfl rfl rfl (yw_move rfl rfl) ?_
  refine DX.takeW 17 262143 (by kernel_rfl) rfl rfl rfl rfl rfl (yw_add rfl rfl rfl (by omega) (by omega)) ?_
  refine DX.takeW 18 524287 (by kernel_rfl) rfl rfl rfl rfl rfl (yw_index (k := (a + i)) rfl slt_63 rfl rfl (by omega) (by omega) (hA (by omega))) ?_
  refine DX.take 19 1048575 (by kernel_rfl) rfl rfl rfl rfl rfl (List.Sublist.refl _) (y_rowElem (i := 0) rfl rfl agg_100 rfl (get_at (x := x) (p ++ Y1) (X2 ++ q ++ X1 ++ y :: Y2 ++ r) (by simp) (by first | omega | (simp; omega)))) ?_
  refine DX.takeW 20 2097151 (by kernel_rfl) rfl rfl rfl rfl rfl (yw_index (k := (a + i)) rfl slt_63 rfl rfl (by omega) (by omega) (hA (by omega))) ?_
  refine DX.stepT 21 4194303 (by kernel_rfl) rfl rfl rfl rfl (op_storeElemE (i := 0) (k := (a + i)) (ys := List.map Fct.cells (p ++ Y1 ++ y :: X2 ++ q ++ X1 ++ y :: Y2 ++ r)) rfl rfl rfl rfl szt_100 rfl (plain_of rfl) rfl (by simp; omega) (set_at (x := x) (v := y) (p ++ Y1) (X2 ++ q ++ X1 ++ y :: Y2 ++ r) (by simp) (by first | omega | (simp; omega)) (by simp)) ?_)
  refine DX.takeW 22 8388607 (by kernel_rfl) rfl rfl rfl rfl rfl (yw_index (k := (b + i)) rfl slt_63 rfl rfl (by omega) (by omega) (hA (by omega))) ?_
  refine DX.stepT 23 16777215 (by kernel_rfl) rfl rfl rfl rfl (op_storeElemE (i := 0) (k := (b + i)) (ys := List.map Fct.cells (p ++ Y1 ++ y :: X2 ++ q ++ X1 ++ x :: Y2 ++ r)) rfl rfl rfl rfl szt_100 rfl (plain_of rfl) rfl (by simp; omega) (set_at (x := y) (v := x) (p ++ Y1 ++ y :: X2 ++ q ++ X1) (Y2 ++ r) (by simp) (by first | omega | (simp; omega)) (by simp)) ?_)
  refine DX.done (by kernel_rfl) (XX.inBlock (V' := [(0, _), (1, _), (2, _), (3, _), (10, _)]) ⟨rfl, rfl, rfl, rfl, rfl, trivial⟩ ?_)
  refine XX.next (V' := [(0, _), (1, _), (2, _), (3, _), (10, _)]) ⟨rfl, rfl, rfl, rfl, rfl, trivial⟩ ?_
  refine CX.region ?_
  refine RX.cons rfl rfl (op_w (yw_move rfl rfl) rfl rfl ?_)
  refine RX.cons rfl rfl (op_w (yw_add rfl rfl rfl (by omega) (by omega)) rfl rfl ?_)
  refine RX.cons rfl rfl (op_w (yw_assign rfl rfl) rfl rfl ?_)
  refine RX.nil (XX.againP ([]) (i + 1, X1 ++ [x], X2, Y1 ++ [y], Y2) (by simp) ⟨by simp; omega, by simp; omega, by simp, by simp⟩ ⟨rfl, rfl, rfl, rfl, rfl, trivial⟩ (by simpa using List.Perm.refl _))
 ·obtain rfl : X2 = [] := List.length_eq_zero_iff.1 (by omega)
  obtain rfl : Y2 = [] := List.length_eq_zero_iff.1 (by omega)
  refine CX.exit ?_
  refine XX.then_exit ?_
  refine XX.then_exit ?_
  refine XX.block_exit ?_
  exact end_none rfl fun w1 hw => ⟨rfl, by simpa using hw⟩

set_option maxRecDepth 100000 in
theorem w_rotate {w : World} {A : Option Addr} {cap len : Nat} (p U V r : List Fct) (a m b : Nat) (hlen : (p ++ U ++ V ++ r).length = len) (ha : p.length = a) (hm : p.length + U.length = m) (hb : p.length + U.length + V.length = b) (hU : 0 < U.length) (hV : 0 < V.length) (hA : 0 < len → ∃ b j, A = some ⟨b, j, none⟩) (hn : len ≤ 1000000)(hs : SL w (rowO A) w [PRow A cap (p ++ U ++ V ++ r)]) :
    Calls Tryz.prog 124 #[.slice A len cap, .int .i64 ((a : Nat) : Int), .int .i64 ((m : Nat) : Int), .int .i64 ((b : Nat) : Int), .func (.func 46) #[] #[]] w (fun e w' => e = .returned (.tuple #[]) ∧ SL w (rowO A) w' [PRow A cap (p ++ V ++ U ++ r)]) := by
 have hlen' := hlen
 simp only [List.length_append] at hlen'
 refine calls_of_CX (O := (rowO A)) (L := [PRow A cap (p ++ U ++ V ++ r)]) (args := [.slice A len cap, .int .i64 ((a : Nat) : Int), .int .i64 ((m : Nat) : Int), .int .i64 ((b : Nat) : Int), .func (.func 46) #[] #[]]) Tryz.func124 rfl (by simp [Tryz.ntmps124]) hs ?_
 refine CX.sub (V' := [(0, .slice A len cap), (1, .int .i64 ((a : Nat) : Int)), (2, .int .i64 ((m : Nat) : Int)), (3, .int .i64 ((b : Nat) : Int)), (4, .func (.func 46) #[] #[])]) ⟨rfl, rfl, rfl, rfl, rfl, trivial⟩ ?_
 refine CX.seq ?_
 refine CX.region ?_
 refine RX.cons rfl rfl (op_w (yw_move rfl rfl) rfl rfl ?_)
 refine RX.cons rfl rfl (op_w (yw_move rfl rfl) rfl rfl ?_)
 refine RX.cons rfl rfl (op_w (yw_sub rfl rfl rfl (by omega) (by omega)) rfl rfl ?_)
 refine RX.know (t := 14) (u := .int .i64 ((U.length : Nat) : Int)) rfl (congrArg (Value.int .i64) (by omega)) ?_
 refine RX.cons rfl rfl (op_w (yw_assign rfl rfl) rfl rfl ?_)
 refine RX.nil (XX.next (V' := [(0, _), (2, _), (3, _), (4, _), (10, _)]) ⟨rfl, rfl, rfl, rfl, rfl, trivial⟩ ?_)
 refine CX.seq ?_
 refine CX.region ?_
 refine RX.cons rfl rfl (op_w (yw_move rfl rfl) rfl rfl ?_)
 refine RX.cons rfl rfl (op_w (yw_move rfl rfl) rfl rfl ?_)
 refine RX.cons rfl rfl (op_w (yw_sub rfl rfl rfl (by omega) (by omega)) rfl rfl ?_)
 refine RX.know (t := 17) (u := .int .i64 ((V.length : Nat) : Int)) rfl (congrArg (Value.int .i64) (by omega)) ?_
 refine RX.cons rfl rfl (op_w (yw_assign rfl rfl) rfl rfl ?_)
 refine RX.nil (XX.next (V' := [(0, _), (2, _), (4, _), (10, _), (11, _)]) ⟨rfl, rfl, rfl, rfl, rfl, trivial⟩ ?_)
 refine CX.seq ?_
 refine CX.block ?_
 refine CX.loop (σ := Nat × Nat × List Fct × List Fct × List Fct × List Fct) (fun z => [(0, .slice A len cap), (2, .int .i64 ((m : Nat) : Int)), (4, .func (.func 46) #[] #[]), (10, .int .i64 ((z.1 : Nat) : Int)), (11, .int .i64 ((z.2.1 : Nat) : Int))]) (fun z => [PRow A cap (z.2.2.1 ++ z.2.2.2.1 ++ z.2.2.2.2.1 ++ z.2.2.2.2.2)]) (fun z => z.2.2.2.1.length = z.1 ∧ z.2.2.2.2.1.length = z.2.1 ∧ z.2.2.1.length + z.1 = m ∧ 0 < z.1 ∧ 0 < z.2.1 ∧ (z.2.2.1 ++ z.2.2.2.1 ++ z.2.2.2.2.1 ++ z.2.2.2.2.2).length = len ∧ z.2.2.1 ++ z.2.2.2.2.1 ++ z.2.2.2.1 ++ z.2.2.2.2.2 = p ++ V ++ U ++ r) (fun z => z.1 + z.2.1) (U.length, V.length, p, U, V, r) ⟨rfl, rfl, hm, hU, hV, hlen, rfl⟩ ⟨rfl, rfl, rfl, rfl, rfl, trivial⟩ rfl (fun z hI => ?_)
 obtain ⟨i, j, P, X, Y, Q⟩ := z
 dsimp only at hI ⊢
 obtain ⟨hX, hY, hP, hi, hj, hl, hf⟩ := hI
 simp only [List.length_append] at hl
 refine CX.seq ?_
 refine CX.seq ?_
 refine CX.region ?_
 refine RX.cons rfl rfl (op_w (yw_move rfl rfl) rfl rfl ?_)
 refine RX.cons rfl rfl (op_w (yw_move rfl rfl) rfl rfl ?_)
 refine RX.cons rfl rfl (op_w (yw_neq rfl rfl rfl) rfl rfl ?_)
 refine RX.nil (XX.next (V' := [(0, _), (2, _), (4, _), (10, _), (11, _), (20, _)]) ⟨rfl, rfl, rfl, rfl, rfl, rfl, trivial⟩ ?_)
 refine CX.condD (p := ((i : Nat) : Int) ≠ ((j : Nat) : Int)) rfl (fun c20 => ?_) (fun c20 => ?_)
 ·refine CX.skip (XX.next (V' := [(0, _), (2, _), (4, _), (10, _), (11, _)]) ⟨rfl, rfl, rfl, rfl, rfl, trivial⟩ ?_)
  refine CX.block ?_
  refine CX.seq ?_
  refine CX.region ?_
  refine RX.cons rfl rfl (op_w (yw_move rfl rfl) rfl rfl ?_)
  refine RX.cons rfl rfl (op_w (yw_move rfl rfl) rfl rfl ?_)
  refine RX.cons rfl rfl (op_w (yw_gtr rfl rfl rfl) rfl rfl ?_)
  refine RX.nil (XX.next (V' := [(0, _), (2, _), (4, _), (10, _), (11, _), (23, _)]) ⟨rfl, rfl, rfl, rfl, rfl, rfl, trivial⟩ ?_)
  refine CX.condD (p := ((j : Nat) : Int) < ((i : Nat) : Int)) rfl (fun c23 => ?_) (fun c23 => ?_)
  ·obtain ⟨X1, X2, rfl, hX1⟩ := split_at (l := X) (k := j) (by omega)
   simp only [List.length_append] at hX hl
   refine CX.seq ?_
   refine CX.region ?_
   refine RX.cons rfl rfl (op_w (yw_move rfl rfl) rfl rfl ?_)
   refine RX.cons rfl rfl (op_w (yw_move rfl rfl) rfl rfl ?_)
   refine RX.cons rfl rfl (op_w (yw_move rfl rfl) rfl rfl ?_)
   refine RX.cons rfl rfl (op_w (yw_sub rfl rfl rfl (by omega) (by omega)) rfl rfl ?_)
   refine RX.know (t := 27) (u := .int .i64 ((m - i : Nat) : Int)) rfl (congrArg (Value.int .i64) (by omega)) ?_
   refine RX.cons rfl rfl (op_w (yw_move rfl rfl) rfl rfl ?_)
   refine RX.cons rfl rfl (op_w (yw_move rfl rfl) rfl rfl ?_)
   refine RX.cons rfl rfl (op_w (yw_move rfl rfl) rfl rfl ?_)
   refine RX.cons rfl rfl (op_callP [PRow A cap (P ++ (X1 ++ X2) ++ Y ++ Q)] [] rfl rfl rfl rfl rfl ent_127 ((perm_pick 0 rfl).trans (List.Perm.cons _ (List.Perm.refl _))) (σ := Unit) (val := fun _ => .tuple #[]) (LL := fun _ => [PRow A cap (P ++ Y ++ X2 ++ X1 ++ Q)]) (post := fun _ => True) (fun w hw hs => (w_swapRange P X1 X2 Y Q (m - i) m j (by first | omega | (simp; omega) | simp) (by first | omega | (simp; omega) | simp) (by first | omega | (simp; omega) | simp) (by first | omega | (simp; omega) | simp) (by first | omega | (simp; omega) | simp) hA hn (prow_eq (by simp) hs)).mono fun e w' h => ⟨(), trivial, h⟩) (fun _ _ => ?_))
   refine RX.nil (XX.next (V' := [(0, _), (2, _), (4, _), (10, _), (11, _)]) ⟨rfl, rfl, rfl, rfl, rfl, trivial⟩ ?_)
   refine CX.region ?_
   refine RX.cons rfl rfl (op_w (yw_move rfl rfl) rfl rfl ?_)
   refine RX.cons rfl rfl (op_w (yw_move rfl rfl) rfl rfl ?_)
   refine RX.cons rfl rfl (op_w (yw_sub rfl rfl rfl (by omega) (by omega)) rfl rfl ?_)
   refine RX.know (t := 34) (u := .int .i64 ((i - j : Nat) : Int)) rfl (congrArg (Value.int .i64) (by omega)) ?_
   refine RX.cons rfl rfl (op_w (yw_assign rfl rfl) rfl rfl ?_)
   refine RX.nil (XX.inBlock (V' := [(0, _), (2, _), (4, _), (10, _), (11, _)]) ⟨rfl, rfl, rfl, rfl, rfl, trivial⟩ ?_)
   refine XX.againP ([]) (i - j, j, P ++ Y, X2, X1, Q) (by dsimp only; omega) ⟨by dsimp only; omega, hX1, by simp; omega, by dsimp only; omega, hj, by simp; omega, by rw [← hf]; simp⟩ ⟨rfl, rfl, rfl, rfl, rfl, trivial⟩ ((perm_pick 0 rfl).trans (List.Perm.cons _ (List.Perm.refl _)))
  ·obtain ⟨Y1, Y2, rfl, hY1⟩ := split_at (l := Y) (k := j - i) (by omega)
   simp only [List.length_append] at hY hl
   refine CX.seq ?_
   refine CX.region ?_
   refine RX.cons rfl rfl (op_w (yw_move rfl rfl) rfl rfl ?_)
   refine RX.cons rfl rfl (op_w (yw_move rfl rfl) rfl rfl ?_)
   refine RX.cons rfl rfl (op_w (yw_move rfl rfl) rfl rfl ?_)
   refine RX.cons rfl rfl (op_w (yw_sub rfl rfl rfl (by omega) (by omega)) rfl rfl ?_)
   refine RX.know (t := 38) (u := .int .i64 ((m - i : Nat) : Int)) rfl (congrArg (Value.int .i64) (by omega)) ?_
   refine RX.cons rfl rfl (op_w (yw_move rfl rfl) rfl rfl ?_)
   refine RX.cons rfl rfl (op_w (yw_move rfl rfl) rfl rfl ?_)
   refine RX.cons rfl rfl (op_w (yw_add rfl rfl rfl (by omega) (by omega)) rfl rfl ?_)
   refine RX.cons rfl rfl (op_w (yw_move rfl rfl) rfl rfl ?_)
   refine RX.cons rfl rfl (op_w (yw_sub rfl rfl rfl (by omega) (by omega)) rfl rfl ?_)
   refine RX.know (t := 43) (u := .int .i64 ((m + j - i : Nat) : Int)) rfl (congrArg (Value.int .i64) (by omega)) ?_
   refine RX.cons rfl rfl (op_w (yw_move rfl rfl) rfl rfl ?_)
   refine RX.cons rfl rfl (op_w (yw_move rfl rfl) rfl rfl ?_)
   refine RX.cons rfl rfl (op_callP [PRow A cap (P ++ X ++ (Y1 ++ Y2) ++ Q)] [] rfl rfl rfl rfl rfl ent_127 ((perm_pick 0 rfl).trans (List.Perm.cons _ (List.Perm.refl _))) (σ := Unit) (val := fun _ => .tuple #[]) (LL := fun _ => [PRow A cap (P ++ Y2 ++ Y1 ++ X ++ Q)]) (post := fun _ => True) (fun w hw hs => (w_swapRange P X Y1 Y2 Q (m - i) (m + j - i) i (by first | omega | (simp; omega) | simp) (by first | omega | (simp; omega) | simp) (by first | omega | (simp; omega) | simp) (by first | omega | (simp; omega) | simp) (by first | omega | (simp; omega) | simp) hA hn (prow_eq (by simp) hs)).mono fun e w' h => ⟨(), trivial, h⟩) (fun _ _ => ?_))
   refine RX.nil (XX.next (V' := [(0, _), (2, _), (4, _), (10, _), (11, _)]) ⟨rfl, rfl, rfl, rfl, rfl, trivial⟩ ?_)
   refine CX.region ?_
   refine RX.cons rfl rfl (op_w (yw_move rfl rfl) rfl rfl ?_)
   refine RX.cons rfl rfl (op_w (yw_move rfl rfl) rfl rfl ?_)
   refine RX.cons rfl rfl (op_w (yw_sub rfl rfl rfl (by omega) (by omega)) rfl rfl ?_)
   refine RX.know (t := 49) (u := .int .i64 ((j - i : Nat) : Int)) rfl (congrArg (Value.int .i64) (by omega)) ?_
   refine RX.cons rfl rfl (op_w (yw_assign rfl rfl) rfl rfl ?_)
   refine RX.nil (XX.inBlock (V' := [(0, _), (2, _), (4, _), (10, _), (11, _)]) ⟨rfl, rfl, rfl, rfl, rfl, trivial⟩ ?_)
   refine XX.againP ([]) (i, j - i, P, Y2, Y1, X ++ Q) (by dsimp only; omega) ⟨by dsimp only; omega, hY1, hP, hi, by dsimp only; omega, by simp; omega, by rw [← hf]; simp⟩ ⟨rfl, rfl, rfl, rfl, rfl, trivial⟩ (by simp)
 ·have hij : i = j := by omega
  refine CX.exit ?_
  refine XX.then_exit ?_
  refine XX.then_exit ?_
  refine XX.block_exit ?_
  refine XX.next (V' := [(0, _), (2, _), (4, _), (10, _)]) ⟨rfl, rfl, rfl, rfl, trivial⟩ ?_
  refine CX.region ?_
  refine RX.cons rfl rfl (op_w (yw_move rfl rfl) rfl rfl ?_)
  refine RX.cons rfl rfl (op_w (yw_move rfl rfl) rfl rfl ?_)
  refine RX.cons rfl rfl (op_w (yw_move rfl rfl) rfl rfl ?_)
  refine RX.cons rfl rfl (op_w (yw_sub rfl rfl rfl (by omega) (by omega)) rfl rfl ?_)
  refine RX.know (t := 53) (u := .int .i64 ((m - i : Nat) : Int)) rfl (congrArg (Value.int .i64) (by omega)) ?_
  refine RX.cons rfl rfl (op_w (yw_move rfl rfl) rfl rfl ?_)
  refine RX.cons rfl rfl (op_w (yw_move rfl rfl) rfl rfl ?_)
  refine RX.cons rfl rfl (op_w (yw_move rfl rfl) rfl rfl ?_)
  refine RX.cons rfl rfl (op_callP [PRow A cap (P ++ X ++ Y ++ Q)] [] rfl rfl rfl rfl rfl ent_127 ((perm_pick 0 rfl).trans (List.Perm.cons _ (List.Perm.refl _))) (σ := Unit) (val := fun _ => .tuple #[]) (LL := fun _ => [PRow A cap (P ++ Y ++ [] ++ X ++ Q)]) (post := fun _ => True) (fun w hw hs => (w_swapRange P X ([]) Y Q (m - i) m i (by first | omega | (simp; omega) | simp) (by first | omega | (simp; omega) | simp) (by first | omega | (simp; omega) | simp) (by first | omega | (simp; omega) | simp) (by first | omega | (simp; omega) | simp) hA hn (prow_eq (by simp) hs)).mono fun e w' h => ⟨(), trivial, h⟩) (fun _ _ => ?_))
  refine RX.nil ?_
  exact end_none rfl fun w1 hw => ⟨rfl, by rw [← hf]; simpa using hw⟩

end Go.Proofs.YtpcfgoadkfajfaaGreatDoor.Se
namespace Go.Proofs.YtpcfgoadkfajfaaGreatDoor.Se
set_option linter.all false
open Go Go.RowKit
set_option maxRecDepth 100000
theorem ent_46 : ∀ args w, (callFunc 46 args).run Tryz.prog w = .ok (.enter 46 args) w := enters_of Tryz.func46 (by kernel_rfl) rfl
set_option maxRecDepth 100000 in
theorem w_insertion {w : World} {A : Option Addr} {cap len : Nat} (p s r : List Fct) (a b : Nat) (hlen : (p ++ s ++ r).length = len) (ha : p.length = a) (hb : p.length + s.length = b) (hA : 0 < len → ∃ b j, A = some ⟨b, j, none⟩) (hn : len ≤ 1000000)(hs : SL w (rowO A) w [PRow A cap (p ++ s ++ r)]) :
    Calls Tryz.prog 116 #[.slice A len cap, .int .i64 ((a : Nat) : Int), .int .i64 ((b : Nat) : Int), .func (.func 46) #[] #[]] w (fun e w' => e = .returned (.tuple #[]) ∧ SL w (rowO A) w' [PRow A cap (p ++ Srt.isort before s ++ r)]) := by
 simp only [List.length_append] at hlen
 refine calls_of_CX (O := (rowO A)) (L := [PRow A cap (p ++ s ++ r)]) (args := [.slice A len cap, .int .i64 ((a : Nat) : Int), .int .i64 ((b : Nat) : Int), .func (.func 46) #[] #[]]) Tryz.func116 rfl (by simp [Tryz.ntmps116]) hs ?_
 refine CX.sub (V' := [(0, .slice A len cap), (1, .int .i64 ((a : Nat) : Int)), (2, .int .i64 ((b : Nat) : Int)), (3, .func (.func 46) #[] #[])]) ⟨rfl, rfl, rfl, rfl, trivial⟩ ?_
 refine CX.seq ?_
 refine CX.region ?_
 refine RX.cons rfl rfl (op_w (yw_move rfl rfl) rfl rfl ?_)
 refine RX.cons rfl rfl (op_w (yw_add rfl rfl rfl (by omega) (by omega)) rfl rfl ?_)
 refine RX.know (t := 11) (u := .int .i64 ((a + 1 : Nat) : Int)) rfl (congrArg (Value.int .i64) (by omega)) ?_
 refine RX.cons rfl rfl (op_w (yw_assign rfl rfl) rfl rfl ?_)
 refine RX.nil (XX.next (V' := [(0, _), (1, _), (2, _), (3, _), (8, _)]) ⟨rfl, rfl, rfl, rfl, rfl, trivial⟩ ?_)
 refine CX.block ?_
 obtain ⟨S0, T0, hst, hS0, hf0, hl0, hl1⟩ := start_insert s (p.length) a b ha hb
 refine CX.loop (σ := Nat × List Fct × List Fct) (fun z => [(0, .slice A len cap), (1, .int .i64 ((a : Nat) : Int)), (2, .int .i64 ((b : Nat) : Int)), (3, .func (.func 46) #[] #[]), (8, .int .i64 ((z.1 : Nat) : Int))]) (fun z => [PRow A cap (p ++ z.2.1 ++ z.2.2 ++ r)]) (fun z => Srt.Sorted before z.2.1 ∧ z.2.2.foldl (fun acc x => Srt.ins before x acc) z.2.1 = Srt.isort before s ∧ (p.length + z.2.1.length = z.1 ∨ z.2.2 = [] ∧ b ≤ z.1) ∧ p.length + z.2.1.length + z.2.2.length = b) (fun z => z.2.2.length) (a + 1, S0, T0) ⟨hS0, hf0, hl0, hl1⟩ ⟨rfl, rfl, rfl, rfl, rfl, trivial⟩ (by rw [← hst]; simp) (fun z hI => ?_)
 obtain ⟨i, S, T⟩ := z
 dsimp only at hI ⊢
 obtain ⟨hS, hf, hi, hl⟩ := hI
 refine CX.seq ?_
 refine CX.seq ?_
 refine CX.region ?_
 refine RX.cons rfl rfl (op_w (yw_move rfl rfl) rfl rfl ?_)
 refine RX.cons rfl rfl (op_w (yw_move rfl rfl) rfl rfl ?_)
 refine RX.cons rfl rfl (op_w (yw_lss rfl rfl rfl) rfl rfl ?_)
 refine RX.nil (XX.next (V' := [(0, _), (1, _), (2, _), (3, _), (8, _), (14, _)]) ⟨rfl, rfl, rfl, rfl, rfl, rfl, trivial⟩ ?_)
 refine CX.condD (p := ((i : Nat) : Int) < ((b : Nat) : Int)) rfl (fun c14 => ?_) (fun c14 => ?_)
 ·obtain ⟨x, T, rfl⟩ : ∃ x T', T = x :: T' := exists_cons (by rcases hi with hi | hi <;> omega)
  have hi1 : p.length + S.length = i := by rcases hi with hi | hi; exact hi; simp at hi
  simp only [List.length_cons] at hl
  refine CX.skip (XX.next (V' := [(0, _), (1, _), (2, _), (3, _), (8, _)]) ⟨rfl, rfl, rfl, rfl, rfl, trivial⟩ ?_)
  refine CX.seq ?_
  refine CX.block ?_
  refine CX.seq ?_
  refine CX.region ?_
  refine RX.cons rfl rfl (op_w (yw_move rfl rfl) rfl rfl ?_)
  refine RX.cons rfl rfl (op_w (yw_assign rfl rfl) rfl rfl ?_)
  refine RX.nil (XX.next (V' := [(0, _), (1, _), (2, _), (3, _), (8, _), (9, _)]) ⟨rfl, rfl, rfl, rfl, rfl, rfl, trivial⟩ ?_)
  refine CX.block ?_
  refine CX.loop (σ := Nat × List Fct × List Fct) (fun z => [(0, .slice A len cap), (1, .int .i64 ((a : Nat) : Int)), (2, .int .i64 ((b : Nat) : Int)), (3, .func (.func 46) #[] #[]), (8, .int .i64 ((i : Nat) : Int)), (9, .int .i64 ((z.1 : Nat) : Int))]) (fun z => [PRow A cap (p ++ z.2.1 ++ x :: z.2.2 ++ T ++ r)]) (fun z => p.length + z.2.1.length = z.1 ∧ z.2.1 ++ z.2.2 = S ∧ ∀ c ∈ z.2.2, before x c = true) (fun z => z.2.1.length) (i, S, []) ⟨hi1, by simp, by simp⟩ ⟨rfl, rfl, rfl, rfl, rfl, rfl, trivial⟩ (by simp) (fun z hI => ?_)
  obtain ⟨j, S1, S2⟩ := z
  dsimp only at hI ⊢
  obtain ⟨hj, hSS, hS2⟩ := hI
  subst hSS
  simp only [List.length_append] at hl hi1
  refine CX.seq ?_
  refine CX.seq ?_
  refine CX.draw 17 [(0, 512, 262144), (0, 2, 524288), (3, 786432, 1048576), (4, 1048576, 2097152), (8, 2097160, 4194304), (8, 2097153, 8388608), (8, 2097664, 16777216), (104, 27262976, 33554432), (136, 35651584, 67108864), (8, 2097153, 134217728), (8, 2097664, 268435456), (1032, 270532608, 536870912), (2568, 673185792, 1073741824), (4104, 1075838976, 2147483648), (8472, 2220883968, 4294967296), (16392, 4297064448, 8589934592), (32776, 8592031744, 17179869184)] (by kernel_rfl) (by kernel_rfl) (by kernel_rfl) ?_
  refine DX.takeW 0 1 (by kernel_rfl) rfl rfl rfl rfl rfl (yw_move rfl rfl) ?_
  refine DX.takeW 1 3 (by kernel_rfl) rfl rfl rfl rfl rfl (yw_move rfl rfl) ?_
  refine DX.takeW 2 7 (by kernel_rfl) rfl rfl rfl rfl rfl (yw_gtr rfl rfl rfl) ?_
  refine DX.takeW 3 15 (by kernel_rfl) rfl rfl rfl rfl rfl (yw_move rfl rfl) ?_
  refine DX.splitD (t := 21) (p := ((a : Nat) : Int) < ((j : Nat) : Int)) rfl (fun d21 => ?_) (fun d21 => ?_)
  ·obtain ⟨S1, y, rfl⟩ : ∃ S1' y, S1 = S1' ++ [y] := exists_snoc (by omega)
   simp only [List.length_append, List.length_cons, List.length_nil] at hl hi1 hj
   refine DX.takeWG 4 31 (by kernel_rfl) rfl rfl rfl rfl rfl rfl rfl rfl (yw_move rfl rfl) ?_
   refine DX.takeWG 5 63 (by kernel_rfl) rfl rfl rfl rfl rfl rfl rfl rfl (yw_move rfl rfl) ?_
   refine DX.takeWG 6 127 (by kernel_rfl) rfl rfl rfl rfl rfl rfl rfl rfl (yw_move rfl rfl) ?_
   refine DX.takeWG 7 255 (by kernel_rfl) rfl rfl rfl rfl rfl rfl rfl rfl (yw_index (k := j) rfl slt_63 rfl rfl (by omega) (by omega) (hA (by omega))) ?_
   refine DX.takeG 8 511 (by kernel_rfl) rfl rfl rfl rfl rfl rfl rfl rfl (List.Sublist.refl _) (y_rowElem (i := 0) rfl rfl agg_100 rfl (get_at (x := x) (p ++ (S1 ++ [y])) (S2 ++ T ++ r) (by simp) (by first | omega | (simp; omega)))) ?_
   refine DX.takeWG 9 1023 (by kernel_rfl) rfl rfl rfl rfl rfl rfl rfl rfl (yw_move rfl rfl) ?_
   refine DX.takeWG 10 2047 (by kernel_rfl) rfl rfl rfl rfl rfl rfl rfl rfl (yw_move rfl rfl) ?_
   refine DX.takeWG 11 4095 (by kernel_rfl) rfl rfl rfl rfl rfl rfl rfl rfl (yw_sub rfl rfl rfl (by omega) (by omega)) ?_
   refine DX.know (t := 29) (u := .int .i64 ((j - 1 : Nat) : Int)) rfl (congrArg (Value.int .i64) (by omega)) ?_
   refine DX.takeWG 12 8191 (by kernel_rfl) rfl rfl rfl rfl rfl rfl rfl rfl (yw_index (k := (j - 1)) rfl slt_63 rfl rfl (by omega) (by omega) (hA (by omega))) ?_
   refine DX.takeG 13 16383 (by kernel_rfl) rfl rfl rfl rfl rfl rfl rfl rfl (List.Sublist.refl _) (y_rowElem (i := 0) rfl rfl agg_100 rfl (get_at (x := y) (p ++ S1) (x :: S2 ++ T ++ r) (by simp) (by first | omega | (simp; omega)))) ?_
   refine DX.stepG 14 32767 (by kernel_rfl) rfl rfl rfl rfl rfl rfl (op_callV (v := .int .i64 (cmpF x y)) rfl rfl rfl rfl rfl ent_46 (fun w _ => w_cmp x y) (DXs.mk (List.Sublist.refl _) ?_))
   refine DX.takeWG 15 65535 (by kernel_rfl) rfl rfl rfl rfl rfl rfl rfl rfl (yw_lss rfl rfl rfl) ?_
   refine DX.takeW 16 131071 (by kernel_rfl) rfl rfl rfl rfl rfl (yw_pickT rfl rfl rfl) ?_
   refine DX.done (by kernel_rfl) (XX.next (V' := [(0, _), (1, _), (2, _), (3, _), (8, _), (9, _), (34, _)]) ⟨rfl, rfl, rfl, rfl, rfl, rfl, rfl, trivial⟩ ?_)
   refine CX.condD (p := cmpF x y < 0) rfl (fun c34 => ?_) (fun c34 => ?_)
   ·refine CX.skip (XX.next (V' := [(0, _), (1, _), (2, _), (3, _), (8, _), (9, _)]) ⟨rfl, rfl, rfl, rfl, rfl, rfl, trivial⟩ ?_)
    refine CX.seq ?_
    refine CX.block ?_
    refine CX.draw 15 [(0, 1, 137438953472), (0, 512, 274877906944), (0, 1, 549755813888), (0, 512, 1099511627776), (8, 1099511627776, 2199023255552), (0, 1, 4398046511104), (0, 512, 8796093022208), (64, 8796093022208, 17592186044416), (160, 21990232555520, 35184372088832), (256, 35184372088832, 70368744177664), (0, 1, 140737488355328), (0, 512, 281474976710656), (3072, 422212465065984, 562949953421312), (4096, 562949953421312, 1125899906842624), (9187, 412316860416, 2251799813685248), (25571, 2322168557862912, 0), (65535, 2748779069440, 4503599627370496), (131071, 5629499534213120, 0)] (by kernel_rfl) (by kernel_rfl) (by kernel_rfl) ?_
    refine DX.takeW 0 1 (by kernel_rfl) rfl rfl rfl rfl rfl (yw_move rfl rfl) ?_
    refine DX.takeW 1 3 (by kernel_rfl) rfl rfl rfl rfl rfl (yw_move rfl rfl) ?_
    refine DX.takeW 2 7 (by kernel_rfl) rfl rfl rfl rfl rfl (yw_move rfl rfl) ?_
    refine DX.takeW 3 15 (by kernel_rfl) rfl rfl rfl rfl rfl (yw_move rfl rfl) ?_
    refine DX.takeW 4 31 (by kernel_rfl) rfl rfl rfl rfl rfl (yw_sub rfl rfl rfl (by omega) (by omega)) ?_
    refine DX.know (t := 41) (u := .int .i64 ((j - 1 : Nat) : Int)) rfl (congrArg (Value.int .i64) (by omega)) ?_
    refine DX.takeW 5 63 (by kernel_rfl) rfl rfl rfl rfl rfl (yw_move rfl rfl) ?_
    refine DX.takeW 6 127 (by kernel_rfl) rfl rfl rfl rfl rfl (yw_move rfl rfl) ?_
    refine DX.takeW 7 255 (by kernel_rfl) rfl rfl rfl rfl rfl (yw_sub rfl rfl rfl (by omega) (by omega)) ?_
    refine DX.know (t := 44) (u := .int .i64 ((j - 1 : Nat) : Int)) rfl (congrArg (Value.int .i64) (by omega)) ?_
    refine DX.takeW 8 511 (by kernel_rfl) rfl rfl rfl rfl rfl (yw_index (k := (j - 1)) rfl slt_63 rfl rfl (by omega) (by omega) (hA (by omega))) ?_
    refine DX.take 9 1023 (by kernel_rfl) rfl rfl rfl rfl rfl (List.Sublist.refl _) (y_rowElem (i := 0) rfl rfl agg_100 rfl (get_at (x := y) (p ++ S1) (x :: S2 ++ T ++ r) (by simp) (by first | omega | (simp; omega)))) ?_
    refine DX.takeW 10 2047 (by kernel_rfl) rfl rfl rfl rfl rfl (yw_move rfl rfl) ?_
    refine DX.takeW 11 4095 (by kernel_rfl) rfl rfl rfl rfl rfl (yw_move rfl rfl) ?_
    refine DX.takeW 12 8191 (by kernel_rfl) rfl rfl rfl rfl rfl (yw_index (k := j) rfl slt_63 rfl rfl (by omega) (by omega) (hA (by omega))) ?_
    refine DX.take 13 16383 (by kernel_rfl) rfl rfl rfl rfl rfl (List.Sublist.refl _) (y_rowElem (i := 0) rfl rfl agg_100 rfl (get_at (x := x) (p ++ (S1 ++ [y])) (S2 ++ T ++ r) (by simp) (by first | omega | (simp; omega)))) ?_
    refine DX.takeW 14 32767 (by kernel_rfl) rfl rfl rfl rfl rfl (yw_index (k := j) rfl slt_63 rfl rfl (by omega) (by omega) (hA (by omega))) ?_
    refine DX.stepT 15 65535 (by kernel_rfl) rfl rfl rfl rfl (op_storeElemE (i := 0) (k := j) (ys := List.map Fct.cells (p ++ (S1 ++ [y]) ++ y :: S2 ++ T ++ r)) rfl rfl rfl rfl szt_100 rfl (plain_of rfl) rfl (by simp; omega) (set_at (x := x) (v := y) (p ++ (S1 ++ [y])) (S2 ++ T ++ r) (by simp) (by first | omega | (simp; omega)) (by simp)) ?_)
    refine DX.takeW 16 131071 (by kernel_rfl) rfl rfl rfl rfl rfl (yw_index (k := (j - 1)) rfl slt_63 rfl rfl (by omega) (by omega) (hA (by omega))) ?_
    refine DX.stepT 17 262143 (by kernel_rfl) rfl rfl rfl rfl (op_storeElemE (i := 0) (k := (j - 1)) (ys := List.map Fct.cells (p ++ (S1 ++ [x]) ++ y :: S2 ++ T ++ r)) rfl rfl rfl rfl szt_100 rfl (plain_of rfl) rfl (by simp; omega) (set_at (x := y) (v := x) (p ++ S1) (y :: S2 ++ T ++ r) (by simp) (by first | omega | (simp; omega)) (by simp)) ?_)
    refine DX.done (by kernel_rfl) (XX.inBlock (V' := [(0, _), (1, _), (2, _), (3, _), (8, _), (9, _)]) ⟨rfl, rfl, rfl, rfl, rfl, rfl, trivial⟩ ?_)
    refine XX.next (V' := [(0, _), (1, _), (2, _), (3, _), (8, _), (9, _)]) ⟨rfl, rfl, rfl, rfl, rfl, rfl, trivial⟩ ?_
    refine CX.region ?_
    refine RX.cons rfl rfl (op_w (yw_move rfl rfl) rfl rfl ?_)
    refine RX.cons rfl rfl (op_w (yw_sub rfl rfl rfl (by omega) (by omega)) rfl rfl ?_)
    refine RX.know (t := 36) (u := .int .i64 ((j - 1 : Nat) : Int)) rfl (congrArg (Value.int .i64) (by omega)) ?_
    refine RX.cons rfl rfl (op_w (yw_assign rfl rfl) rfl rfl ?_)
    refine RX.nil (XX.againP ([]) (j - 1, S1, y :: S2) (by simp) ⟨by dsimp only; omega, by simp, fun c hc => (List.mem_cons.1 hc).elim (fun e => e ▸ (cmpF_neg x y).1 c34) (hS2 c)⟩ ⟨rfl, rfl, rfl, rfl, rfl, rfl, trivial⟩ (by simpa using List.Perm.refl _))
   ·have hins : Srt.ins before x (S1 ++ [y] ++ S2) = S1 ++ [y] ++ x :: S2 := Srt.ins_place before_swo hS (Srt.below_last before_swo (Srt.sorted_append.1 hS).1 (by cases hb' : before x y; rfl; exact absurd ((cmpF_neg x y).2 hb') c34)) hS2
    refine CX.exit ?_
    refine XX.then_exit ?_
    refine XX.then_exit ?_
    refine XX.block_exit ?_
    refine XX.inBlock (V' := [(0, _), (1, _), (2, _), (3, _), (8, _)]) ⟨rfl, rfl, rfl, rfl, rfl, trivial⟩ ?_
    refine XX.next (V' := [(0, _), (1, _), (2, _), (3, _), (8, _)]) ⟨rfl, rfl, rfl, rfl, rfl, trivial⟩ ?_
    refine CX.region ?_
    refine RX.cons rfl rfl (op_w (yw_move rfl rfl) rfl rfl ?_)
    refine RX.cons rfl rfl (op_w (yw_add rfl rfl rfl (by omega) (by omega)) rfl rfl ?_)
    refine RX.cons rfl rfl (op_w (yw_assign rfl rfl) rfl rfl ?_)
    refine RX.nil (XX.againP ([]) (i + 1, Srt.ins before x (S1 ++ [y] ++ S2), T) (by simp) ⟨Srt.ins_sorted before_swo x hS, hf, .inl (by dsimp only; rw [hins]; simp; omega), by dsimp only; rw [hins]; simp; omega⟩ ⟨rfl, rfl, rfl, rfl, rfl, trivial⟩ (by dsimp only; rw [hins]; simpa using List.Perm.refl _))
  ·obtain rfl : S1 = [] := List.length_eq_zero_iff.1 (by omega)
   have hins : Srt.ins before x ([] ++ S2) = [] ++ x :: S2 := Srt.ins_place before_swo hS (by simp) hS2
   refine DX.skip 4 31 (by kernel_rfl) rfl rfl rfl rfl rfl rfl rfl rfl ?_
   refine DX.skip 5 63 (by kernel_rfl) rfl rfl rfl rfl rfl rfl rfl rfl ?_
   refine DX.skip 6 127 (by kernel_rfl) rfl rfl rfl rfl rfl rfl rfl rfl ?_
   refine DX.skip 7 255 (by kernel_rfl) rfl rfl rfl rfl rfl rfl rfl rfl ?_
   refine DX.skip 8 511 (by kernel_rfl) rfl rfl rfl rfl rfl rfl rfl rfl ?_
   refine DX.skip 9 1023 (by kernel_rfl) rfl rfl rfl rfl rfl rfl rfl rfl ?_
   refine DX.skip 10 2047 (by kernel_rfl) rfl rfl rfl rfl rfl rfl rfl rfl ?_
   refine DX.skip 11 4095 (by kernel_rfl) rfl rfl rfl rfl rfl rfl rfl rfl ?_
   refine DX.skip 12 8191 (by kernel_rfl) rfl rfl rfl rfl rfl rfl rfl rfl ?_
   refine DX.skip 13 16383 (by kernel_rfl) rfl rfl rfl rfl rfl rfl rfl rfl ?_
   refine DX.skip 14 32767 (by kernel_rfl) rfl rfl rfl rfl rfl rfl rfl rfl ?_
   refine DX.skip 15 65535 (by kernel_rfl) rfl rfl rfl rfl rfl rfl rfl rfl ?_
   refine DX.takeW 16 131071 (by kernel_rfl) rfl rfl rfl rfl rfl (yw_pickF rfl rfl rfl) ?_
   refine DX.done (by kernel_rfl) (XX.next (V' := [(0, _), (1, _), (2, _), (3, _), (8, _), (9, _), (34, _)]) ⟨rfl, rfl, rfl, rfl, rfl, rfl, rfl, trivial⟩ ?_)
   refine CX.condF rfl ?_
   refine CX.exit ?_
   refine XX.then_exit ?_
   refine XX.then_exit ?_
   refine XX.block_exit ?_
   refine XX.inBlock (V' := [(0, _), (1, _), (2, _), (3, _), (8, _)]) ⟨rfl, rfl, rfl, rfl, rfl, trivial⟩ ?_
   refine XX.next (V' := [(0, _), (1, _), (2, _), (3, _), (8, _)]) ⟨rfl, rfl, rfl, rfl, rfl, trivial⟩ ?_
   refine CX.region ?_
   refine RX.cons rfl rfl (op_w (yw_move rfl rfl) rfl rfl ?_)
   refine RX.cons rfl rfl (op_w (yw_add rfl rfl rfl (by omega) (by omega)) rfl rfl ?_)
   refine RX.cons rfl rfl (op_w (yw_assign rfl rfl) rfl rfl ?_)
   refine RX.nil (XX.againP ([]) (i + 1, Srt.ins before x ([] ++ S2), T) (by simp) ⟨Srt.ins_sorted before_swo x hS, hf, .inl (by dsimp only; rw [hins]; simp; omega), by dsimp only; rw [hins]; simp; omega⟩ ⟨rfl, rfl, rfl, rfl, rfl, trivial⟩ (by dsimp only; rw [hins]; simpa using List.Perm.refl _))
 ·obtain rfl : T = [] := by rcases hi with hi | hi; exact List.length_eq_zero_iff.1 (by omega); exact hi.1
  refine CX.exit ?_
  refine XX.then_exit ?_
  refine XX.then_exit ?_
  refine XX.block_exit ?_
  exact end_none rfl fun w1 hw => ⟨rfl, by simpa [← hf] using hw⟩

end Go.Proofs.YtpcfgoadkfajfaaGreatDoor.Se
namespace Go.Proofs.YtpcfgoadkfajfaaGreatDoor.Se
set_option linter.all false
open Go Go.RowKit
set_option maxRecDepth 100000
theorem ent_124 : ∀ args w, (callFunc 124 args).run Tryz.prog w = .ok (.enter 124 args) w := enters_of Tryz.func124 (by kernel_rfl) rfl
theorem ent_117 : ∀ args w, (callFunc 117 args).run Tryz.prog w = .ok (.enter 117 args) w := enters_of Tryz.func117 (by kernel_rfl) rfl
/-- A merge of fewer than N elements. -/
def SymOk (N : Nat) : Prop := ∀ {w : World} {A : Option Addr} {cap len : Nat} (p U V r : List Fct) (a m b : Nat), U.length + V.length < N → (p ++ U ++ V ++ r).length = len → p.length = a → p.length + U.length = m → p.length + U.length + V.length = b →
    Srt.Sorted before U → Srt.Sorted before V → 0 < U.length → 0 < V.length → (0 < len → ∃ b j, A = some ⟨b, j, none⟩) → len ≤ 1000000 → SL w (rowO A) w [PRow A cap (p ++ U ++ V ++ r)] →
    Calls Tryz.prog 117 #[.slice A len cap, .int .i64 ((a : Nat) : Int), .int .i64 ((m : Nat) : Int), .int .i64 ((b : Nat) : Int), .func (.func 46) #[] #[]] w (fun e w' => e = .returned (.tuple #[]) ∧ SL w (rowO A) w' [PRow A cap (p ++ Srt.isort before (U ++ V) ++ r)])

set_option maxRecDepth 100000 in
theorem w_symStep {N : Nat} (ih : SymOk N) {w : World} {A : Option Addr} {cap len : Nat} (p U V r : List Fct) (a m b : Nat) (hN : U.length + V.length < N + 1) (hlen : (p ++ U ++ V ++ r).length = len) (ha : p.length = a) (hm : p.length + U.length = m) (hb : p.length + U.length + V.length = b) (hU : Srt.Sorted before U) (hV : Srt.Sorted before V) (hU0 : 0 < U.length) (hV0 : 0 < V.length) (hA : 0 < len → ∃ b j, A = some ⟨b, j, none⟩) (hn : len ≤ 1000000)(hs : SL w (rowO A) w [PRow A cap (p ++ U ++ V ++ r)]) :
    Calls Tryz.prog 117 #[.slice A len cap, .int .i64 ((a : Nat) : Int), .int .i64 ((m : Nat) : Int), .int .i64 ((b : Nat) : Int), .func (.func 46) #[] #[]] w (fun e w' => e = .returned (.tuple #[]) ∧ SL w (rowO A) w' [PRow A cap (p ++ Srt.isort before (U ++ V) ++ r)]) := by
 simp only [List.length_append] at hlen
 refine calls_of_CX (O := (rowO A)) (L := [PRow A cap (p ++ U ++ V ++ r)]) (args := [.slice A len cap, .int .i64 ((a : Nat) : Int), .int .i64 ((m : Nat) : Int), .int .i64 ((b : Nat) : Int), .func (.func 46) #[] #[]]) Tryz.func117 rfl (by simp [Tryz.ntmps117]) hs ?_
 refine CX.sub (V' := [(0, .slice A len cap), (1, .int .i64 ((a : Nat) : Int)), (2, .int .i64 ((m : Nat) : Int)), (3, .int .i64 ((b : Nat) : Int)), (4, .func (.func 46) #[] #[])]) ⟨rfl, rfl, rfl, rfl, rfl, trivial⟩ ?_
 refine CX.seq ?_
 refine CX.seq ?_
 refine CX.region ?_
 refine RX.cons rfl rfl (op_w (yw_move rfl rfl) rfl rfl ?_)
 refine RX.cons rfl rfl (op_w (yw_move rfl rfl) rfl rfl ?_)
 refine RX.cons rfl rfl (op_w (yw_sub rfl rfl rfl (by omega) (by omega)) rfl rfl ?_)
 refine RX.cons rfl rfl (op_w (yw_eql rfl rfl rfl) rfl rfl ?_)
 refine RX.nil (XX.next (V' := [(0, _), (1, _), (2, _), (3, _), (4, _), (28, _)]) ⟨rfl, rfl, rfl, rfl, rfl, rfl, trivial⟩ ?_)
 refine CX.condD (p := ((m : Nat) : Int) - ((a : Nat) : Int) = 1) rfl (fun c28 => ?_) (fun c28 => ?_)
 ·obtain ⟨x, rfl⟩ := one_of (l := U) (by omega)
  simp only [List.length_cons, List.length_nil, Nat.zero_add] at hm hb hlen hN
  refine CX.seq ?_
  refine CX.region ?_
  refine RX.cons rfl rfl (op_w (yw_move rfl rfl) rfl rfl ?_)
  refine RX.cons rfl rfl (op_w (yw_assign rfl rfl) rfl rfl ?_)
  refine RX.nil (XX.next (V' := [(0, _), (1, _), (3, _), (4, _), (10, _)]) ⟨rfl, rfl, rfl, rfl, rfl, trivial⟩ ?_)
  refine CX.seq ?_
  refine CX.region ?_
  refine RX.cons rfl rfl (op_w (yw_move rfl rfl) rfl rfl ?_)
  refine RX.cons rfl rfl (op_w (yw_assign rfl rfl) rfl rfl ?_)
  refine RX.nil (XX.next (V' := [(0, _), (1, _), (4, _), (10, _), (11, _)]) ⟨rfl, rfl, rfl, rfl, rfl, trivial⟩ ?_)
  refine CX.seq ?_
  refine CX.block ?_
  refine CX.loop (σ := Nat × Nat) (fun z => [(0, .slice A len cap), (1, .int .i64 ((a : Nat) : Int)), (4, .func (.func 46) #[] #[]), (10, .int .i64 ((z.1 : Nat) : Int)), (11, .int .i64 ((z.2 : Nat) : Int))]) (fun z => [PRow A cap (p ++ [x] ++ V ++ r)]) (fun z => m ≤ z.1 ∧ z.1 ≤ z.2 ∧ z.2 ≤ b ∧ (z.1 = m ∨ ∃ c, (p ++ [x] ++ V ++ r)[z.1 - 1]? = some c ∧ before c x = true) ∧ (z.2 = b ∨ ∃ c, (p ++ [x] ++ V ++ r)[z.2]? = some c ∧ before c x = false)) (fun z => z.2 - z.1) (m, b) ⟨Nat.le_refl _, by dsimp only; omega, Nat.le_refl _, .inl rfl, .inl rfl⟩ ⟨rfl, rfl, rfl, rfl, rfl, trivial⟩ rfl (fun z hI => ?_)
  obtain ⟨i, j⟩ := z
  dsimp only at hI ⊢
  obtain ⟨hi1, hij, hj1, hi, hj⟩ := hI
  refine CX.seq ?_
  refine CX.seq ?_
  refine CX.region ?_
  refine RX.cons rfl rfl (op_w (yw_move rfl rfl) rfl rfl ?_)
  refine RX.cons rfl rfl (op_w (yw_move rfl rfl) rfl rfl ?_)
  refine RX.cons rfl rfl (op_w (yw_lss rfl rfl rfl) rfl rfl ?_)
  refine RX.nil (XX.next (V' := [(0, _), (1, _), (4, _), (10, _), (11, _), (33, _)]) ⟨rfl, rfl, rfl, rfl, rfl, rfl, trivial⟩ ?_)
  refine CX.condD (p := ((i : Nat) : Int) < ((j : Nat) : Int)) rfl (fun c33 => ?_) (fun c33 => ?_)
  ·obtain ⟨y, hy⟩ := get_some (l := p ++ [x] ++ V ++ r) (k := (i + j) / 2) (by simp; omega)
   refine CX.skip (XX.next (V' := [(0, _), (1, _), (4, _), (10, _), (11, _)]) ⟨rfl, rfl, rfl, rfl, rfl, trivial⟩ ?_)
   refine CX.block ?_
   refine CX.seq ?_
   refine CX.region ?_
   refine RX.cons rfl rfl (op_w (yw_move rfl rfl) rfl rfl ?_)
   refine RX.cons rfl rfl (op_w (yw_move rfl rfl) rfl rfl ?_)
   refine RX.cons rfl rfl (op_w (yw_add rfl rfl rfl (by omega) (by omega)) rfl rfl ?_)
   refine RX.cons rfl rfl (op_w (yw_conv rfl rfl Tryz.underlying3 Tryz.underlying92) rfl rfl ?_)
   refine RX.know (t := 37) (u := .int .u64 ((i + j : Nat) : Int)) rfl (congrArg (Value.int .u64) (wrap_u64 (by omega) (by omega) (by omega))) ?_
   refine RX.cons rfl rfl (op_w (yw_shr1 rfl rfl rfl) rfl rfl ?_)
   refine RX.know (t := 38) (u := .int .u64 (((i + j) / 2 : Nat) : Int)) rfl (congrArg (Value.int .u64) (by omega)) ?_
   refine RX.cons rfl rfl (op_w (yw_conv rfl rfl Tryz.underlying92 Tryz.underlying3) rfl rfl ?_)
   refine RX.know (t := 39) (u := .int .i64 (((i + j) / 2 : Nat) : Int)) rfl (congrArg (Value.int .i64) (wrap_i64 (by omega) (by omega) (by omega))) ?_
   refine RX.cons rfl rfl (op_w (yw_assign rfl rfl) rfl rfl ?_)
   refine RX.nil (XX.next (V' := [(0, _), (1, _), (4, _), (10, _), (11, _), (12, _)]) ⟨rfl, rfl, rfl, rfl, rfl, rfl, trivial⟩ ?_)
   refine CX.seq ?_
   refine CX.draw 11 [(0, 16, 1099511627776), (0, 1, 2199023255552), (0, 4096, 4398046511104), (6, 6597069766656, 8796093022208), (8, 8796093022208, 17592186044416), (0, 1, 35184372088832), (0, 2, 70368744177664), (96, 105553116266496, 140737488355328), (128, 140737488355328, 281474976710656), (273, 300166674382848, 562949953421312), (512, 562949953421312, 1125899906842624)] (by kernel_rfl) (by kernel_rfl) (by kernel_rfl) ?_
   refine DX.takeW 0 1 (by kernel_rfl) rfl rfl rfl rfl rfl (yw_move rfl rfl) ?_
   refine DX.takeW 1 3 (by kernel_rfl) rfl rfl rfl rfl rfl (yw_move rfl rfl) ?_
   refine DX.takeW 2 7 (by kernel_rfl) rfl rfl rfl rfl rfl (yw_move rfl rfl) ?_
   refine DX.takeW 3 15 (by kernel_rfl) rfl rfl rfl rfl rfl (yw_index (k := ((i + j) / 2)) rfl slt_63 rfl rfl (by omega) (by omega) (hA (by omega))) ?_
   refine DX.take 4 31 (by kernel_rfl) rfl rfl rfl rfl rfl (List.Sublist.refl _) (y_rowElem (i := 0) rfl rfl agg_100 rfl (map_get hy)) ?_
   refine DX.takeW 5 63 (by kernel_rfl) rfl rfl rfl rfl rfl (yw_move rfl rfl) ?_
   refine DX.takeW 6 127 (by kernel_rfl) rfl rfl rfl rfl rfl (yw_move rfl rfl) ?_
   refine DX.takeW 7 255 (by kernel_rfl) rfl rfl rfl rfl rfl (yw_index (k := a) rfl slt_63 rfl rfl (by omega) (by omega) (hA (by omega))) ?_
   refine DX.take 8 511 (by kernel_rfl) rfl rfl rfl rfl rfl (List.Sublist.refl _) (y_rowElem (i := 0) rfl rfl agg_100 rfl (get_at (x := x) p (V ++ r) (by simp) (by first | omega | (simp; omega)))) ?_
   refine DX.step 9 1023 (by kernel_rfl) rfl rfl rfl (op_callV (v := .int .i64 (cmpF y x)) rfl rfl rfl rfl rfl ent_46 (fun w _ => w_cmp y x) (DXs.mk (List.Sublist.refl _) ?_))
   refine DX.takeW 10 2047 (by kernel_rfl) rfl rfl rfl rfl rfl (yw_lss rfl rfl rfl) ?_
   refine DX.done (by kernel_rfl) (XX.next (V' := [(0, _), (1, _), (4, _), (10, _), (11, _), (12, _), (50, _)]) ⟨rfl, rfl, rfl, rfl, rfl, rfl, rfl, trivial⟩ ?_)
   refine CX.condD (p := cmpF y x < 0) rfl (fun c50 => ?_) (fun c50 => ?_)
   ·refine CX.region ?_
    refine RX.cons rfl rfl (op_w (yw_move rfl rfl) rfl rfl ?_)
    refine RX.cons rfl rfl (op_w (yw_add rfl rfl rfl (by omega) (by omega)) rfl rfl ?_)
    refine RX.know (t := 52) (u := .int .i64 (((i + j) / 2 + 1 : Nat) : Int)) rfl (congrArg (Value.int .i64) (by omega)) ?_
    refine RX.cons rfl rfl (op_w (yw_assign rfl rfl) rfl rfl ?_)
    refine RX.nil (XX.inBlock (V' := [(0, _), (1, _), (4, _), (10, _), (11, _)]) ⟨rfl, rfl, rfl, rfl, rfl, trivial⟩ ?_)
    refine XX.againP ([]) ((i + j) / 2 + 1, j) (by dsimp only; omega) ⟨by dsimp only; omega, by dsimp only; omega, hj1, .inr ⟨y, hy, (cmpF_neg y x).1 c50⟩, hj⟩ ⟨rfl, rfl, rfl, rfl, rfl, trivial⟩ ((perm_pick 0 rfl).trans (List.Perm.cons _ (List.Perm.refl _)))
   ·refine CX.region ?_
    refine RX.cons rfl rfl (op_w (yw_move rfl rfl) rfl rfl ?_)
    refine RX.cons rfl rfl (op_w (yw_assign rfl rfl) rfl rfl ?_)
    refine RX.nil (XX.inBlock (V' := [(0, _), (1, _), (4, _), (10, _), (11, _)]) ⟨rfl, rfl, rfl, rfl, rfl, trivial⟩ ?_)
    refine XX.againP ([]) (i, (i + j) / 2) (by dsimp only; omega) ⟨hi1, by dsimp only; omega, by dsimp only; omega, hi, .inr ⟨y, hy, cmpF_nneg c50⟩⟩ ⟨rfl, rfl, rfl, rfl, rfl, trivial⟩ ((perm_pick 0 rfl).trans (List.Perm.cons _ (List.Perm.refl _)))
  ·obtain rfl : i = j := by omega
   obtain ⟨B1, B2, rfl, hB, hsort⟩ := Srt.search_first (p := p) (x := x) (i := i) (r := r) before_swo hV (by omega) (by omega) (by rw [hm]; exact hi) (by rw [hb]; exact hj)
   simp only [List.length_append] at hb hlen
   refine CX.exit ?_
   refine XX.then_exit ?_
   refine XX.then_exit ?_
   refine XX.block_exit ?_
   refine XX.next (V' := [(0, _), (1, _), (10, _)]) ⟨rfl, rfl, rfl, trivial⟩ ?_
   refine CX.seq ?_
   refine CX.seq ?_
   refine CX.region ?_
   refine RX.cons rfl rfl (op_w (yw_move rfl rfl) rfl rfl ?_)
   refine RX.cons rfl rfl (op_w (yw_assign rfl rfl) rfl rfl ?_)
   refine RX.nil (XX.next (V' := [(0, _), (10, _), (13, _)]) ⟨rfl, rfl, rfl, trivial⟩ ?_)
   refine CX.block ?_
   refine CX.loop (σ := Nat × List Fct × List Fct) (fun z => [(0, .slice A len cap), (10, .int .i64 ((i : Nat) : Int)), (13, .int .i64 ((z.1 : Nat) : Int))]) (fun z => [PRow A cap (p ++ z.2.1 ++ x :: z.2.2 ++ B2 ++ r)]) (fun z => p.length + z.2.1.length = z.1 ∧ z.2.1 ++ z.2.2 = B1) (fun z => z.2.2.length) (a, [], B1) ⟨ha, rfl⟩ ⟨rfl, rfl, rfl, trivial⟩ (by simp) (fun z hI => ?_)
   obtain ⟨k, D1, D2⟩ := z
   dsimp only at hI ⊢
   obtain ⟨hk, hD⟩ := hI
   subst hD
   simp only [List.length_append] at hB hb hlen
   refine CX.seq ?_
   refine CX.seq ?_
   refine CX.region ?_
   refine RX.cons rfl rfl (op_w (yw_move rfl rfl) rfl rfl ?_)
   refine RX.cons rfl rfl (op_w (yw_move rfl rfl) rfl rfl ?_)
   refine RX.cons rfl rfl (op_w (yw_sub rfl rfl rfl (by omega) (by omega)) rfl rfl ?_)
   refine RX.know (t := 57) (u := .int .i64 ((i - 1 : Nat) : Int)) rfl (congrArg (Value.int .i64) (by omega)) ?_
   refine RX.cons rfl rfl (op_w (yw_lss rfl rfl rfl) rfl rfl ?_)
   refine RX.nil (XX.next (V' := [(0, _), (10, _), (13, _), (58, _)]) ⟨rfl, rfl, rfl, rfl, trivial⟩ ?_)
   refine CX.condD (p := ((k : Nat) : Int) < ((i - 1 : Nat) : Int)) rfl (fun c58 => ?_) (fun c58 => ?_)
   ·obtain ⟨y, D2, rfl⟩ := exists_cons (l := D2) (by omega)
    simp only [List.length_cons] at hB hb hlen
    refine CX.skip (XX.next (V' := [(0, _), (10, _), (13, _)]) ⟨rfl, rfl, rfl, trivial⟩ ?_)
    refine CX.seq ?_
    refine CX.block ?_
    refine CX.draw 15 [(0, 1, 2305843009213693952), (0, 8192, 4611686018427387904), (0, 1, 9223372036854775808), (0, 8192, 18446744073709551616), (8, 18446744073709551616, 36893488147419103232), (0, 1, 73786976294838206464), (0, 8192, 147573952589676412928), (64, 147573952589676412928, 295147905179352825856), (160, 368934881474191032320, 590295810358705651712), (256, 590295810358705651712, 1180591620717411303424), (0, 1, 2361183241434822606848), (0, 8192, 4722366482869645213696), (3072, 7083549724304467820544, 9444732965739290427392), (4096, 9444732965739290427392, 18889465931478580854784), (9187, 6917529027641081856, 37778931862957161709568), (25571, 38959523483674573012992, 0), (65535, 46116860184273879040, 75557863725914323419136), (131071, 94447329657392904273920, 0)] (by kernel_rfl) (by kernel_rfl) (by kernel_rfl) ?_
    refine DX.takeW 0 1 (by kernel_rfl) rfl rfl rfl rfl rfl (yw_move rfl rfl) ?_
    refine DX.takeW 1 3 (by kernel_rfl) rfl rfl rfl rfl rfl (yw_move rfl rfl) ?_
    refine DX.takeW 2 7 (by kernel_rfl) rfl rfl rfl rfl rfl (yw_move rfl rfl) ?_
    refine DX.takeW 3 15 (by kernel_rfl) rfl rfl rfl rfl rfl (yw_move rfl rfl) ?_
    refine DX.takeW 4 31 (by kernel_rfl) rfl rfl rfl rfl rfl (yw_add rfl rfl rfl (by omega) (by omega)) ?_
    refine DX.know (t := 65) (u := .int .i64 ((k + 1 : Nat) : Int)) rfl (congrArg (Value.int .i64) (by omega)) ?_
    refine DX.takeW 5 63 (by kernel_rfl) rfl rfl rfl rfl rfl (yw_move rfl rfl) ?_
    refine DX.takeW 6 127 (by kernel_rfl) rfl rfl rfl rfl rfl (yw_move rfl rfl) ?_
    refine DX.takeW 7 255 (by kernel_rfl) rfl rfl rfl rfl rfl (yw_add rfl rfl rfl (by omega) (by omega)) ?_
    refine DX.know (t := 68) (u := .int .i64 ((k + 1 : Nat) : Int)) rfl (congrArg (Value.int .i64) (by omega)) ?_
    refine DX.takeW 8 511 (by kernel_rfl) rfl rfl rfl rfl rfl (yw_index (k := (k + 1)) rfl slt_63 rfl rfl (by omega) (by omega) (hA (by omega))) ?_
    refine DX.take 9 1023 (by kernel_rfl) rfl rfl rfl rfl rfl (List.Sublist.refl _) (y_rowElem (i := 0) rfl rfl agg_100 rfl (get_at (x := y) (p ++ D1 ++ [x]) (D2 ++ B2 ++ r) (by simp) (by first | omega | (simp; omega)))) ?_
    refine DX.takeW 10 2047 (by kernel_rfl) rfl rfl rfl rfl rfl (yw_move rfl rfl) ?_
    refine DX.takeW 11 4095 (by kernel_rfl) rfl rfl rfl rfl rfl (yw_move rfl rfl) ?_
    refine DX.takeW 12 8191 (by kernel_rfl) rfl rfl rfl rfl rfl (yw_index (k := k) rfl slt_63 rfl rfl (by omega) (by omega) (hA (by omega))) ?_
    refine DX.take 13 16383 (by kernel_rfl) rfl rfl rfl rfl rfl (List.Sublist.refl _) (y_rowElem (i := 0) rfl rfl agg_100 rfl (get_at (x := x) (p ++ D1) (y :: D2 ++ B2 ++ r) (by simp) (by first | omega | (simp; omega)))) ?_
    refine DX.takeW 14 32767 (by kernel_rfl) rfl rfl rfl rfl rfl (yw_index (k := k) rfl slt_63 rfl rfl (by omega) (by omega) (hA (by omega))) ?_
    refine DX.stepT 15 65535 (by kernel_rfl) rfl rfl rfl rfl (op_storeElemE (i := 0) (k := k) (ys := List.map Fct.cells (p ++ D1 ++ y :: y :: D2 ++ B2 ++ r)) rfl rfl rfl rfl szt_100 rfl (plain_of rfl) rfl (by simp; omega) (set_at (x := x) (v := y) (p ++ D1) (y :: D2 ++ B2 ++ r) (by simp) (by first | omega | (simp; omega)) (by simp)) ?_)
    refine DX.takeW 16 131071 (by kernel_rfl) rfl rfl rfl rfl rfl (yw_index (k := (k + 1)) rfl slt_63 rfl rfl (by omega) (by omega) (hA (by omega))) ?_
    refine DX.stepT 17 262143 (by kernel_rfl) rfl rfl rfl rfl (op_storeElemE (i := 0) (k := (k + 1)) (ys := List.map Fct.cells (p ++ D1 ++ y :: x :: D2 ++ B2 ++ r)) rfl rfl rfl rfl szt_100 rfl (plain_of rfl) rfl (by simp; omega) (set_at (x := y) (v := x) (p ++ D1 ++ [y]) (D2 ++ B2 ++ r) (by simp) (by first | omega | (simp; omega)) (by simp)) ?_)
    refine DX.done (by kernel_rfl) (XX.inBlock (V' := [(0, _), (10, _), (13, _)]) ⟨rfl, rfl, rfl, trivial⟩ ?_)
    refine XX.next (V' := [(0, _), (10, _), (13, _)]) ⟨rfl, rfl, rfl, trivial⟩ ?_
    refine CX.region ?_
    refine RX.cons rfl rfl (op_w (yw_move rfl rfl) rfl rfl ?_)
    refine RX.cons rfl rfl (op_w (yw_add rfl rfl rfl (by omega) (by omega)) rfl rfl ?_)
    refine RX.know (t := 60) (u := .int .i64 ((k + 1 : Nat) : Int)) rfl (congrArg (Value.int .i64) (by omega)) ?_
    refine RX.cons rfl rfl (op_w (yw_assign rfl rfl) rfl rfl ?_)
    refine RX.nil (XX.againP ([]) (k + 1, D1 ++ [y], D2) (by simp) ⟨by simp; omega, by simp⟩ ⟨rfl, rfl, rfl, trivial⟩ (by simpa using List.Perm.refl _))
   ·obtain rfl : D2 = [] := List.length_eq_zero_iff.1 (by omega)
    simp only [List.append_nil] at hsort
    refine CX.exit ?_
    refine XX.then_exit ?_
    refine XX.then_exit ?_
    refine XX.block_exit ?_
    refine XX.next (V' := []) trivial ?_
    refine CX.ret ?_
    refine XX.then_ret ?_
    exact ret_none rfl fun w1 hw => ⟨rfl, prow_eq (by simp only [List.append_nil, List.nil_append]; rw [hsort]; simp) hw⟩
 ·refine CX.skip (XX.next (V' := [(0, _), (1, _), (2, _), (3, _), (4, _)]) ⟨rfl, rfl, rfl, rfl, rfl, trivial⟩ ?_)
  refine CX.seq ?_
  refine CX.seq ?_
  refine CX.region ?_
  refine RX.cons rfl rfl (op_w (yw_move rfl rfl) rfl rfl ?_)
  refine RX.cons rfl rfl (op_w (yw_move rfl rfl) rfl rfl ?_)
  refine RX.cons rfl rfl (op_w (yw_sub rfl rfl rfl (by omega) (by omega)) rfl rfl ?_)
  refine RX.cons rfl rfl (op_w (yw_eql rfl rfl rfl) rfl rfl ?_)
  refine RX.nil (XX.next (V' := [(0, _), (1, _), (2, _), (3, _), (4, _), (80, _)]) ⟨rfl, rfl, rfl, rfl, rfl, rfl, trivial⟩ ?_)
  refine CX.condD (p := ((b : Nat) : Int) - ((m : Nat) : Int) = 1) rfl (fun c80 => ?_) (fun c80 => ?_)
  ·obtain ⟨y, rfl⟩ := one_of (l := V) (by omega)
   simp only [List.length_cons, List.length_nil, Nat.zero_add] at hm hb hlen hN
   refine CX.seq ?_
   refine CX.region ?_
   refine RX.cons rfl rfl (op_w (yw_move rfl rfl) rfl rfl ?_)
   refine RX.cons rfl rfl (op_w (yw_assign rfl rfl) rfl rfl ?_)
   refine RX.nil (XX.next (V' := [(0, _), (2, _), (4, _), (14, _)]) ⟨rfl, rfl, rfl, rfl, trivial⟩ ?_)
   refine CX.seq ?_
   refine CX.region ?_
   refine RX.cons rfl rfl (op_w (yw_move rfl rfl) rfl rfl ?_)
   refine RX.cons rfl rfl (op_w (yw_assign rfl rfl) rfl rfl ?_)
   refine RX.nil (XX.next (V' := [(0, _), (2, _), (4, _), (14, _), (15, _)]) ⟨rfl, rfl, rfl, rfl, rfl, trivial⟩ ?_)
   refine CX.seq ?_
   refine CX.block ?_
   refine CX.loop (σ := Nat × Nat) (fun z => [(0, .slice A len cap), (2, .int .i64 ((m : Nat) : Int)), (4, .func (.func 46) #[] #[]), (14, .int .i64 ((z.1 : Nat) : Int)), (15, .int .i64 ((z.2 : Nat) : Int))]) (fun z => [PRow A cap (p ++ U ++ [y] ++ r)]) (fun z => a ≤ z.1 ∧ z.1 ≤ z.2 ∧ z.2 ≤ m ∧ (z.1 = a ∨ ∃ c, (p ++ U ++ [y] ++ r)[z.1 - 1]? = some c ∧ before y c = false) ∧ (z.2 = m ∨ ∃ c, (p ++ U ++ [y] ++ r)[z.2]? = some c ∧ before y c = true)) (fun z => z.2 - z.1) (a, m) ⟨Nat.le_refl _, by dsimp only; omega, Nat.le_refl _, .inl rfl, .inl rfl⟩ ⟨rfl, rfl, rfl, rfl, rfl, trivial⟩ rfl (fun z hI => ?_)
   obtain ⟨i, j⟩ := z
   dsimp only at hI ⊢
   obtain ⟨hi1, hij, hj1, hi, hj⟩ := hI
   refine CX.seq ?_
   refine CX.seq ?_
   refine CX.region ?_
   refine RX.cons rfl rfl (op_w (yw_move rfl rfl) rfl rfl ?_)
   refine RX.cons rfl rfl (op_w (yw_move rfl rfl) rfl rfl ?_)
   refine RX.cons rfl rfl (op_w (yw_lss rfl rfl rfl) rfl rfl ?_)
   refine RX.nil (XX.next (V' := [(0, _), (2, _), (4, _), (14, _), (15, _), (85, _)]) ⟨rfl, rfl, rfl, rfl, rfl, rfl, trivial⟩ ?_)
   refine CX.condD (p := ((i : Nat) : Int) < ((j : Nat) : Int)) rfl (fun c85 => ?_) (fun c85 => ?_)
   ·obtain ⟨x, hx⟩ := get_some (l := p ++ U ++ [y] ++ r) (k := (i + j) / 2) (by simp; omega)
    refine CX.skip (XX.next (V' := [(0, _), (2, _), (4, _), (14, _), (15, _)]) ⟨rfl, rfl, rfl, rfl, rfl, trivial⟩ ?_)
    refine CX.block ?_
    refine CX.seq ?_
    refine CX.region ?_
    refine RX.cons rfl rfl (op_w (yw_move rfl rfl) rfl rfl ?_)
    refine RX.cons rfl rfl (op_w (yw_move rfl rfl) rfl rfl ?_)
    refine RX.cons rfl rfl (op_w (yw_add rfl rfl rfl (by omega) (by omega)) rfl rfl ?_)
    refine RX.cons rfl rfl (op_w (yw_conv rfl rfl Tryz.underlying3 Tryz.underlying92) rfl rfl ?_)
    refine RX.know (t := 89) (u := .int .u64 ((i + j : Nat) : Int)) rfl (congrArg (Value.int .u64) (wrap_u64 (by omega) (by omega) (by omega))) ?_
    refine RX.cons rfl rfl (op_w (yw_shr1 rfl rfl rfl) rfl rfl ?_)
    refine RX.know (t := 90) (u := .int .u64 (((i + j) / 2 : Nat) : Int)) rfl (congrArg (Value.int .u64) (by omega)) ?_
    refine RX.cons rfl rfl (op_w (yw_conv rfl rfl Tryz.underlying92 Tryz.underlying3) rfl rfl ?_)
    refine RX.know (t := 91) (u := .int .i64 (((i + j) / 2 : Nat) : Int)) rfl (congrArg (Value.int .i64) (wrap_i64 (by omega) (by omega) (by omega))) ?_
    refine RX.cons rfl rfl (op_w (yw_assign rfl rfl) rfl rfl ?_)
    refine RX.nil (XX.next (V' := [(0, _), (2, _), (4, _), (14, _), (15, _), (16, _)]) ⟨rfl, rfl, rfl, rfl, rfl, rfl, trivial⟩ ?_)
    refine CX.seq ?_
    refine CX.draw 12 [(0, 16, 4951760157141521099596496896), (0, 1, 9903520314283042199192993792), (0, 4, 19807040628566084398385987584), (6, 29710560942849126597578981376, 39614081257132168796771975168), (8, 39614081257132168796771975168, 79228162514264337593543950336), (0, 1, 158456325028528675187087900672), (0, 65536, 316912650057057350374175801344), (96, 475368975085586025561263702016, 633825300114114700748351602688), (128, 633825300114114700748351602688, 1267650600228229401496703205376), (273, 1351830522899635260189843652608, 2535301200456458802993406410752), (512, 2535301200456458802993406410752, 5070602400912917605986812821504), (1024, 5070602400912917605986812821504, 10141204801825835211973625643008)] (by kernel_rfl) (by kernel_rfl) (by kernel_rfl) ?_
    refine DX.takeW 0 1 (by kernel_rfl) rfl rfl rfl rfl rfl (yw_move rfl rfl) ?_
    refine DX.takeW 1 3 (by kernel_rfl) rfl rfl rfl rfl rfl (yw_move rfl rfl) ?_
    refine DX.takeW 2 7 (by kernel_rfl) rfl rfl rfl rfl rfl (yw_move rfl rfl) ?_
    refine DX.takeW 3 15 (by kernel_rfl) rfl rfl rfl rfl rfl (yw_index (k := m) rfl slt_63 rfl rfl (by omega) (by omega) (hA (by omega))) ?_
    refine DX.take 4 31 (by kernel_rfl) rfl rfl rfl rfl rfl (List.Sublist.refl _) (y_rowElem (i := 0) rfl rfl agg_100 rfl (get_at (x := y) (p ++ U) r (by simp) (by first | omega | (simp; omega)))) ?_
    refine DX.takeW 5 63 (by kernel_rfl) rfl rfl rfl rfl rfl (yw_move rfl rfl) ?_
    refine DX.takeW 6 127 (by kernel_rfl) rfl rfl rfl rfl rfl (yw_move rfl rfl) ?_
    refine DX.takeW 7 255 (by kernel_rfl) rfl rfl rfl rfl rfl (yw_index (k := ((i + j) / 2)) rfl slt_63 rfl rfl (by omega) (by omega) (hA (by omega))) ?_
    refine DX.take 8 511 (by kernel_rfl) rfl rfl rfl rfl rfl (List.Sublist.refl _) (y_rowElem (i := 0) rfl rfl agg_100 rfl (map_get hx)) ?_
    refine DX.step 9 1023 (by kernel_rfl) rfl rfl rfl (op_callV (v := .int .i64 (cmpF y x)) rfl rfl rfl rfl rfl ent_46 (fun w _ => w_cmp y x) (DXs.mk (List.Sublist.refl _) ?_))
    refine DX.takeW 10 2047 (by kernel_rfl) rfl rfl rfl rfl rfl (yw_lss rfl rfl rfl) ?_
    refine DX.takeW 11 4095 (by kernel_rfl) rfl rfl rfl rfl rfl (yw_notD rfl rfl) ?_
    refine DX.done (by kernel_rfl) (XX.next (V' := [(0, _), (2, _), (4, _), (14, _), (15, _), (16, _), (103, _)]) ⟨rfl, rfl, rfl, rfl, rfl, rfl, rfl, trivial⟩ ?_)
    refine CX.condD (p := ¬ (cmpF y x < 0)) rfl (fun c103 => ?_) (fun c103 => ?_)
    ·refine CX.region ?_
     refine RX.cons rfl rfl (op_w (yw_move rfl rfl) rfl rfl ?_)
     refine RX.cons rfl rfl (op_w (yw_add rfl rfl rfl (by omega) (by omega)) rfl rfl ?_)
     refine RX.know (t := 105) (u := .int .i64 (((i + j) / 2 + 1 : Nat) : Int)) rfl (congrArg (Value.int .i64) (by omega)) ?_
     refine RX.cons rfl rfl (op_w (yw_assign rfl rfl) rfl rfl ?_)
     refine RX.nil (XX.inBlock (V' := [(0, _), (2, _), (4, _), (14, _), (15, _)]) ⟨rfl, rfl, rfl, rfl, rfl, trivial⟩ ?_)
     refine XX.againP ([]) ((i + j) / 2 + 1, j) (by dsimp only; omega) ⟨by dsimp only; omega, by dsimp only; omega, hj1, .inr ⟨x, hx, cmpF_nneg c103⟩, hj⟩ ⟨rfl, rfl, rfl, rfl, rfl, trivial⟩ ((perm_pick 0 rfl).trans (List.Perm.cons _ (List.Perm.refl _)))
    ·refine CX.region ?_
     refine RX.cons rfl rfl (op_w (yw_move rfl rfl) rfl rfl ?_)
     refine RX.cons rfl rfl (op_w (yw_assign rfl rfl) rfl rfl ?_)
     refine RX.nil (XX.inBlock (V' := [(0, _), (2, _), (4, _), (14, _), (15, _)]) ⟨rfl, rfl, rfl, rfl, rfl, trivial⟩ ?_)
     refine XX.againP ([]) (i, (i + j) / 2) (by dsimp only; omega) ⟨hi1, by dsimp only; omega, by dsimp only; omega, hi, .inr ⟨x, hx, (cmpF_neg y x).1 (by omega)⟩⟩ ⟨rfl, rfl, rfl, rfl, rfl, trivial⟩ ((perm_pick 0 rfl).trans (List.Perm.cons _ (List.Perm.refl _)))
   ·obtain rfl : i = j := by omega
    obtain ⟨A1, A2, rfl, hA1, hsort⟩ := Srt.search_last (p := p) (y := y) (i := i) (r := r) before_swo hU (by omega) (by omega) (by rw [ha]; exact hi) (by rw [hm]; exact hj)
    simp only [List.length_append] at hm hb hlen
    refine CX.exit ?_
    refine XX.then_exit ?_
    refine XX.then_exit ?_
    refine XX.block_exit ?_
    refine XX.next (V' := [(0, _), (2, _), (14, _)]) ⟨rfl, rfl, rfl, trivial⟩ ?_
    refine CX.seq ?_
    refine CX.seq ?_
    refine CX.region ?_
    refine RX.cons rfl rfl (op_w (yw_move rfl rfl) rfl rfl ?_)
    refine RX.cons rfl rfl (op_w (yw_assign rfl rfl) rfl rfl ?_)
    refine RX.nil (XX.next (V' := [(0, _), (14, _), (17, _)]) ⟨rfl, rfl, rfl, trivial⟩ ?_)
    refine CX.block ?_
    refine CX.loop (σ := Nat × List Fct × List Fct) (fun z => [(0, .slice A len cap), (14, .int .i64 ((i : Nat) : Int)), (17, .int .i64 ((z.1 : Nat) : Int))]) (fun z => [PRow A cap (p ++ A1 ++ z.2.1 ++ y :: z.2.2 ++ r)]) (fun z => p.length + A1.length + z.2.1.length = z.1 ∧ z.2.1 ++ z.2.2 = A2) (fun z => z.2.1.length) (m, A2, []) ⟨by dsimp only; omega, by simp⟩ ⟨rfl, rfl, rfl, trivial⟩ (by simp) (fun z hI => ?_)
    obtain ⟨k, D1, D2⟩ := z
    dsimp only at hI ⊢
    obtain ⟨hk, hD⟩ := hI
    subst hD
    simp only [List.length_append] at hm hb hlen
    refine CX.seq ?_
    refine CX.seq ?_
    refine CX.region ?_
    refine RX.cons rfl rfl (op_w (yw_move rfl rfl) rfl rfl ?_)
    refine RX.cons rfl rfl (op_w (yw_move rfl rfl) rfl rfl ?_)
    refine RX.cons rfl rfl (op_w (yw_gtr rfl rfl rfl) rfl rfl ?_)
    refine RX.nil (XX.next (V' := [(0, _), (14, _), (17, _), (110, _)]) ⟨rfl, rfl, rfl, rfl, trivial⟩ ?_)
    refine CX.condD (p := ((i : Nat) : Int) < ((k : Nat) : Int)) rfl (fun c110 => ?_) (fun c110 => ?_)
    ·obtain ⟨D1, x, rfl⟩ := exists_snoc (l := D1) (by omega)
     simp only [List.length_append, List.length_cons, List.length_nil] at hk hm hb hlen
     refine CX.skip (XX.next (V' := [(0, _), (14, _), (17, _)]) ⟨rfl, rfl, rfl, trivial⟩ ?_)
     refine CX.seq ?_
     refine CX.block ?_
     refine CX.draw 15 [(0, 1, 10384593717069655257060992658440192), (0, 131072, 20769187434139310514121985316880384), (0, 1, 41538374868278621028243970633760768), (0, 131072, 83076749736557242056487941267521536), (8, 83076749736557242056487941267521536, 166153499473114484112975882535043072), (0, 1, 332306998946228968225951765070086144), (0, 131072, 664613997892457936451903530140172288), (64, 664613997892457936451903530140172288, 1329227995784915872903807060280344576), (160, 1661534994731144841129758825350430720, 2658455991569831745807614120560689152), (256, 2658455991569831745807614120560689152, 5316911983139663491615228241121378304), (0, 1, 10633823966279326983230456482242756608), (0, 131072, 21267647932558653966460912964485513216), (3072, 31901471898837980949691369446728269824, 42535295865117307932921825928971026432), (4096, 42535295865117307932921825928971026432, 85070591730234615865843651857942052864), (9187, 31153781151208965771182977975320576, 170141183460469231731687303715884105728), (25571, 175458095443608895223302531957005484032, 0), (65535, 207691874341393105141219853168803840, 340282366920938463463374607431768211456), (131071, 425352958651173079329218259289710264320, 0)] (by kernel_rfl) (by kernel_rfl) (by kernel_rfl) ?_
     refine DX.takeW 0 1 (by kernel_rfl) rfl rfl rfl rfl rfl (yw_move rfl rfl) ?_
     refine DX.takeW 1 3 (by kernel_rfl) rfl rfl rfl rfl rfl (yw_move rfl rfl) ?_
     refine DX.takeW 2 7 (by kernel_rfl) rfl rfl rfl rfl rfl (yw_move rfl rfl) ?_
     refine DX.takeW 3 15 (by kernel_rfl) rfl rfl rfl rfl rfl (yw_move rfl rfl) ?_
     refine DX.takeW 4 31 (by kernel_rfl) rfl rfl rfl rfl rfl (yw_sub rfl rfl rfl (by omega) (by omega)) ?_
     refine DX.know (t := 117) (u := .int .i64 ((k - 1 : Nat) : Int)) rfl (congrArg (Value.int .i64) (by omega)) ?_
     refine DX.takeW 5 63 (by kernel_rfl) rfl rfl rfl rfl rfl (yw_move rfl rfl) ?_
     refine DX.takeW 6 127 (by kernel_rfl) rfl rfl rfl rfl rfl (yw_move rfl rfl) ?_
     refine DX.takeW 7 255 (by kernel_rfl) rfl rfl rfl rfl rfl (yw_sub rfl rfl rfl (by omega) (by omega)) ?_
     refine DX.know (t := 120) (u := .int .i64 ((k - 1 : Nat) : Int)) rfl (congrArg (Value.int .i64) (by omega)) ?_
     refine DX.takeW 8 511 (by kernel_rfl) rfl rfl rfl rfl rfl (yw_index (k := (k - 1)) rfl slt_63 rfl rfl (by omega) (by omega) (hA (by omega))) ?_
     refine DX.take 9 1023 (by kernel_rfl) rfl rfl rfl rfl rfl (List.Sublist.refl _) (y_rowElem (i := 0) rfl rfl agg_100 rfl (get_at (x := x) (p ++ A1 ++ D1) (y :: D2 ++ r) (by simp) (by first | omega | (simp; omega)))) ?_
     refine DX.takeW 10 2047 (by kernel_rfl) rfl rfl rfl rfl rfl (yw_move rfl rfl) ?_
     refine DX.takeW 11 4095 (by kernel_rfl) rfl rfl rfl rfl rfl (yw_move rfl rfl) ?_
     refine DX.takeW 12 8191 (by kernel_rfl) rfl rfl rfl rfl rfl (yw_index (k := k) rfl slt_63 rfl rfl (by omega) (by omega) (hA (by omega))) ?_
     refine DX.take 13 16383 (by kernel_rfl) rfl rfl rfl rfl rfl (List.Sublist.refl _) (y_rowElem (i := 0) rfl rfl agg_100 rfl (get_at (x := y) (p ++ A1 ++ (D1 ++ [x])) (D2 ++ r) (by simp) (by first | omega | (simp; omega)))) ?_
     refine DX.takeW 14 32767 (by kernel_rfl) rfl rfl rfl rfl rfl (yw_index (k := k) rfl slt_63 rfl rfl (by omega) (by omega) (hA (by omega))) ?_
     refine DX.stepT 15 65535 (by kernel_rfl) rfl rfl rfl rfl (op_storeElemE (i := 0) (k := k) (ys := List.map Fct.cells (p ++ A1 ++ (D1 ++ [x]) ++ x :: D2 ++ r)) rfl rfl rfl rfl szt_100 rfl (plain_of rfl) rfl (by simp; omega) (set_at (x := y) (v := x) (p ++ A1 ++ (D1 ++ [x])) (D2 ++ r) (by simp) (by first | omega | (simp; omega)) (by simp)) ?_)
     refine DX.takeW 16 131071 (by kernel_rfl) rfl rfl rfl rfl rfl (yw_index (k := (k - 1)) rfl slt_63 rfl rfl (by omega) (by omega) (hA (by omega))) ?_
     refine DX.stepT 17 262143 (by kernel_rfl) rfl rfl rfl rfl (op_storeElemE (i := 0) (k := (k - 1)) (ys := List.map Fct.cells (p ++ A1 ++ (D1 ++ [y]) ++ x :: D2 ++ r)) rfl rfl rfl rfl szt_100 rfl (plain_of rfl) rfl (by simp; omega) (set_at (x := x) (v := y) (p ++ A1 ++ D1) (x :: D2 ++ r) (by simp) (by first | omega | (simp; omega)) (by simp)) ?_)
     refine DX.done (by kernel_rfl) (XX.inBlock (V' := [(0, _), (14, _), (17, _)]) ⟨rfl, rfl, rfl, trivial⟩ ?_)
     refine XX.next (V' := [(0, _), (14, _), (17, _)]) ⟨rfl, rfl, rfl, trivial⟩ ?_
     refine CX.region ?_
     refine RX.cons rfl rfl (op_w (yw_move rfl rfl) rfl rfl ?_)
     refine RX.cons rfl rfl (op_w (yw_sub rfl rfl rfl (by omega) (by omega)) rfl rfl ?_)
     refine RX.know (t := 112) (u := .int .i64 ((k - 1 : Nat) : Int)) rfl (congrArg (Value.int .i64) (by omega)) ?_
     refine RX.cons rfl rfl (op_w (yw_assign rfl rfl) rfl rfl ?_)
     refine RX.nil (XX.againP ([]) (k - 1, D1, x :: D2) (by simp) ⟨by dsimp only; omega, by simp⟩ ⟨rfl, rfl, rfl, trivial⟩ (by simpa using List.Perm.refl _))
    ·obtain rfl : D1 = [] := List.length_eq_zero_iff.1 (by omega)
     simp only [List.nil_append] at hsort
     refine CX.exit ?_
     refine XX.then_exit ?_
     refine XX.then_exit ?_
     refine XX.block_exit ?_
     refine XX.next (V' := []) trivial ?_
     refine CX.ret ?_
     refine XX.then_ret ?_
     exact ret_none rfl fun w1 hw => ⟨rfl, prow_eq (by simp only [List.append_nil, List.nil_append]; rw [hsort]; simp) hw⟩
  ·refine CX.skip (XX.next (V' := [(0, _), (1, _), (2, _), (3, _), (4, _)]) ⟨rfl, rfl, rfl, rfl, rfl, trivial⟩ ?_)
   refine CX.seq ?_
   obtain ⟨mid, hmid⟩ : ∃ mid, mid = (a + b) / 2 := ⟨_, rfl⟩
   refine CX.region ?_
   refine RX.cons rfl rfl (op_w (yw_move rfl rfl) rfl rfl ?_)
   refine RX.cons rfl rfl (op_w (yw_move rfl rfl) rfl rfl ?_)
   refine RX.cons rfl rfl (op_w (yw_add rfl rfl rfl (by omega) (by omega)) rfl rfl ?_)
   refine RX.cons rfl rfl (op_w (yw_conv rfl rfl Tryz.underlying3 Tryz.underlying92) rfl rfl ?_)
   refine RX.know (t := 132) (u := .int .u64 ((a + b : Nat) : Int)) rfl (congrArg (Value.int .u64) (wrap_u64 (by omega) (by omega) (by omega))) ?_
   refine RX.cons rfl rfl (op_w (yw_shr1 rfl rfl rfl) rfl rfl ?_)
   refine RX.know (t := 133) (u := .int .u64 ((mid : Nat) : Int)) rfl (congrArg (Value.int .u64) (by omega)) ?_
   refine RX.cons rfl rfl (op_w (yw_conv rfl rfl Tryz.underlying92 Tryz.underlying3) rfl rfl ?_)
   refine RX.know (t := 134) (u := .int .i64 ((mid : Nat) : Int)) rfl (congrArg (Value.int .i64) (wrap_i64 (by omega) (by omega) (by omega))) ?_
   refine RX.cons rfl rfl (op_w (yw_assign rfl rfl) rfl rfl ?_)
   refine RX.nil (XX.next (V' := [(0, _), (1, _), (2, _), (3, _), (4, _), (18, _)]) ⟨rfl, rfl, rfl, rfl, rfl, rfl, trivial⟩ ?_)
   refine CX.seq ?_
   refine CX.region ?_
   refine RX.cons rfl rfl (op_w (yw_move rfl rfl) rfl rfl ?_)
   refine RX.cons rfl rfl (op_w (yw_move rfl rfl) rfl rfl ?_)
   refine RX.cons rfl rfl (op_w (yw_add rfl rfl rfl (by omega) (by omega)) rfl rfl ?_)
   refine RX.know (t := 137) (u := .int .i64 ((mid + m : Nat) : Int)) rfl (congrArg (Value.int .i64) (by omega)) ?_
   refine RX.cons rfl rfl (op_w (yw_assign rfl rfl) rfl rfl ?_)
   refine RX.nil (XX.next (V' := [(0, _), (1, _), (2, _), (3, _), (4, _), (18, _), (19, _)]) ⟨rfl, rfl, rfl, rfl, rfl, rfl, rfl, trivial⟩ ?_)
   refine CX.seq ?_
   refine CX.region ?_
   refine RX.cons rfl rfl (op_w (yw_assign rfl rfl) rfl rfl ?_)
   refine RX.cons rfl rfl (op_w (yw_assign rfl rfl) rfl rfl ?_)
   refine RX.nil (XX.next (V' := [(0, _), (1, _), (2, _), (3, _), (4, _), (18, _), (19, _)]) ⟨rfl, rfl, rfl, rfl, rfl, rfl, rfl, trivial⟩ ?_)
   refine CX.cut (σ := Nat × Nat) (fun z => [(0, .slice A len cap), (1, .int .i64 ((a : Nat) : Int)), (2, .int .i64 ((m : Nat) : Int)), (3, .int .i64 ((b : Nat) : Int)), (4, .func (.func 46) #[] #[]), (18, .int .i64 ((mid : Nat) : Int)), (19, .int .i64 ((mid + m : Nat) : Int)), (20, .int .i64 ((z.1 : Nat) : Int)), (21, .int .i64 ((z.2 : Nat) : Int))]) (fun z => [PRow A cap (p ++ U ++ V ++ r)]) (fun z => z.1 = (if mid < m then mid + m - b else a) ∧ z.2 = (if mid < m then mid else m)) ?_ (fun z hz => ?_)
   ·refine CX.seq ?_
    refine CX.region ?_
    refine RX.cons rfl rfl (op_w (yw_move rfl rfl) rfl rfl ?_)
    refine RX.cons rfl rfl (op_w (yw_move rfl rfl) rfl rfl ?_)
    refine RX.cons rfl rfl (op_w (yw_gtr rfl rfl rfl) rfl rfl ?_)
    refine RX.nil (XX.next (V' := [(0, _), (1, _), (2, _), (3, _), (4, _), (18, _), (19, _), (140, _)]) ⟨rfl, rfl, rfl, rfl, rfl, rfl, rfl, rfl, trivial⟩ ?_)
    refine CX.condD (p := ((mid : Nat) : Int) < ((m : Nat) : Int)) rfl (fun c140 => ?_) (fun c140 => ?_)
    ·refine CX.seq ?_
     refine CX.region ?_
     refine RX.cons rfl rfl (op_w (yw_move rfl rfl) rfl rfl ?_)
     refine RX.cons rfl rfl (op_w (yw_move rfl rfl) rfl rfl ?_)
     refine RX.cons rfl rfl (op_w (yw_sub rfl rfl rfl (by omega) (by omega)) rfl rfl ?_)
     refine RX.know (t := 143) (u := .int .i64 ((mid + m - b : Nat) : Int)) rfl (congrArg (Value.int .i64) (by omega)) ?_
     refine RX.cons rfl rfl (op_w (yw_assign rfl rfl) rfl rfl ?_)
     refine RX.nil (XX.next (V' := [(0, _), (1, _), (2, _), (3, _), (4, _), (18, _), (19, _), (20, _)]) ⟨rfl, rfl, rfl, rfl, rfl, rfl, rfl, rfl, trivial⟩ ?_)
     refine CX.region ?_
     refine RX.cons rfl rfl (op_w (yw_move rfl rfl) rfl rfl ?_)
     refine RX.cons rfl rfl (op_w (yw_assign rfl rfl) rfl rfl ?_)
     refine RX.nil (XX.meetP ([]) (mid + m - b, mid) ⟨(if_pos (by omega)).symm, (if_pos (by omega)).symm⟩ ⟨rfl, rfl, rfl, rfl, rfl, rfl, rfl, rfl, rfl, trivial⟩ ((perm_pick 0 rfl).trans (List.Perm.cons _ (List.Perm.refl _))))
    ·refine CX.seq ?_
     refine CX.region ?_
     refine RX.cons rfl rfl (op_w (yw_move rfl rfl) rfl rfl ?_)
     refine RX.cons rfl rfl (op_w (yw_assign rfl rfl) rfl rfl ?_)
     refine RX.nil (XX.next (V' := [(0, _), (1, _), (2, _), (3, _), (4, _), (18, _), (19, _), (20, _)]) ⟨rfl, rfl, rfl, rfl, rfl, rfl, rfl, rfl, trivial⟩ ?_)
     refine CX.region ?_
     refine RX.cons rfl rfl (op_w (yw_move rfl rfl) rfl rfl ?_)
     refine RX.cons rfl rfl (op_w (yw_assign rfl rfl) rfl rfl ?_)
     refine RX.nil (XX.meetP ([]) (a, m) ⟨(if_neg (by omega)).symm, (if_neg (by omega)).symm⟩ ⟨rfl, rfl, rfl, rfl, rfl, rfl, rfl, rfl, rfl, trivial⟩ ((perm_pick 0 rfl).trans (List.Perm.cons _ (List.Perm.refl _))))
   ·obtain ⟨lo, hi⟩ := z
    dsimp only at hz ⊢
    obtain ⟨hlo, hhi⟩ := hz
    have hlh : a ≤ lo ∧ lo ≤ hi ∧ hi ≤ m ∧ hi ≤ mid ∧ mid + m - b ≤ lo := by subst hlo hhi; split <;> omega
    refine CX.seq ?_
    refine CX.region ?_
    refine RX.cons rfl rfl (op_w (yw_move rfl rfl) rfl rfl ?_)
    refine RX.cons rfl rfl (op_w (yw_sub rfl rfl rfl (by omega) (by omega)) rfl rfl ?_)
    refine RX.know (t := 148) (u := .int .i64 ((mid + m - 1 : Nat) : Int)) rfl (congrArg (Value.int .i64) (by omega)) ?_
    refine RX.cons rfl rfl (op_w (yw_assign rfl rfl) rfl rfl ?_)
    refine RX.nil (XX.next (V' := [(0, _), (1, _), (2, _), (3, _), (4, _), (18, _), (19, _), (20, _), (21, _), (22, _)]) ⟨rfl, rfl, rfl, rfl, rfl, rfl, rfl, rfl, rfl, rfl, trivial⟩ ?_)
    refine CX.seq ?_
    refine CX.block ?_
    refine CX.loop (σ := Nat × Nat) (fun z => [(0, .slice A len cap), (1, .int .i64 ((a : Nat) : Int)), (2, .int .i64 ((m : Nat) : Int)), (3, .int .i64 ((b : Nat) : Int)), (4, .func (.func 46) #[] #[]), (18, .int .i64 ((mid : Nat) : Int)), (19, .int .i64 ((mid + m : Nat) : Int)), (20, .int .i64 ((z.1 : Nat) : Int)), (21, .int .i64 ((z.2 : Nat) : Int)), (22, .int .i64 ((mid + m - 1 : Nat) : Int))]) (fun z => [PRow A cap (p ++ U ++ V ++ r)]) (fun z => lo ≤ z.1 ∧ z.1 ≤ z.2 ∧ z.2 ≤ hi ∧ (z.1 = lo ∨ ∃ x y, (p ++ U ++ V ++ r)[z.1 - 1]? = some x ∧ (p ++ U ++ V ++ r)[mid + m - z.1]? = some y ∧ before y x = false) ∧ (z.2 = hi ∨ ∃ x y, (p ++ U ++ V ++ r)[z.2]? = some x ∧ (p ++ U ++ V ++ r)[mid + m - 1 - z.2]? = some y ∧ before y x = true)) (fun z => z.2 - z.1) (lo, hi) ⟨Nat.le_refl _, by dsimp only; omega, Nat.le_refl _, .inl rfl, .inl rfl⟩ ⟨rfl, rfl, rfl, rfl, rfl, rfl, rfl, rfl, rfl, rfl, trivial⟩ rfl (fun z hI => ?_)
    obtain ⟨s, e⟩ := z
    dsimp only at hI ⊢
    obtain ⟨hs1, hse, he1, hsF, heF⟩ := hI
    refine CX.seq ?_
    refine CX.seq ?_
    refine CX.region ?_
    refine RX.cons rfl rfl (op_w (yw_move rfl rfl) rfl rfl ?_)
    refine RX.cons rfl rfl (op_w (yw_move rfl rfl) rfl rfl ?_)
    refine RX.cons rfl rfl (op_w (yw_lss rfl rfl rfl) rfl rfl ?_)
    refine RX.nil (XX.next (V' := [(0, _), (1, _), (2, _), (3, _), (4, _), (18, _), (19, _), (20, _), (21, _), (22, _), (151, _)]) ⟨rfl, rfl, rfl, rfl, rfl, rfl, rfl, rfl, rfl, rfl, rfl, trivial⟩ ?_)
    refine CX.condD (p := ((s : Nat) : Int) < ((e : Nat) : Int)) rfl (fun c151 => ?_) (fun c151 => ?_)
    ·obtain ⟨x, hx⟩ := get_some (l := p ++ U ++ V ++ r) (k := (s + e) / 2) (by simp; omega)
     obtain ⟨y, hy⟩ := get_some (l := p ++ U ++ V ++ r) (k := mid + m - 1 - (s + e) / 2) (by simp; omega)
     refine CX.skip (XX.next (V' := [(0, _), (1, _), (2, _), (3, _), (4, _), (18, _), (19, _), (20, _), (21, _), (22, _)]) ⟨rfl, rfl, rfl, rfl, rfl, rfl, rfl, rfl, rfl, rfl, trivial⟩ ?_)
     refine CX.block ?_
     refine CX.seq ?_
     refine CX.region ?_
     refine RX.cons rfl rfl (op_w (yw_move rfl rfl) rfl rfl ?_)
     refine RX.cons rfl rfl (op_w (yw_move rfl rfl) rfl rfl ?_)
     refine RX.cons rfl rfl (op_w (yw_add rfl rfl rfl (by omega) (by omega)) rfl rfl ?_)
     refine RX.cons rfl rfl (op_w (yw_conv rfl rfl Tryz.underlying3 Tryz.underlying92) rfl rfl ?_)
     refine RX.know (t := 155) (u := .int .u64 ((s + e : Nat) : Int)) rfl (congrArg (Value.int .u64) (wrap_u64 (by omega) (by omega) (by omega))) ?_
     refine RX.cons rfl rfl (op_w (yw_shr1 rfl rfl rfl) rfl rfl ?_)
     refine RX.know (t := 156) (u := .int .u64 (((s + e) / 2 : Nat) : Int)) rfl (congrArg (Value.int .u64) (by omega)) ?_
     refine RX.cons rfl rfl (op_w (yw_conv rfl rfl Tryz.underlying92 Tryz.underlying3) rfl rfl ?_)
     refine RX.know (t := 157) (u := .int .i64 (((s + e) / 2 : Nat) : Int)) rfl (congrArg (Value.int .i64) (wrap_i64 (by omega) (by omega) (by omega))) ?_
     refine RX.cons rfl rfl (op_w (yw_assign rfl rfl) rfl rfl ?_)
     refine RX.nil (XX.next (V' := [(0, _), (1, _), (2, _), (3, _), (4, _), (18, _), (19, _), (20, _), (21, _), (22, _), (23, _)]) ⟨rfl, rfl, rfl, rfl, rfl, rfl, rfl, rfl, rfl, rfl, rfl, trivial⟩ ?_)
     refine CX.seq ?_
     refine CX.draw 14 [(0, 16, 365375409332725729550921208179070754913983135744), (0, 1, 730750818665451459101842416358141509827966271488), (0, 4194304, 1461501637330902918203684832716283019655932542976), (0, 8388608, 2923003274661805836407369665432566039311865085952), (12, 4384504911992708754611054498148849058967797628928, 5846006549323611672814739330865132078623730171904), (18, 6576757367989063131916581747223273588451696443392, 11692013098647223345629478661730264157247460343808), (32, 11692013098647223345629478661730264157247460343808, 23384026197294446691258957323460528314494920687616), (0, 1, 46768052394588893382517914646921056628989841375232), (0, 8388608, 93536104789177786765035829293842113257979682750464), (384, 140304157183766680147553743940763169886969524125696, 187072209578355573530071658587684226515959365500928), (512, 187072209578355573530071658587684226515959365500928, 374144419156711147060143317175368453031918731001856), (1089, 397893820763338319480953195707008052101327634825216, 748288838313422294120286634350736906063837462003712), (2048, 748288838313422294120286634350736906063837462003712, 1496577676626844588240573268701473812127674924007424), (4096, 1496577676626844588240573268701473812127674924007424, 2993155353253689176481146537402947624255349848014848)] (by kernel_rfl) (by kernel_rfl) (by kernel_rfl) ?_
     refine DX.takeW 0 1 (by kernel_rfl) rfl rfl rfl rfl rfl (yw_move rfl rfl) ?_
     refine DX.takeW 1 3 (by kernel_rfl) rfl rfl rfl rfl rfl (yw_move rfl rfl) ?_
     refine DX.takeW 2 7 (by kernel_rfl) rfl rfl rfl rfl rfl (yw_move rfl rfl) ?_
     refine DX.takeW 3 15 (by kernel_rfl) rfl rfl rfl rfl rfl (yw_move rfl rfl) ?_
     refine DX.takeW 4 31 (by kernel_rfl) rfl rfl rfl rfl rfl (yw_sub rfl rfl rfl (by omega) (by omega)) ?_
     refine DX.know (t := 162) (u := .int .i64 ((mid + m - 1 - (s + e) / 2 : Nat) : Int)) rfl (congrArg (Value.int .i64) (by omega)) ?_
     refine DX.takeW 5 63 (by kernel_rfl) rfl rfl rfl rfl rfl (yw_index (k := (mid + m - 1 - (s + e) / 2)) rfl slt_63 rfl rfl (by omega) (by omega) (hA (by omega))) ?_
     refine DX.take 6 127 (by kernel_rfl) rfl rfl rfl rfl rfl (List.Sublist.refl _) (y_rowElem (i := 0) rfl rfl agg_100 rfl (map_get hy)) ?_
     refine DX.takeW 7 255 (by kernel_rfl) rfl rfl rfl rfl rfl (yw_move rfl rfl) ?_
     refine DX.takeW 8 511 (by kernel_rfl) rfl rfl rfl rfl rfl (yw_move rfl rfl) ?_
     refine DX.takeW 9 1023 (by kernel_rfl) rfl rfl rfl rfl rfl (yw_index (k := ((s + e) / 2)) rfl slt_63 rfl rfl (by omega) (by omega) (hA (by omega))) ?_
     refine DX.take 10 2047 (by kernel_rfl) rfl rfl rfl rfl rfl (List.Sublist.refl _) (y_rowElem (i := 0) rfl rfl agg_100 rfl (map_get hx)) ?_
     refine DX.step 11 4095 (by kernel_rfl) rfl rfl rfl (op_callV (v := .int .i64 (cmpF y x)) rfl rfl rfl rfl rfl ent_46 (fun w _ => w_cmp y x) (DXs.mk (List.Sublist.refl _) ?_))
     refine DX.takeW 12 8191 (by kernel_rfl) rfl rfl rfl rfl rfl (yw_lss rfl rfl rfl) ?_
     refine DX.takeW 13 16383 (by kernel_rfl) rfl rfl rfl rfl rfl (yw_notD rfl rfl) ?_
     refine DX.done (by kernel_rfl) (XX.next (V' := [(0, _), (1, _), (2, _), (3, _), (4, _), (18, _), (19, _), (20, _), (21, _), (22, _), (23, _), (171, _)]) ⟨rfl, rfl, rfl, rfl, rfl, rfl, rfl, rfl, rfl, rfl, rfl, rfl, trivial⟩ ?_)
     refine CX.condD (p := ¬ (cmpF y x < 0)) rfl (fun c171 => ?_) (fun c171 => ?_)
     ·refine CX.region ?_
      refine RX.cons rfl rfl (op_w (yw_move rfl rfl) rfl rfl ?_)
      refine RX.cons rfl rfl (op_w (yw_add rfl rfl rfl (by omega) (by omega)) rfl rfl ?_)
      refine RX.know (t := 173) (u := .int .i64 (((s + e) / 2 + 1 : Nat) : Int)) rfl (congrArg (Value.int .i64) (by omega)) ?_
      refine RX.cons rfl rfl (op_w (yw_assign rfl rfl) rfl rfl ?_)
      refine RX.nil (XX.inBlock (V' := [(0, _), (1, _), (2, _), (3, _), (4, _), (18, _), (19, _), (20, _), (21, _), (22, _)]) ⟨rfl, rfl, rfl, rfl, rfl, rfl, rfl, rfl, rfl, rfl, trivial⟩ ?_)
      refine XX.againP ([]) ((s + e) / 2 + 1, e) (by dsimp only; omega) ⟨by dsimp only; omega, by dsimp only; omega, he1, .inr ⟨x, y, hx, by dsimp only; rw [show mid + m - ((s + e) / 2 + 1) = mid + m - 1 - (s + e) / 2 from by omega]; exact hy, cmpF_nneg c171⟩, heF⟩ ⟨rfl, rfl, rfl, rfl, rfl, rfl, rfl, rfl, rfl, rfl, trivial⟩ ((perm_pick 0 rfl).trans (List.Perm.cons _ (List.Perm.refl _)))
     ·refine CX.region ?_
      refine RX.cons rfl rfl (op_w (yw_move rfl rfl) rfl rfl ?_)
      refine RX.cons rfl rfl (op_w (yw_assign rfl rfl) rfl rfl ?_)
      refine RX.nil (XX.inBlock (V' := [(0, _), (1, _), (2, _), (3, _), (4, _), (18, _), (19, _), (20, _), (21, _), (22, _)]) ⟨rfl, rfl, rfl, rfl, rfl, rfl, rfl, rfl, rfl, rfl, trivial⟩ ?_)
      refine XX.againP ([]) (s, (s + e) / 2) (by dsimp only; omega) ⟨hs1, by dsimp only; omega, by dsimp only; omega, hsF, .inr ⟨x, y, hx, hy, (cmpF_neg y x).1 (by omega)⟩⟩ ⟨rfl, rfl, rfl, rfl, rfl, rfl, rfl, rfl, rfl, rfl, trivial⟩ ((perm_pick 0 rfl).trans (List.Perm.cons _ (List.Perm.refl _)))
    ·obtain rfl : s = e := by omega
     obtain ⟨A1, A2, B1, B2, rfl, rfl, hsA, hsB, hsE, hsort⟩ := Srt.search_mid (p := p) (r := r) (m := m) (b := b) (mid := mid) (s := s) before_swo hU hV hm (by omega) (by rw [ha]; exact hmid) (by rw [ha]; exact hlo) hhi hs1 he1 (by omega) hsF heF
     simp only [List.length_append] at hU0 hV0 hm hb hlen hN
     refine CX.exit ?_
     refine XX.then_exit ?_
     refine XX.then_exit ?_
     refine XX.block_exit ?_
     refine XX.next (V' := [(0, _), (1, _), (2, _), (3, _), (4, _), (18, _), (19, _), (20, _)]) ⟨rfl, rfl, rfl, rfl, rfl, rfl, rfl, rfl, trivial⟩ ?_
     refine CX.seq ?_
     refine CX.region ?_
     refine RX.cons rfl rfl (op_w (yw_move rfl rfl) rfl rfl ?_)
     refine RX.cons rfl rfl (op_w (yw_move rfl rfl) rfl rfl ?_)
     refine RX.cons rfl rfl (op_w (yw_sub rfl rfl rfl (by omega) (by omega)) rfl rfl ?_)
     refine RX.know (t := 177) (u := .int .i64 ((mid + m - s : Nat) : Int)) rfl (congrArg (Value.int .i64) (by omega)) ?_
     refine RX.cons rfl rfl (op_w (yw_assign rfl rfl) rfl rfl ?_)
     refine RX.nil (XX.next (V' := [(0, _), (1, _), (2, _), (3, _), (4, _), (18, _), (20, _), (24, _)]) ⟨rfl, rfl, rfl, rfl, rfl, rfl, rfl, rfl, trivial⟩ ?_)
     refine CX.cut (σ := Unit) (fun _ => [(0, .slice A len cap), (1, .int .i64 ((a : Nat) : Int)), (3, .int .i64 ((b : Nat) : Int)), (4, .func (.func 46) #[] #[]), (18, .int .i64 ((mid : Nat) : Int)), (20, .int .i64 ((s : Nat) : Int)), (24, .int .i64 ((mid + m - s : Nat) : Int))]) (fun _ => [PRow A cap (p ++ (A1 ++ B1) ++ (A2 ++ B2) ++ r)]) (fun _ => True) ?_ (fun _ _ => ?_)
     ·refine CX.seq ?_
      refine CX.region ?_
      refine RX.cons rfl rfl (op_w (yw_move rfl rfl) rfl rfl ?_)
      refine RX.cons rfl rfl (op_w (yw_move rfl rfl) rfl rfl ?_)
      refine RX.cons rfl rfl (op_w (yw_lss rfl rfl rfl) rfl rfl ?_)
      refine RX.cons rfl rfl (op_w (yw_move rfl rfl) rfl rfl ?_)
      refine RX.splitD (t := 181) (p := ((s : Nat) : Int) < ((m : Nat) : Int)) rfl (fun d181 => ?_) (fun d181 => ?_)
      ·refine RX.consG rfl rfl rfl rfl rfl (op_w (yw_move rfl rfl) rfl rfl ?_)
       refine RX.consG rfl rfl rfl rfl rfl (op_w (yw_move rfl rfl) rfl rfl ?_)
       refine RX.consG rfl rfl rfl rfl rfl (op_w (yw_lss rfl rfl rfl) rfl rfl ?_)
       refine RX.cons rfl rfl (op_w (yw_pickT rfl rfl rfl) rfl rfl ?_)
       refine RX.nil (XX.next (V' := [(0, _), (1, _), (2, _), (3, _), (4, _), (18, _), (20, _), (24, _), (185, _)]) ⟨rfl, rfl, rfl, rfl, rfl, rfl, rfl, rfl, rfl, trivial⟩ ?_)
       refine CX.condD (p := ((m : Nat) : Int) < ((mid + m - s : Nat) : Int)) rfl (fun c185 => ?_) (fun c185 => ?_)
       ·refine CX.region ?_
        refine RX.cons rfl rfl (op_w (yw_move rfl rfl) rfl rfl ?_)
        refine RX.cons rfl rfl (op_w (yw_move rfl rfl) rfl rfl ?_)
        refine RX.cons rfl rfl (op_w (yw_move rfl rfl) rfl rfl ?_)
        refine RX.cons rfl rfl (op_w (yw_move rfl rfl) rfl rfl ?_)
        refine RX.cons rfl rfl (op_w (yw_move rfl rfl) rfl rfl ?_)
        refine RX.cons rfl rfl (op_callP [PRow A cap (p ++ (A1 ++ A2) ++ (B1 ++ B2) ++ r)] [] rfl rfl rfl rfl rfl ent_124 ((perm_pick 0 rfl).trans (List.Perm.cons _ (List.Perm.refl _))) (σ := Unit) (val := fun _ => .tuple #[]) (LL := fun _ => [PRow A cap (p ++ A1 ++ B1 ++ A2 ++ (B2 ++ r))]) (post := fun _ => True) (fun w hw hs => (w_rotate (p ++ A1) A2 B1 (B2 ++ r) s m (mid + m - s) (by first | omega | (simp; omega) | simp) (by first | omega | (simp; omega) | simp) (by first | omega | (simp; omega) | simp) (by first | omega | (simp; omega) | simp) (by first | omega | (simp; omega) | simp) (by first | omega | (simp; omega) | simp) hA hn (prow_eq (by simp) hs)).mono fun e w' h => ⟨(), trivial, h⟩) (fun _ _ => ?_))
        refine RX.nil (XX.meetP ([]) () trivial ⟨rfl, rfl, rfl, rfl, rfl, rfl, rfl, trivial⟩ (by simpa using List.Perm.refl _))
       ·refine CX.skip (by obtain rfl : B1 = [] := List.length_eq_zero_iff.1 (by omega); exact XX.meetP ([]) () trivial ⟨rfl, rfl, rfl, rfl, rfl, rfl, rfl, trivial⟩ (by simpa using List.Perm.refl _))
      ·refine RX.skip rfl rfl rfl rfl rfl rfl rfl ?_
       refine RX.skip rfl rfl rfl rfl rfl rfl rfl ?_
       refine RX.skip rfl rfl rfl rfl rfl rfl rfl ?_
       refine RX.cons rfl rfl (op_w (yw_pickF rfl rfl rfl) rfl rfl ?_)
       refine RX.nil (XX.next (V' := [(0, _), (1, _), (2, _), (3, _), (4, _), (18, _), (20, _), (24, _), (185, _)]) ⟨rfl, rfl, rfl, rfl, rfl, rfl, rfl, rfl, rfl, trivial⟩ ?_)
       refine CX.condF rfl ?_
       refine CX.skip (by obtain rfl : A2 = [] := List.length_eq_zero_iff.1 (by omega); exact XX.meetP ([]) () trivial ⟨rfl, rfl, rfl, rfl, rfl, rfl, rfl, trivial⟩ (by simpa using List.Perm.refl _))
     ·refine CX.cut (σ := Unit) (fun _ => [(0, .slice A len cap), (3, .int .i64 ((b : Nat) : Int)), (4, .func (.func 46) #[] #[]), (18, .int .i64 ((mid : Nat) : Int)), (24, .int .i64 ((mid + m - s : Nat) : Int))]) (fun _ => [PRow A cap (p ++ Srt.isort before (A1 ++ B1) ++ (A2 ++ B2) ++ r)]) (fun _ => True) ?_ (fun _ _ => ?_)
      ·refine CX.seq ?_
       refine CX.region ?_
       refine RX.cons rfl rfl (op_w (yw_move rfl rfl) rfl rfl ?_)
       refine RX.cons rfl rfl (op_w (yw_move rfl rfl) rfl rfl ?_)
       refine RX.cons rfl rfl (op_w (yw_lss rfl rfl rfl) rfl rfl ?_)
       refine RX.cons rfl rfl (op_w (yw_move rfl rfl) rfl rfl ?_)
       refine RX.splitD (t := 195) (p := ((a : Nat) : Int) < ((s : Nat) : Int)) rfl (fun d195 => ?_) (fun d195 => ?_)
       ·refine RX.consG rfl rfl rfl rfl rfl (op_w (yw_move rfl rfl) rfl rfl ?_)
        refine RX.consG rfl rfl rfl rfl rfl (op_w (yw_move rfl rfl) rfl rfl ?_)
        refine RX.consG rfl rfl rfl rfl rfl (op_w (yw_lss rfl rfl rfl) rfl rfl ?_)
        refine RX.cons rfl rfl (op_w (yw_pickT rfl rfl rfl) rfl rfl ?_)
        refine RX.nil (XX.next (V' := [(0, _), (1, _), (3, _), (4, _), (18, _), (20, _), (24, _), (199, _)]) ⟨rfl, rfl, rfl, rfl, rfl, rfl, rfl, rfl, trivial⟩ ?_)
        refine CX.condD (p := ((s : Nat) : Int) < ((mid : Nat) : Int)) rfl (fun c199 => ?_) (fun c199 => ?_)
        ·refine CX.region ?_
         refine RX.cons rfl rfl (op_w (yw_move rfl rfl) rfl rfl ?_)
         refine RX.cons rfl rfl (op_w (yw_move rfl rfl) rfl rfl ?_)
         refine RX.cons rfl rfl (op_w (yw_move rfl rfl) rfl rfl ?_)
         refine RX.cons rfl rfl (op_w (yw_move rfl rfl) rfl rfl ?_)
         refine RX.cons rfl rfl (op_w (yw_move rfl rfl) rfl rfl ?_)
         refine RX.cons rfl rfl (op_callP [PRow A cap (p ++ (A1 ++ B1) ++ (A2 ++ B2) ++ r)] [] rfl rfl rfl rfl rfl ent_117 ((perm_pick 0 rfl).trans (List.Perm.cons _ (List.Perm.refl _))) (σ := Unit) (val := fun _ => .tuple #[]) (LL := fun _ => [PRow A cap (p ++ Srt.isort before (A1 ++ B1) ++ (A2 ++ B2 ++ r))]) (post := fun _ => True) (fun w hw hs => (ih p A1 B1 (A2 ++ B2 ++ r) a s mid (by omega) (by first | omega | (simp; omega) | simp) (by first | omega | (simp; omega) | simp) (by first | omega | (simp; omega) | simp) (by first | omega | (simp; omega) | simp) (Srt.sorted_append.1 hU).1 (Srt.sorted_append.1 hV).1 (by first | omega | (simp; omega) | simp) (by first | omega | (simp; omega) | simp) hA hn (prow_eq (by simp) hs)).mono fun e w' h => ⟨(), trivial, h⟩) (fun _ _ => ?_))
         refine RX.nil (XX.meetP ([]) () trivial ⟨rfl, rfl, rfl, rfl, rfl, trivial⟩ (by simpa using List.Perm.refl _))
        ·refine CX.skip (by rw [Srt.isort_id before_swo (l := A1 ++ B1) (by obtain rfl : B1 = [] := List.length_eq_zero_iff.1 (by omega); first | simpa using (Srt.sorted_append.1 hU).1 | simpa using (Srt.sorted_append.1 hV).1)]; exact XX.meetP ([]) () trivial ⟨rfl, rfl, rfl, rfl, rfl, trivial⟩ ((perm_pick 0 rfl).trans (List.Perm.cons _ (List.Perm.refl _))))
       ·refine RX.skip rfl rfl rfl rfl rfl rfl rfl ?_
        refine RX.skip rfl rfl rfl rfl rfl rfl rfl ?_
        refine RX.skip rfl rfl rfl rfl rfl rfl rfl ?_
        refine RX.cons rfl rfl (op_w (yw_pickF rfl rfl rfl) rfl rfl ?_)
        refine RX.nil (XX.next (V' := [(0, _), (1, _), (3, _), (4, _), (18, _), (20, _), (24, _), (199, _)]) ⟨rfl, rfl, rfl, rfl, rfl, rfl, rfl, rfl, trivial⟩ ?_)
        refine CX.condF rfl ?_
        refine CX.skip (by rw [Srt.isort_id before_swo (l := A1 ++ B1) (by obtain rfl : A1 = [] := List.length_eq_zero_iff.1 (by omega); first | simpa using (Srt.sorted_append.1 hU).1 | simpa using (Srt.sorted_append.1 hV).1)]; exact XX.meetP ([]) () trivial ⟨rfl, rfl, rfl, rfl, rfl, trivial⟩ ((perm_pick 0 rfl).trans (List.Perm.cons _ (List.Perm.refl _))))
      ·refine CX.seq ?_
       refine CX.region ?_
       refine RX.cons rfl rfl (op_w (yw_move rfl rfl) rfl rfl ?_)
       refine RX.cons rfl rfl (op_w (yw_move rfl rfl) rfl rfl ?_)
       refine RX.cons rfl rfl (op_w (yw_lss rfl rfl rfl) rfl rfl ?_)
       refine RX.cons rfl rfl (op_w (yw_move rfl rfl) rfl rfl ?_)
       refine RX.splitD (t := 209) (p := ((mid : Nat) : Int) < ((mid + m - s : Nat) : Int)) rfl (fun d209 => ?_) (fun d209 => ?_)
       ·refine RX.consG rfl rfl rfl rfl rfl (op_w (yw_move rfl rfl) rfl rfl ?_)
        refine RX.consG rfl rfl rfl rfl rfl (op_w (yw_move rfl rfl) rfl rfl ?_)
        refine RX.consG rfl rfl rfl rfl rfl (op_w (yw_lss rfl rfl rfl) rfl rfl ?_)
        refine RX.cons rfl rfl (op_w (yw_pickT rfl rfl rfl) rfl rfl ?_)
        refine RX.nil (XX.next (V' := [(0, _), (3, _), (4, _), (18, _), (24, _), (213, _)]) ⟨rfl, rfl, rfl, rfl, rfl, rfl, trivial⟩ ?_)
        refine CX.condD (p := ((mid + m - s : Nat) : Int) < ((b : Nat) : Int)) rfl (fun c213 => ?_) (fun c213 => ?_)
        ·refine CX.region ?_
         refine RX.cons rfl rfl (op_w (yw_move rfl rfl) rfl rfl ?_)
         refine RX.cons rfl rfl (op_w (yw_move rfl rfl) rfl rfl ?_)
         refine RX.cons rfl rfl (op_w (yw_move rfl rfl) rfl rfl ?_)
         refine RX.cons rfl rfl (op_w (yw_move rfl rfl) rfl rfl ?_)
         refine RX.cons rfl rfl (op_w (yw_move rfl rfl) rfl rfl ?_)
         refine RX.cons rfl rfl (op_callP [PRow A cap (p ++ Srt.isort before (A1 ++ B1) ++ (A2 ++ B2) ++ r)] [] rfl rfl rfl rfl rfl ent_117 ((perm_pick 0 rfl).trans (List.Perm.cons _ (List.Perm.refl _))) (σ := Unit) (val := fun _ => .tuple #[]) (LL := fun _ => [PRow A cap (p ++ Srt.isort before (A1 ++ B1) ++ Srt.isort before (A2 ++ B2) ++ r)]) (post := fun _ => True) (fun w hw hs => (ih (p ++ Srt.isort before (A1 ++ B1)) A2 B2 r mid (mid + m - s) b (by omega) (by simp [Srt.isort_length]; omega) (by simp [Srt.isort_length]; omega) (by simp [Srt.isort_length]; omega) (by simp [Srt.isort_length]; omega) (Srt.sorted_append.1 hU).2.1 (Srt.sorted_append.1 hV).2.1 (by first | omega | (simp; omega) | simp) (by first | omega | (simp; omega) | simp) hA hn (prow_eq (by simp) hs)).mono fun e w' h => ⟨(), trivial, h⟩) (fun _ _ => ?_))
         refine RX.nil ?_
         exact end_none rfl fun w1 hw => ⟨rfl, prow_eq (by rw [← hsort]; simp) hw⟩
        ·refine CX.skip ?_
         exact end_none rfl fun w1 hw => ⟨rfl, prow_eq (by rw [← hsort, Srt.isort_id before_swo (l := A2 ++ B2) (by obtain rfl : B2 = [] := List.length_eq_zero_iff.1 (by omega); first | simpa using (Srt.sorted_append.1 hU).2.1 | simpa using (Srt.sorted_append.1 hV).2.1)]; simp) hw⟩
       ·refine RX.skip rfl rfl rfl rfl rfl rfl rfl ?_
        refine RX.skip rfl rfl rfl rfl rfl rfl rfl ?_
        refine RX.skip rfl rfl rfl rfl rfl rfl rfl ?_
        refine RX.cons rfl rfl (op_w (yw_pickF rfl rfl rfl) rfl rfl ?_)
        refine RX.nil (XX.next (V' := [(0, _), (3, _), (4, _), (18, _), (24, _), (213, _)]) ⟨rfl, rfl, rfl, rfl, rfl, rfl, trivial⟩ ?_)
        refine CX.condF rfl ?_
        refine CX.skip ?_
        exact end_none rfl fun w1 hw => ⟨rfl, prow_eq (by rw [← hsort, Srt.isort_id before_swo (l := A2 ++ B2) (by obtain rfl : A2 = [] := List.length_eq_zero_iff.1 (by omega); first | simpa using (Srt.sorted_append.1 hU).2.1 | simpa using (Srt.sorted_append.1 hV).2.1)]; simp) hw⟩

theorem symOk : ∀ N, SymOk N
  | 0 => fun p U V r a m b h => by omega
  | N + 1 => fun p U V r a m b h1 h2 h3 h4 h5 h6 h7 h8 h9 h10 h11 h12 => w_symStep (symOk N) p U V r a m b h1 h2 h3 h4 h5 h6 h7 h8 h9 h10 h11 h12

end Go.Proofs.YtpcfgoadkfajfaaGreatDoor.Se
