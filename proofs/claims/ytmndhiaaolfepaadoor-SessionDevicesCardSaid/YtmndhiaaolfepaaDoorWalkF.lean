/- Walks, printed by a program. -/
import Derived.Test.YtmndhiaaolfepaaDoorWalkE
namespace Go.Proofs.YtmndhiaaolfepaaDoor
set_option linter.all false
open Go Go.RowKit
set_option maxRecDepth 100000
theorem fld_33_0 : Fld Tryd.prog 33 0 0 := ⟨_, _, (Tryd.prog.info? 3).get!, Tryd.underlying33, rfl, rfl, by kernel_rfl, by decide +kernel⟩
theorem ent_47 : ∀ args w, (callFunc 47 args).run Tryd.prog w = .ok (.enter 47 args) w := enters_of Tryd.func47 (by kernel_rfl) rfl
theorem zero_76 : Zero Tryd.prog 76 (.agg (#[.nilFunc, .bool false, .nilFunc])) := ⟨(Tryd.prog.info? 76).get!, by kernel_rfl, by kernel_rfl⟩
theorem szt_76 : SzT Tryd.prog 76 3 := ⟨(Tryd.prog.info? 76).get!, by kernel_rfl, by kernel_rfl⟩
theorem fld_33_2 : Fld Tryd.prog 33 2 2 := ⟨_, _, (Tryd.prog.info? 3).get!, Tryd.underlying33, rfl, rfl, by kernel_rfl, by decide +kernel⟩
theorem fld_33_17 : Fld Tryd.prog 33 17 17 := ⟨_, _, (Tryd.prog.info? 9).get!, Tryd.underlying33, rfl, rfl, by kernel_rfl, by decide +kernel⟩
theorem one_9 : One Tryd.prog 9 := ⟨_, Tryd.underlying9, rfl⟩
theorem fld_76_0 : Fld Tryd.prog 76 0 0 := ⟨_, _, (Tryd.prog.info? 73).get!, Tryd.underlying76, rfl, rfl, by kernel_rfl, by decide +kernel⟩
theorem one_73 : One Tryd.prog 73 := ⟨_, Tryd.underlying73, rfl⟩
theorem ent_53 : ∀ args w, (callFunc 53 args).run Tryd.prog w = .ok (.enter 53 args) w := enters_of Tryd.func53 (by kernel_rfl) rfl
theorem slt_82 : SlT Tryd.prog 82 85 3 := ⟨(Tryd.prog.info? 85).get!, Tryd.underlying82, by kernel_rfl, by kernel_rfl⟩
theorem ent_48 : ∀ args w, (callFunc 48 args).run Tryd.prog w = .ok (.enter 48 args) w := enters_of Tryd.func48 (by kernel_rfl) rfl
theorem fld_76_1 : Fld Tryd.prog 76 1 1 := ⟨_, _, (Tryd.prog.info? 4).get!, Tryd.underlying76, rfl, rfl, by kernel_rfl, by decide +kernel⟩
theorem one_4 : One Tryd.prog 4 := ⟨_, Tryd.underlying4, rfl⟩
theorem eqg_33 : Tryd.prog.eqGuardType Tryd.prog.depth 33 = false := by kernel_rfl
set_option maxRecDepth 100000 in
theorem w_valid {w : World} (f : Fct) (hk : f.kind = 1) :
    Calls Tryd.prog 40 #[.agg (Fct.cells f)] w (fun e w' => e = .returned (.bool f.valid) ∧ SL w [] w' []) := by
  refine calls_of_CX (O := []) (L := []) (args := [.agg (Fct.cells f)]) Tryd.func40 rfl (by simp [Tryd.ntmps40]) (SL.refl w) ?_
  refine CX.sub (V' := [(0, .agg (Fct.cells f))]) ⟨rfl, trivial⟩ ?_
  refine CX.seq ?_
  refine CX.region ?_
  refine RX.cons rfl rfl (op_box rfl rfl rfl rfl fun g1 => ?_)
  refine RX.cons rfl rfl (op_w (yw_assign rfl rfl) rfl rfl ?_)
  refine RX.nil (XX.next (V' := [(1, .pointer (some ⟨g1, 0, none⟩))]) ⟨rfl, trivial⟩ ?_)
  refine CX.cut (σ := Nat) (fun g3 => [(1, .pointer (some ⟨g1, 0, none⟩)), (3, .pointer (some ⟨g3, 0, none⟩)), (4, .bool true)]) (fun g3 => [.blk g3 (.cells (#[.func (.func 53) #[] #[], .bool false, .func (.func 54) #[] #[]]) 76 (0, 0)), .blk g1 (.cells (Fct.cells f) 33 (0, 0))]) (fun g3 => True) ?_ (fun g3 _ => ?_)
  · refine CX.draw 8 (by kernel_rfl) ?_
    refine DX.takeW 1 2 (by kernel_rfl) rfl rfl rfl rfl rfl (yw_field0 rfl fld_33_0 rfl) ?_
    refine DX.take 2 6 (by kernel_rfl) rfl rfl rfl rfl rfl (List.Sublist.refl _) (y_load (i := 0) rfl rfl one_3 rfl rfl) ?_
    refine DX.step2 0 7 7 134 (by kernel_rfl) rfl rfl rfl rfl rfl rfl (op_callE rfl rfl rfl rfl rfl ent_47 (fun w _ => w_kinds) (fun x47 h47 => (DXs.mk (List.Sublist.cons _ (List.Sublist.refl _)) ?_))) (op_alloc rfl rfl rfl zero_76 fun g3 => (DXs.mk (List.Sublist.cons _ (List.Sublist.refl _)) ?_))
    · refine DX.step2 3 7 15 135 (by kernel_rfl) rfl rfl rfl rfl rfl rfl (op_yld (y_lookupOkE (i := 0) rfl rfl rfl mapt_78 rfl (by rw [hk]; exact h47)) rfl rfl (DXs.mk (List.Sublist.cons _ (List.Sublist.refl _)) ?_)) (op_alloc rfl rfl rfl zero_76 fun g3 => (DXs.mk (List.Sublist.cons _ (List.Sublist.cons _ (List.Sublist.refl _))) ?_))
      · refine DX.takeW 4 31 (by kernel_rfl) rfl rfl rfl rfl rfl (yw_move rfl rfl) ?_
        refine DX.takeW 5 63 (by kernel_rfl) rfl rfl rfl rfl rfl (yw_extract rfl rfl rfl) ?_
        refine DX.takeW 6 127 (by kernel_rfl) rfl rfl rfl rfl rfl (yw_extract rfl rfl rfl) ?_
        refine DX.step 7 255 (by kernel_rfl) rfl rfl rfl (op_alloc rfl rfl rfl zero_76 fun g3 => (DXs.mk (List.Sublist.cons _ (List.Sublist.cons _ (List.Sublist.refl _))) ?_))
        refine DX.stepT 8 511 (by kernel_rfl) rfl rfl rfl rfl (op_storeAll (i := 0) rfl rfl rfl rfl szt_76 rfl (plain_of rfl) rfl rfl ?_)
        refine DX.takeW 9 1023 (by kernel_rfl) rfl rfl rfl rfl rfl (yw_assign rfl rfl) ?_
        refine DX.done (by kernel_rfl) (XX.meetP ([.imap x47.1 x47.2]) g3 trivial ⟨rfl, rfl, rfl, trivial⟩ ((perm_pick 0 rfl).trans (List.Perm.cons _ ((perm_pick 1 rfl).trans (List.Perm.cons _ (List.Perm.refl _))))))
      · refine DX.step 3 143 (by kernel_rfl) rfl rfl rfl (op_yld (y_lookupOkE (i := 1) rfl rfl rfl mapt_78 rfl (by rw [hk]; exact h47)) rfl rfl (DXs.mk (List.Sublist.cons _ (List.Sublist.cons _ (List.Sublist.refl _))) ?_))
        refine DX.takeW 4 159 (by kernel_rfl) rfl rfl rfl rfl rfl (yw_move rfl rfl) ?_
        refine DX.takeW 5 191 (by kernel_rfl) rfl rfl rfl rfl rfl (yw_extract rfl rfl rfl) ?_
        refine DX.takeW 6 255 (by kernel_rfl) rfl rfl rfl rfl rfl (yw_extract rfl rfl rfl) ?_
        refine DX.stepT 8 511 (by kernel_rfl) rfl rfl rfl rfl (op_storeAll (i := 0) rfl rfl rfl rfl szt_76 rfl (plain_of rfl) rfl rfl ?_)
        refine DX.takeW 9 1023 (by kernel_rfl) rfl rfl rfl rfl rfl (yw_assign rfl rfl) ?_
        refine DX.done (by kernel_rfl) (XX.meetP ([.imap x47.1 x47.2]) g3 trivial ⟨rfl, rfl, rfl, trivial⟩ ((perm_pick 0 rfl).trans (List.Perm.cons _ ((perm_pick 1 rfl).trans (List.Perm.cons _ (List.Perm.refl _))))))
    · refine DX.step 0 135 (by kernel_rfl) rfl rfl rfl (op_callE rfl rfl rfl rfl rfl ent_47 (fun w _ => w_kinds) (fun x47 h47 => (DXs.mk (List.Sublist.cons _ (List.Sublist.cons _ (List.Sublist.refl _))) ?_)))
      refine DX.step 3 143 (by kernel_rfl) rfl rfl rfl (op_yld (y_lookupOkE (i := 0) rfl rfl rfl mapt_78 rfl (by rw [hk]; exact h47)) rfl rfl (DXs.mk (List.Sublist.cons _ (List.Sublist.cons _ (List.Sublist.refl _))) ?_))
      refine DX.takeW 4 159 (by kernel_rfl) rfl rfl rfl rfl rfl (yw_move rfl rfl) ?_
      refine DX.takeW 5 191 (by kernel_rfl) rfl rfl rfl rfl rfl (yw_extract rfl rfl rfl) ?_
      refine DX.takeW 6 255 (by kernel_rfl) rfl rfl rfl rfl rfl (yw_extract rfl rfl rfl) ?_
      refine DX.stepT 8 511 (by kernel_rfl) rfl rfl rfl rfl (op_storeAll (i := 1) rfl rfl rfl rfl szt_76 rfl (plain_of rfl) rfl rfl ?_)
      refine DX.takeW 9 1023 (by kernel_rfl) rfl rfl rfl rfl rfl (yw_assign rfl rfl) ?_
      refine DX.done (by kernel_rfl) (XX.meetP ([.imap x47.1 x47.2]) g3 trivial ⟨rfl, rfl, rfl, trivial⟩ ((perm_pick 1 rfl).trans (List.Perm.cons _ ((perm_pick 1 rfl).trans (List.Perm.cons _ (List.Perm.refl _))))))
  · refine CX.seq ?_
    refine CX.seq ?_
    refine CX.region ?_
    refine RX.cons rfl rfl (op_w (yw_move rfl rfl) rfl rfl ?_)
    refine RX.cons rfl rfl (op_w (yw_not rfl rfl) rfl rfl ?_)
    refine RX.cons rfl rfl (op_w (yw_move rfl rfl) rfl rfl ?_)
    refine RX.consG rfl rfl rfl rfl rfl (op_w (yw_fieldAddr rfl fld_33_2 rfl) rfl rfl ?_)
    refine RX.consG rfl rfl rfl rfl rfl (op_yld (y_load (i := 1) rfl rfl one_3 rfl rfl) rfl rfl ?_)
    refine RX.consG rfl rfl rfl rfl rfl (op_w (yw_lss rfl rfl rfl) rfl rfl ?_)
    refine RX.cons rfl rfl (op_w (yw_pickF rfl rfl rfl) rfl rfl ?_)
    refine RX.cons rfl rfl (op_w (yw_move rfl rfl) rfl rfl ?_)
    refine RX.splitD (t := 22) (p := f.version < 1) rfl (fun d22 => ?_) (fun d22 => ?_)
    · refine RX.skip rfl rfl rfl rfl rfl rfl rfl ?_
      refine RX.skip rfl rfl rfl rfl rfl rfl rfl ?_
      refine RX.skip rfl rfl rfl rfl rfl rfl rfl ?_
      refine RX.cons rfl rfl (op_w (yw_pickT rfl rfl rfl) rfl rfl ?_)
      refine RX.cons rfl rfl (op_w (yw_move rfl rfl) rfl rfl ?_)
      refine RX.skip rfl rfl rfl rfl rfl rfl rfl ?_
      refine RX.skip rfl rfl rfl rfl rfl rfl rfl ?_
      refine RX.skip rfl rfl rfl rfl rfl rfl rfl ?_
      refine RX.skip rfl rfl rfl rfl rfl rfl rfl ?_
      refine RX.cons rfl rfl (op_w (yw_pickT rfl rfl rfl) rfl rfl ?_)
      refine RX.nil (XX.next (V' := [(1, .pointer (some ⟨g1, 0, none⟩)), (3, .pointer (some ⟨g3, 0, none⟩)), (32, .bool true)]) ⟨rfl, rfl, rfl, trivial⟩ ?_)
      refine CX.condT rfl ?_
      refine CX.seq ?_
      refine CX.region ?_
      refine RX.cons rfl rfl (op_w (yw_assign rfl rfl) rfl rfl ?_)
      refine RX.nil (XX.next (V' := [(2, .bool false)]) ⟨rfl, trivial⟩ ?_)
      refine CX.ret ?_
      refine XX.then_ret ?_
      exact ret_tmp rfl rfl fun w1 hw => ⟨by rw [valid_no_version (.inl d22)], hw.sub (List.nil_sublist _)⟩
    · refine RX.consG rfl rfl rfl rfl rfl (op_w (yw_fieldAddr rfl fld_33_2 rfl) rfl rfl ?_)
      refine RX.consG rfl rfl rfl rfl rfl (op_yld (y_load (i := 1) rfl rfl one_3 rfl rfl) rfl rfl ?_)
      refine RX.consG rfl rfl rfl rfl rfl (op_w (yw_gtr rfl rfl rfl) rfl rfl ?_)
      refine RX.cons rfl rfl (op_w (yw_pickF rfl rfl rfl) rfl rfl ?_)
      refine RX.cons rfl rfl (op_w (yw_move rfl rfl) rfl rfl ?_)
      refine RX.splitD (t := 27) (p := 1000 < f.version) rfl (fun d27 => ?_) (fun d27 => ?_)
      · refine RX.skip rfl rfl rfl rfl rfl rfl rfl ?_
        refine RX.skip rfl rfl rfl rfl rfl rfl rfl ?_
        refine RX.skip rfl rfl rfl rfl rfl rfl rfl ?_
        refine RX.skip rfl rfl rfl rfl rfl rfl rfl ?_
        refine RX.cons rfl rfl (op_w (yw_pickT rfl rfl rfl) rfl rfl ?_)
        refine RX.nil (XX.next (V' := [(1, .pointer (some ⟨g1, 0, none⟩)), (3, .pointer (some ⟨g3, 0, none⟩)), (32, .bool true)]) ⟨rfl, rfl, rfl, trivial⟩ ?_)
        refine CX.condT rfl ?_
        refine CX.seq ?_
        refine CX.region ?_
        refine RX.cons rfl rfl (op_w (yw_assign rfl rfl) rfl rfl ?_)
        refine RX.nil (XX.next (V' := [(2, .bool false)]) ⟨rfl, trivial⟩ ?_)
        refine CX.ret ?_
        refine XX.then_ret ?_
        exact ret_tmp rfl rfl fun w1 hw => ⟨by rw [valid_no_version (.inr d27)], hw.sub (List.nil_sublist _)⟩
      · refine RX.consG rfl rfl rfl rfl rfl (op_w (yw_fieldAddr rfl fld_33_17 rfl) rfl rfl ?_)
        refine RX.consG rfl rfl rfl rfl rfl (op_yld (y_load (i := 1) rfl rfl one_9 rfl rfl) rfl rfl ?_)
        refine RX.consG rfl rfl rfl rfl rfl (op_w (yw_lenStr rfl Tryd.underlying9 rfl) rfl rfl ?_)
        refine RX.consG rfl rfl rfl rfl rfl (op_w (yw_gtr rfl rfl rfl) rfl rfl ?_)
        refine RX.cons rfl rfl (op_w (yw_pickF rfl rfl rfl) rfl rfl ?_)
        refine RX.nil (XX.next (V' := [(1, .pointer (some ⟨g1, 0, none⟩)), (3, .pointer (some ⟨g3, 0, none⟩)), (32, .bool (decide (2000 < ((ByteArray.size f.text : Nat) : Int))))]) ⟨rfl, rfl, rfl, trivial⟩ ?_)
        refine CX.condD (p := 2000 < ((ByteArray.size f.text : Nat) : Int)) rfl (fun c32 => ?_) (fun c32 => ?_)
        · refine CX.seq ?_
          refine CX.region ?_
          refine RX.cons rfl rfl (op_w (yw_assign rfl rfl) rfl rfl ?_)
          refine RX.nil (XX.next (V' := [(2, .bool false)]) ⟨rfl, trivial⟩ ?_)
          refine CX.ret ?_
          refine XX.then_ret ?_
          exact ret_tmp rfl rfl fun w1 hw => ⟨by rw [valid_no_text (by omega)], hw.sub (List.nil_sublist _)⟩
        · refine CX.skip (XX.next (V' := [(1, .pointer (some ⟨g1, 0, none⟩)), (3, .pointer (some ⟨g3, 0, none⟩))]) ⟨rfl, rfl, trivial⟩ ?_)
          refine CX.seq ?_
          refine CX.region ?_
          refine RX.cons rfl rfl (op_yld (y_loadA (i := 1) rfl rfl agg_33 rfl rfl) rfl rfl ?_)
          refine RX.cons rfl rfl (op_w (yw_build (v := .agg (Fct.cells f)) rfl rfl (fun _ => by kernel_rfl)) rfl rfl ?_)
          refine RX.cons rfl rfl (op_box rfl rfl rfl rfl fun g4 => ?_)
          refine RX.cons rfl rfl (op_w (yw_assign rfl rfl) rfl rfl ?_)
          refine RX.nil (XX.next (V' := [(1, .pointer (some ⟨g1, 0, none⟩)), (3, .pointer (some ⟨g3, 0, none⟩)), (5, .pointer (some ⟨g4, 0, none⟩))]) ⟨rfl, rfl, rfl, trivial⟩ ?_)
          refine CX.seq ?_
          refine CX.seq ?_
          refine CX.region ?_
          refine RX.cons rfl rfl (op_w (yw_field0 rfl fld_76_0 rfl) rfl rfl ?_)
          refine RX.cons rfl rfl (op_yld (y_load (i := 1) rfl rfl one_73 rfl rfl) rfl rfl ?_)
          refine RX.cons rfl rfl (op_w (yw_move rfl rfl) rfl rfl ?_)
          refine RX.cons rfl rfl (op_callE rfl rfl rfl rfl rfl ent_53 (fun w _ => w_fplay g4) (fun g53 _ => ?_))
          refine RX.cons rfl rfl (op_w (yw_lenS rfl Tryd.underlying82 rfl) rfl rfl ?_)
          refine RX.cons rfl rfl (op_w (yw_move rfl rfl) rfl rfl ?_)
          refine RX.nil (XX.next (V' := [(1, .pointer (some ⟨g1, 0, none⟩)), (3, .pointer (some ⟨g3, 0, none⟩)), (5, .pointer (some ⟨g4, 0, none⟩)), (39, .slice (some ⟨g53, 0, none⟩) 8 8), (40, .int .i64 ((8 : Nat) : Int)), (41, .int .i64 0)]) ⟨rfl, rfl, rfl, rfl, rfl, rfl, trivial⟩ ?_)
          refine CX.block ?_
          refine CX.loop (σ := Nat) (fun k => [(1, .pointer (some ⟨g1, 0, none⟩)), (3, .pointer (some ⟨g3, 0, none⟩)), (5, .pointer (some ⟨g4, 0, none⟩)), (39, .slice (some ⟨g53, 0, none⟩) 8 8), (40, .int .i64 ((8 : Nat) : Int)), (41, .int .i64 ((k : Nat) : Int))]) (fun k => [.row (some ⟨g53, 0, none⟩) 8 85 3 (fieldsRow g4), .blk g4 (.cells (Fct.cells (strip f k)) 81 (0, 0)), .blk g3 (.cells (#[.func (.func 53) #[] #[], .bool false, .func (.func 54) #[] #[]]) 76 (0, 0)), .blk g1 (.cells (Fct.cells f) 33 (0, 0))]) (fun k => k ≤ 8 ∧ ∀ j, j < k → within (fget f j) (flo j) (fhi j) = true) (fun k => 8 - k) 0 ⟨by decide, fun j hj => by omega⟩ ⟨rfl, rfl, rfl, rfl, rfl, rfl, trivial⟩ rfl (fun k hI => ?_)
          obtain ⟨hk0, hI2⟩ := hI
          refine CX.seq ?_
          refine CX.region ?_
          refine RX.cons rfl rfl (op_w (yw_lss rfl rfl rfl) rfl rfl ?_)
          refine RX.nil (XX.next (V' := [(1, .pointer (some ⟨g1, 0, none⟩)), (3, .pointer (some ⟨g3, 0, none⟩)), (5, .pointer (some ⟨g4, 0, none⟩)), (39, .slice (some ⟨g53, 0, none⟩) 8 8), (40, .int .i64 ((8 : Nat) : Int)), (41, .int .i64 ((k : Nat) : Int)), (42, .bool (decide (((k : Nat) : Int) < ((8 : Nat) : Int))))]) ⟨rfl, rfl, rfl, rfl, rfl, rfl, rfl, trivial⟩ ?_)
          refine CX.seq ?_
          refine CX.condD (p := ((k : Nat) : Int) < ((8 : Nat) : Int)) rfl (fun c42 => ?_) (fun c42 => ?_)
          · have hk8 : k < 8 := by omega
            refine CX.skip (XX.next (V' := [(1, .pointer (some ⟨g1, 0, none⟩)), (3, .pointer (some ⟨g3, 0, none⟩)), (5, .pointer (some ⟨g4, 0, none⟩)), (39, .slice (some ⟨g53, 0, none⟩) 8 8), (40, .int .i64 ((8 : Nat) : Int)), (41, .int .i64 ((k : Nat) : Int))]) ⟨rfl, rfl, rfl, rfl, rfl, rfl, trivial⟩ ?_)
            refine CX.seq ?_
            refine CX.block ?_
            refine CX.seq ?_
            refine CX.region ?_
            refine RX.cons rfl rfl (op_w (yw_index (k := k) rfl slt_82 rfl rfl (by omega) (by omega) ⟨_, _, rfl⟩) rfl rfl ?_)
            refine RX.cons rfl rfl (op_yld (y_rowElem (i := 0) rfl rfl agg_85 rfl (fields_get _ k (by omega))) rfl rfl ?_)
            refine RX.cons rfl rfl (op_alloc rfl rfl rfl zero_85 fun g2 => ?_)
            refine RX.cons rfl rfl (op_storeAll (i := 0) rfl rfl rfl rfl szt_85 rfl (plain_of rfl) rfl rfl ?_)
            refine RX.nil (XX.next (V' := [(1, .pointer (some ⟨g1, 0, none⟩)), (3, .pointer (some ⟨g3, 0, none⟩)), (5, .pointer (some ⟨g4, 0, none⟩)), (7, .pointer (some ⟨g2, 0, none⟩)), (39, .slice (some ⟨g53, 0, none⟩) 8 8), (40, .int .i64 ((8 : Nat) : Int)), (41, .int .i64 ((k : Nat) : Int))]) ⟨rfl, rfl, rfl, rfl, rfl, rfl, rfl, trivial⟩ ?_)
            refine CX.seq ?_
            refine CX.seq ?_
            refine CX.region ?_
            refine RX.cons rfl rfl (op_yld (y_loadA (i := 0) rfl rfl agg_85 rfl rfl) rfl rfl ?_)
            refine RX.cons rfl rfl (op_callV (v := .bool (within (fget f k) (flo k) (fhi k))) rfl rfl rfl rfl rfl ent_48 (fun w hw => w_isWithin (fget f k) _ _ (hw.cellOf (i := 2) rfl (strip_get f k hk8))) ?_)
            refine RX.cons rfl rfl (op_w (yw_not rfl rfl) rfl rfl ?_)
            refine RX.nil (XX.next (V' := [(1, .pointer (some ⟨g1, 0, none⟩)), (3, .pointer (some ⟨g3, 0, none⟩)), (5, .pointer (some ⟨g4, 0, none⟩)), (7, .pointer (some ⟨g2, 0, none⟩)), (39, .slice (some ⟨g53, 0, none⟩) 8 8), (40, .int .i64 ((8 : Nat) : Int)), (41, .int .i64 ((k : Nat) : Int)), (47, .bool (!(within (fget f k) (flo k) (fhi k))))]) ⟨rfl, rfl, rfl, rfl, rfl, rfl, rfl, rfl, trivial⟩ ?_)
            refine CX.cond (b := !(within (fget f k) (flo k) (fhi k))) rfl (fun c47 => ?_) (fun c47 => ?_)
            · refine CX.seq ?_
              refine CX.region ?_
              refine RX.cons rfl rfl (op_w (yw_assign rfl rfl) rfl rfl ?_)
              refine RX.nil (XX.next (V' := [(2, .bool false)]) ⟨rfl, trivial⟩ ?_)
              refine CX.ret ?_
              refine XX.then_ret ?_
              refine XX.block_ret ?_
              refine XX.then_ret ?_
              refine XX.then_ret ?_
              refine XX.block_ret ?_
              refine XX.then_ret ?_
              exact ret_tmp rfl rfl fun w1 hw => ⟨by rw [valid_no k hk8 (by simpa using c47)], hw.sub (List.nil_sublist _)⟩
            · refine CX.skip (XX.next (V' := [(1, .pointer (some ⟨g1, 0, none⟩)), (3, .pointer (some ⟨g3, 0, none⟩)), (5, .pointer (some ⟨g4, 0, none⟩)), (7, .pointer (some ⟨g2, 0, none⟩)), (39, .slice (some ⟨g53, 0, none⟩) 8 8), (40, .int .i64 ((8 : Nat) : Int)), (41, .int .i64 ((k : Nat) : Int))]) ⟨rfl, rfl, rfl, rfl, rfl, rfl, rfl, trivial⟩ ?_)
              refine CX.region ?_
              refine RX.cons rfl rfl (op_w (yw_field0 rfl fld_85_0 rfl) rfl rfl ?_)
              refine RX.cons rfl rfl (op_yld (y_load (i := 0) rfl rfl one_83 rfl rfl) rfl rfl ?_)
              refine RX.cons rfl rfl (op_w (yw_nilCheck rfl rfl) rfl rfl ?_)
              refine RX.cons rfl rfl (op_store1 (i := 2) (j := foff k) (cs' := Fct.cells (strip f (k + 1))) rfl rfl rfl rfl szt_3 rfl rfl (strip_lt f k hk8) (strip_set f k hk8) ?_)
              refine RX.nil (XX.inBlock (V' := [(1, .pointer (some ⟨g1, 0, none⟩)), (3, .pointer (some ⟨g3, 0, none⟩)), (5, .pointer (some ⟨g4, 0, none⟩)), (39, .slice (some ⟨g53, 0, none⟩) 8 8), (40, .int .i64 ((8 : Nat) : Int)), (41, .int .i64 ((k : Nat) : Int))]) ⟨rfl, rfl, rfl, rfl, rfl, rfl, trivial⟩ ?_)
              refine XX.next (V' := [(1, .pointer (some ⟨g1, 0, none⟩)), (3, .pointer (some ⟨g3, 0, none⟩)), (5, .pointer (some ⟨g4, 0, none⟩)), (39, .slice (some ⟨g53, 0, none⟩) 8 8), (40, .int .i64 ((8 : Nat) : Int)), (41, .int .i64 ((k : Nat) : Int))]) ⟨rfl, rfl, rfl, rfl, rfl, rfl, trivial⟩ ?_
              refine CX.region ?_
              refine RX.cons rfl rfl (op_w (yw_add rfl rfl rfl (by omega) (by omega)) rfl rfl ?_)
              refine RX.cons rfl rfl (op_w (yw_move rfl rfl) rfl rfl ?_)
              refine RX.nil (XX.againP ([.blk g2 (.cells (#[.pointer (some ⟨g4, foff k, none⟩), .int .i64 (flo k), .int .i64 (fhi k)]) 85 (0, 0))]) (k + 1) (by omega) ⟨by omega, fun j hj => if hjk : j < k then hI2 j hjk else (by have e : j = k := (by omega); rw [e]; simpa using c47)⟩ ⟨rfl, rfl, rfl, rfl, rfl, rfl, trivial⟩ ((perm_pick 1 rfl).trans (List.Perm.cons _ ((perm_pick 1 rfl).trans (List.Perm.cons _ ((perm_pick 1 rfl).trans (List.Perm.cons _ ((perm_pick 1 rfl).trans (List.Perm.cons _ (List.Perm.refl _))))))))))
          · obtain rfl : k = 8 := by omega
            refine CX.exit ?_
            refine XX.then_exit ?_
            refine XX.then_exit ?_
            refine XX.block_exit ?_
            refine XX.next (V' := [(1, .pointer (some ⟨g1, 0, none⟩)), (3, .pointer (some ⟨g3, 0, none⟩)), (5, .pointer (some ⟨g4, 0, none⟩))]) ⟨rfl, rfl, rfl, trivial⟩ ?_
            refine CX.seq ?_
            refine CX.seq ?_
            refine CX.region ?_
            refine RX.cons rfl rfl (op_w (yw_fieldAddr rfl fld_76_1 rfl) rfl rfl ?_)
            refine RX.cons rfl rfl (op_yld (y_load (i := 2) rfl rfl one_4 rfl rfl) rfl rfl ?_)
            refine RX.nil (XX.next (V' := [(1, .pointer (some ⟨g1, 0, none⟩)), (5, .pointer (some ⟨g4, 0, none⟩)), (53, .bool false)]) ⟨rfl, rfl, rfl, trivial⟩ ?_)
            refine CX.condF rfl ?_
            refine CX.skip (XX.next (V' := [(1, .pointer (some ⟨g1, 0, none⟩)), (5, .pointer (some ⟨g4, 0, none⟩))]) ⟨rfl, rfl, trivial⟩ ?_)
            refine CX.seq ?_
            refine CX.draw 11 (by kernel_rfl) ?_
            refine DX.takeW 0 1 (by kernel_rfl) rfl rfl rfl rfl rfl (yw_move rfl rfl) ?_
            refine DX.takeW 1 3 (by kernel_rfl) rfl rfl rfl rfl rfl (yw_nilCheck rfl rfl) ?_
            refine DX.takeW 2 7 (by kernel_rfl) rfl rfl rfl rfl rfl (yw_field0 rfl fld_81_0 rfl) ?_
            refine DX.take 3 15 (by kernel_rfl) rfl rfl rfl rfl rfl (List.Sublist.refl _) (y_loadA (i := 1) rfl rfl agg_33 rfl rfl) ?_
            refine DX.takeW 4 31 (by kernel_rfl) rfl rfl rfl rfl rfl (yw_field0 rfl fld_33_0 rfl) ?_
            refine DX.take 5 63 (by kernel_rfl) rfl rfl rfl rfl rfl (List.Sublist.refl _) (y_load (i := 3) rfl rfl one_3 rfl rfl) ?_
            refine DX.takeW 6 127 (by kernel_rfl) rfl rfl rfl rfl rfl (yw_fieldAddr rfl fld_33_2 rfl) ?_
            refine DX.take 7 255 (by kernel_rfl) rfl rfl rfl rfl rfl (List.Sublist.refl _) (y_load (i := 3) rfl rfl one_3 rfl rfl) ?_
            refine DX.takeW 8 511 (by kernel_rfl) rfl rfl rfl rfl rfl (yw_build (v := .agg (Fct.cells (bare f.kind f.version))) rfl rfl (fun _ => by kernel_rfl)) ?_
            refine DX.takeW 9 1023 (by kernel_rfl) rfl rfl rfl rfl rfl (yw_eqlAgg (b := (Fct.same (strip f 8) (bare f.kind f.version))) rfl rfl rfl eqg_33 (fun w => eq_fct _ _ w)) ?_
            refine DX.takeW 10 2047 (by kernel_rfl) rfl rfl rfl rfl rfl (yw_assign rfl rfl) ?_
            refine DX.done (by kernel_rfl) (XX.next (V' := [(2, .bool (Fct.same (strip f 8) (bare f.kind f.version)))]) ⟨rfl, trivial⟩ ?_)
            refine CX.ret ?_
            exact ret_tmp rfl rfl fun w1 hw => ⟨by rw [← valid_yes hk (by omega) (by omega) hI2], hw.sub (List.nil_sublist _)⟩

end Go.Proofs.YtmndhiaaolfepaaDoor
