/- Walks, printed by a program. -/
import Derived.Test.YtpcfgoadkfajfaaKGN
namespace Go.Proofs.Ytpcfgoadkfajfaa
set_option linter.all false
open Go Go.RowKit
set_option maxRecDepth 100000
theorem ent_17 : ∀ args w, (callFunc 17 args).run Try.prog w = .ok (.enter 17 args) w := enters_of Try.func17 (by kernel_rfl) rfl
set_option maxRecDepth 100000 in
theorem w_lawLt {w : World} {AR : Option Addr} {capR : Nat} (rs0 : List Ru) (hrR0 : Rd w AR 4 (rs0.map ruC)) (hcR : rs0.length ≤ capR) (h8R : rs0.length ≤ 9223372036854775807) {A : Option Addr} {cap : Nat} (ls0 : List Sm) (hr0 : Rd w A 9 (ls0.map smC)) (hc0 : ls0.length ≤ cap) (h80 : ls0.length ≤ 9223372036854775807) (s : Sm) :
    Calls Try.prog 7 #[.slice AR rs0.length capR, .slice A ls0.length cap, .agg (smC s)] w (fun e w' => e = .returned (.bool true) ∧ SL w [] w' []) := by
  obtain ⟨rs, hrs⟩ : ∃ rs, rs = rs0.take 12 := ⟨_, rfl⟩
  have hrR : Rd w AR 4 (rs.map ruC) := by rw [hrs]; exact hrR0.takeM 12
  have hminR : min rs0.length 12 = rs.length := by rw [hrs, List.length_take]; omega
  have hr12 : rs.length ≤ 12 := by omega
  have hlR : rs.length ≤ 1000000 := by omega
  obtain ⟨ls, hls⟩ : ∃ ls, ls = ls0.take 40 := ⟨_, rfl⟩
  have hr : Rd w A 9 (ls.map smC) := by rw [hls]; exact hr0.takeM 40
  have hmin : min ls0.length 40 = ls.length := by rw [hls, List.length_take]; omega
  have hl40 : ls.length ≤ 40 := by omega
  have hl : ls.length ≤ 100000 := by omega
  refine calls_of_CX (O := []) (L := []) (args := [.slice AR rs0.length capR, .slice A ls0.length cap, .agg (smC s)]) Try.func7 rfl (by simp [Try.ntmps7]) (SL.refl w) ?_
  refine CX.sub (V' := [(0, .slice AR rs0.length capR), (1, .slice A ls0.length cap), (2, .agg (smC s))]) ⟨rfl, rfl, rfl, trivial⟩ ?_
  refine CX.seq ?_
  refine CX.region ?_
  refine RX.cons rfl rfl (op_box rfl rfl rfl rfl fun g5 => ?_)
  refine RX.cons rfl rfl (op_w (yw_assign rfl rfl) rfl rfl ?_)
  refine RX.nil (XX.next (V' := [(0, _), (1, _), (5, _)]) ⟨rfl, rfl, rfl, trivial⟩ ?_)
  refine CX.seq ?_
  refine CX.region ?_
  refine RX.cons rfl rfl (op_callV (v := .bool true) rfl rfl rfl rfl rfl ent_12 (fun w hw => w_sane) ?_)
  refine RX.cons rfl rfl (op_w (yw_assign rfl rfl) rfl rfl ?_)
  refine RX.nil (XX.next (V' := [(0, _), (1, _), (5, _), (7, _)]) ⟨rfl, rfl, rfl, rfl, trivial⟩ ?_)
  refine CX.seq ?_
  refine CX.region ?_
  refine RX.cons rfl rfl (op_w (yw_move rfl rfl) rfl rfl ?_)
  refine RX.cons rfl rfl (op_callV (v := .slice AR rs.length capR) rfl rfl rfl rfl rfl ent_17 (fun w hw => w_shortE rs0.length hminR hcR h8R) ?_)
  refine RX.cons rfl rfl (op_w (yw_assign rfl rfl) rfl rfl ?_)
  refine RX.nil (XX.next (V' := [(0, _), (1, _), (5, _), (7, _)]) ⟨rfl, rfl, rfl, rfl, trivial⟩ ?_)
  refine CX.seq ?_
  refine CX.region ?_
  refine RX.cons rfl rfl (op_w (yw_move rfl rfl) rfl rfl ?_)
  refine RX.cons rfl rfl (op_callV (v := .slice A ls.length cap) rfl rfl rfl rfl rfl ent_13 (fun w hw => w_fewE ls0.length hmin hc0 h80) ?_)
  refine RX.cons rfl rfl (op_w (yw_assign rfl rfl) rfl rfl ?_)
  refine RX.nil (XX.next (V' := [(0, _), (1, _), (5, _), (7, _)]) ⟨rfl, rfl, rfl, rfl, trivial⟩ ?_)
  refine CX.seq ?_
  refine CX.region ?_
  refine RX.cons rfl rfl (op_w (yw_move rfl rfl) rfl rfl ?_)
  refine RX.cons rfl rfl (op_w (yw_move rfl rfl) rfl rfl ?_)
  refine RX.cons rfl rfl (op_callE rfl rfl rfl rfl rfl ent_19 (fun w hw => w_Judge rs ls (hw.rd hrR (by simp)) (hw.rd hr (by simp)) (by omega) (by omega)) (fun ⟨A1, c1⟩ _ => ?_))
  refine RX.cons rfl rfl (op_w (yw_assign rfl rfl) rfl rfl ?_)
  refine RX.nil (XX.next (V' := [(0, _), (1, _), (5, _), (7, _), (8, _)]) ⟨rfl, rfl, rfl, rfl, rfl, trivial⟩ ?_)
  refine CX.seq ?_
  refine CX.drawL 8 ([.blk g5 (.cells (smC s) 24 (0, 0))]) [(0, 1, 524288), (0, 0, 1048576), (0, 2, 2097152), (6, 3145728, 4194304), (0, 32, 8388608), (16, 8388608, 16777216), (40, 20971520, 33554432), (65, 34078720, 67108864), (255, 67108864, 512)] (by kernel_rfl) (by kernel_rfl) (by kernel_rfl) ?_
  refine DX.takeW 0 1 (by kernel_rfl) rfl rfl rfl rfl rfl (yw_move rfl rfl) ?_
  refine DX.takeW 2 5 (by kernel_rfl) rfl rfl rfl rfl rfl (yw_move rfl rfl) ?_
  refine DX.take 4 21 (by kernel_rfl) rfl rfl rfl rfl rfl (List.Sublist.cons _ (List.Sublist.refl _)) (y_loadA (i := 0) rfl rfl agg_24 rfl rfl) ?_
  refine DX.step2 1 5 23 53 (by kernel_rfl) rfl rfl rfl rfl rfl rfl (op_buildSlice rfl rfl rfl slb_22 rfl rfl (by intro v hv; simp at hv) (by decide) fun sr => (DXs.mk (List.Sublist.cons _ (List.Sublist.cons _ (List.Sublist.refl _))) ?_)) (op_buildSlice rfl rfl rfl slb_22 rfl rfl (by intro v hv; simp only [List.mem_cons, List.not_mem_nil, or_false] at hv; subst hv; exact ⟨rfl, (plain_of rfl)⟩) (by decide) fun g7 => (DXs.mk (List.Sublist.cons _ (List.Sublist.cons _ (List.Sublist.refl _))) ?_))
  · refine DX.step2 3 5 31 55 (by kernel_rfl) rfl rfl rfl rfl rfl rfl (op_appendM0 smC (i := 0) (xs := []) ls rfl rfl rfl slb_22 rfl rfl rfl rfl hr (by simp) (by simp; omega) (by simp; omega) fun A5 c5 => (DXs.mk (List.Sublist.cons _ (List.Sublist.cons _ (List.Sublist.refl _))) ?_)) (op_buildSlice rfl rfl rfl slb_22 rfl rfl (by intro v hv; simp only [List.mem_cons, List.not_mem_nil, or_false] at hv; subst hv; exact ⟨rfl, (plain_of rfl)⟩) (by decide) fun g7 => (DXs.mk (List.Sublist.cons _ (List.Sublist.cons _ (List.Sublist.cons _ (List.Sublist.refl _)))) ?_))
    · refine DX.step 5 63 (by kernel_rfl) rfl rfl rfl (op_buildSlice rfl rfl rfl slb_22 rfl rfl (by intro v hv; simp only [List.mem_cons, List.not_mem_nil, or_false] at hv; subst hv; exact ⟨rfl, (plain_of rfl)⟩) (by decide) fun g7 => (DXs.mk (List.Sublist.cons _ (List.Sublist.cons _ (List.Sublist.cons _ (List.Sublist.refl _)))) ?_))
      refine DX.step 6 127 (by kernel_rfl) rfl rfl rfl (op_appendM smC (i := 1) (j := 0) (xs := ([] ++ ls)) ([s]) rfl rfl rfl slb_22 rfl rfl rfl rfl rfl rfl (by simp; omega) (by simp; omega) fun A6 c6 => (DXs.mk (List.Sublist.cons _ (List.Sublist.cons _ (List.Sublist.cons _ (List.Sublist.refl _)))) ?_))
      refine DX.step 7 255 (by kernel_rfl) rfl rfl rfl (op_callE rfl rfl rfl rfl rfl ent_19 (fun w hw => w_Judge rs (([] ++ ls) ++ [s]) (hw.rd hrR (by simp)) (Ent.rd (hw.ents _ (List.mem_of_getElem? (i := 1) rfl))) (by omega) (by simp; omega)) (fun ⟨A2, c2⟩ _ => (DXs.mk (List.Sublist.cons _ (List.Sublist.cons _ (List.Sublist.cons _ (List.Sublist.cons _ (List.Sublist.refl _))))) ?_)))
      refine DX.takeW 8 511 (by kernel_rfl) rfl rfl rfl rfl rfl (yw_assign rfl rfl) ?_
      refine DX.done (by kernel_rfl) (XX.next (V' := [(1, _), (7, _), (8, _), (9, _)]) ⟨rfl, rfl, rfl, rfl, trivial⟩ ?_)
      refine CX.seq ?_
      refine CX.seq ?_
      refine CX.region ?_
      refine RX.cons rfl rfl (op_w (yw_move rfl rfl) rfl rfl ?_)
      refine RX.cons rfl rfl (op_w (yw_lenS rfl Try.underlying36 rfl) rfl rfl ?_)
      refine RX.cons rfl rfl (op_w (yw_move rfl rfl) rfl rfl ?_)
      refine RX.cons rfl rfl (op_w (yw_lenS rfl Try.underlying22 rfl) rfl rfl ?_)
      refine RX.cons rfl rfl (op_w (yw_neq rfl rfl rfl) rfl rfl ?_)
      refine RX.know (t := 31) (u := .bool false) rfl (congrArg Value.bool (decide_eq_false (by rw [List.length_map]; omega))) ?_
      refine RX.cons rfl rfl (op_w (yw_move rfl rfl) rfl rfl ?_)
      refine RX.consG rfl rfl rfl rfl rfl (op_w (yw_move rfl rfl) rfl rfl ?_)
      refine RX.consG rfl rfl rfl rfl rfl (op_w (yw_lenS rfl Try.underlying36 rfl) rfl rfl ?_)
      refine RX.consG rfl rfl rfl rfl rfl (op_w (yw_move rfl rfl) rfl rfl ?_)
      refine RX.consG rfl rfl rfl rfl rfl (op_w (yw_lenS rfl Try.underlying22 rfl) rfl rfl ?_)
      refine RX.consG rfl rfl rfl rfl rfl (op_w (yw_add rfl rfl rfl (by omega) (by omega)) rfl rfl ?_)
      refine RX.consG rfl rfl rfl rfl rfl (op_w (yw_neq rfl rfl rfl) rfl rfl ?_)
      refine RX.know (t := 38) (u := .bool false) rfl (congrArg Value.bool (decide_eq_false (by rw [List.length_map]; simp))) ?_
      refine RX.cons rfl rfl (op_w (yw_pickF rfl rfl rfl) rfl rfl ?_)
      refine RX.nil (XX.next (V' := [(1, _), (7, _), (8, _), (9, _), (39, _)]) ⟨rfl, rfl, rfl, rfl, rfl, trivial⟩ ?_)
      refine CX.condF rfl ?_
      refine CX.skip (XX.next (V' := [(1, _), (7, _), (8, _), (9, _)]) ⟨rfl, rfl, rfl, rfl, trivial⟩ ?_)
      refine CX.seq ?_
      refine CX.seq ?_
      refine CX.region ?_
      refine RX.cons rfl rfl (op_w (yw_assign rfl rfl) rfl rfl ?_)
      refine RX.nil (XX.next (V' := [(1, _), (7, _), (8, _), (9, _), (10, _)]) ⟨rfl, rfl, rfl, rfl, rfl, trivial⟩ ?_)
      refine CX.block ?_
      refine CX.perm (L' := [.row A1 c1 3 1 (List.map iR (List.map (jud rs ls) ls)), .row A2 c2 3 1 (List.map iR (List.map (jud rs (([] ++ ls) ++ [s])) (([] ++ ls) ++ [s]))), .row (some ⟨g7, 0, none⟩) 1 24 9 (List.map smC ([s])), .row A6 c6 24 9 (List.map smC (([] ++ ls) ++ [s])), .blk g5 (.cells (smC s) 24 (0, 0))]) ((perm_pick 3 rfl).trans (List.Perm.cons _ ((perm_pick 0 rfl).trans (List.Perm.cons _ (List.Perm.refl _))))) ?_
      refine CX.drop (L' := [.row A1 c1 3 1 (List.map iR (List.map (jud rs ls) ls)), .row A2 c2 3 1 (List.map iR (List.map (jud rs (([] ++ ls) ++ [s])) (([] ++ ls) ++ [s])))]) (List.Sublist.cons_cons _ (List.Sublist.cons_cons _ (List.nil_sublist _))) ?_
      refine CX.loop (σ := Nat) (fun i => [(1, .slice A ls.length cap), (7, .bool true), (8, .slice A1 (List.length ((List.map (jud rs ls) ls) : List Int)) c1), (9, .slice A2 (List.length ((List.map (jud rs (([] ++ ls) ++ [s])) (([] ++ ls) ++ [s])) : List Int)) c2), (10, .int .i64 ((i : Nat) : Int))]) (fun i => [.row A1 c1 3 1 (List.map iR (List.map (jud rs ls) ls)), .row A2 c2 3 1 (List.map iR (List.map (jud rs (([] ++ ls) ++ [s])) (([] ++ ls) ++ [s])))]) (fun i => i ≤ ls.length) (fun i => ls.length - i) 0 (Nat.zero_le _) ⟨rfl, rfl, rfl, rfl, rfl, trivial⟩ rfl (fun i hI => ?_)
      have hi := hI
      refine CX.seq ?_
      refine CX.seq ?_
      refine CX.region ?_
      refine RX.cons rfl rfl (op_w (yw_move rfl rfl) rfl rfl ?_)
      refine RX.cons rfl rfl (op_w (yw_move rfl rfl) rfl rfl ?_)
      refine RX.cons rfl rfl (op_w (yw_lenS rfl Try.underlying22 rfl) rfl rfl ?_)
      refine RX.cons rfl rfl (op_w (yw_lss rfl rfl rfl) rfl rfl ?_)
      refine RX.nil (XX.next (V' := [(1, _), (7, _), (8, _), (9, _), (10, _), (43, _)]) ⟨rfl, rfl, rfl, rfl, rfl, rfl, trivial⟩ ?_)
      refine CX.condD (p := ((i : Nat) : Int) < ((ls.length : Nat) : Int)) rfl (fun c43 => ?_) (fun c43 => ?_)
      · obtain ⟨x0, hx0⟩ := get_some (l := ls) (k := i) (by omega)
        have hx0m := List.mem_of_getElem? hx0
        have hx2 : (([] ++ ls) ++ [s])[i]? = some x0 := by rw [List.getElem?_append_left (by simp; omega)]; simpa using hx0
        have hlate := jud_late rs ls s x0
        refine CX.rowSome 0 rfl (by simp <;> omega) (fun hA1 => ?_)
        refine CX.rowSome 1 rfl (by simp <;> omega) (fun hA2 => ?_)
        refine CX.skip (XX.next (V' := [(1, _), (7, _), (8, _), (9, _), (10, _)]) ⟨rfl, rfl, rfl, rfl, rfl, trivial⟩ ?_)
        refine CX.seq ?_
        refine CX.block ?_
        refine CX.seq ?_
        refine CX.draw 9 [(0, 512, 70368744177664), (0, 1024, 140737488355328), (3, 211106232532992, 281474976710656), (4, 281474976710656, 562949953421312), (0, 256, 1125899906842624), (0, 1024, 2251799813685248), (48, 3377699720527872, 4503599627370496), (64, 4503599627370496, 9007199254740992), (136, 9570149208162304, 18014398509481984)] (by kernel_rfl) (by kernel_rfl) (by kernel_rfl) ?_
        refine DX.takeW 0 1 (by kernel_rfl) rfl rfl rfl rfl rfl (yw_move rfl rfl) ?_
        refine DX.takeW 1 3 (by kernel_rfl) rfl rfl rfl rfl rfl (yw_move rfl rfl) ?_
        refine DX.takeW 2 7 (by kernel_rfl) rfl rfl rfl rfl rfl (yw_index (k := i) rfl slt_36 rfl rfl (by omega) (by simp; omega) hA2) ?_
        refine DX.take 3 15 (by kernel_rfl) rfl rfl rfl rfl rfl (List.Sublist.refl _) (y_rowElem1 (i := 1) rfl rfl one_3 rfl (map_get (map_get hx2))) ?_
        refine DX.takeW 4 31 (by kernel_rfl) rfl rfl rfl rfl rfl (yw_move rfl rfl) ?_
        refine DX.takeW 5 63 (by kernel_rfl) rfl rfl rfl rfl rfl (yw_move rfl rfl) ?_
        refine DX.takeW 6 127 (by kernel_rfl) rfl rfl rfl rfl rfl (yw_index (k := i) rfl slt_36 rfl rfl (by omega) (by simp; omega) hA1) ?_
        refine DX.take 7 255 (by kernel_rfl) rfl rfl rfl rfl rfl (List.Sublist.refl _) (y_rowElem1 (i := 0) rfl rfl one_3 rfl (map_get (map_get hx0))) ?_
        refine DX.takeW 8 511 (by kernel_rfl) rfl rfl rfl rfl rfl (yw_lss rfl rfl rfl) ?_
        refine DX.know (t := 54) (u := .bool false) rfl (congrArg Value.bool (decide_eq_false (fun h => absurd h (Int.not_lt.2 hlate)))) ?_
        refine DX.done (by kernel_rfl) (XX.next (V' := [(1, _), (7, _), (8, _), (9, _), (10, _), (54, _)]) ⟨rfl, rfl, rfl, rfl, rfl, rfl, trivial⟩ ?_)
        refine CX.condF rfl ?_
        refine CX.skip (XX.inBlock (V' := [(1, _), (7, _), (8, _), (9, _), (10, _)]) ⟨rfl, rfl, rfl, rfl, rfl, trivial⟩ ?_)
        refine XX.next (V' := [(1, _), (7, _), (8, _), (9, _), (10, _)]) ⟨rfl, rfl, rfl, rfl, rfl, trivial⟩ ?_
        refine CX.region ?_
        refine RX.cons rfl rfl (op_w (yw_move rfl rfl) rfl rfl ?_)
        refine RX.cons rfl rfl (op_w (yw_add rfl rfl rfl (by omega) (by omega)) rfl rfl ?_)
        refine RX.cons rfl rfl (op_w (yw_assign rfl rfl) rfl rfl ?_)
        refine RX.nil (XX.againP ([]) (i + 1) (by omega) (by omega) ⟨rfl, rfl, rfl, rfl, rfl, trivial⟩ ((perm_pick 0 rfl).trans (List.Perm.cons _ ((perm_pick 0 rfl).trans (List.Perm.cons _ (List.Perm.refl _))))))
      · refine CX.exit ?_
        refine XX.then_exit ?_
        refine XX.then_exit ?_
        refine XX.block_exit ?_
        refine XX.next (V' := [(7, _)]) ⟨rfl, trivial⟩ ?_
        refine CX.seq ?_
        refine CX.region ?_
        refine RX.cons rfl rfl (op_w (yw_move rfl rfl) rfl rfl ?_)
        refine RX.cons rfl rfl (op_w (yw_assign rfl rfl) rfl rfl ?_)
        refine RX.nil (XX.next (V' := [(6, .bool true)]) ⟨rfl, trivial⟩ ?_)
        refine CX.ret ?_
        exact ret_tmp rfl rfl fun w1 hw => ⟨rfl, hw.sub (List.nil_sublist _)⟩
    · refine DX.step 3 63 (by kernel_rfl) rfl rfl rfl (op_appendM0 smC (i := 1) (xs := []) ls rfl rfl rfl slb_22 rfl rfl rfl rfl hr (by simp) (by simp; omega) (by simp; omega) fun A5 c5 => (DXs.mk (List.Sublist.cons _ (List.Sublist.cons _ (List.Sublist.cons _ (List.Sublist.refl _)))) ?_))
      refine DX.step 6 127 (by kernel_rfl) rfl rfl rfl (op_appendM smC (i := 1) (j := 0) (xs := ([] ++ ls)) ([s]) rfl rfl rfl slb_22 rfl rfl rfl rfl rfl rfl (by simp; omega) (by simp; omega) fun A6 c6 => (DXs.mk (List.Sublist.cons _ (List.Sublist.cons _ (List.Sublist.cons _ (List.Sublist.refl _)))) ?_))
      refine DX.step 7 255 (by kernel_rfl) rfl rfl rfl (op_callE rfl rfl rfl rfl rfl ent_19 (fun w hw => w_Judge rs (([] ++ ls) ++ [s]) (hw.rd hrR (by simp)) (Ent.rd (hw.ents _ (List.mem_of_getElem? (i := 1) rfl))) (by omega) (by simp; omega)) (fun ⟨A2, c2⟩ _ => (DXs.mk (List.Sublist.cons _ (List.Sublist.cons _ (List.Sublist.cons _ (List.Sublist.cons _ (List.Sublist.refl _))))) ?_)))
      refine DX.takeW 8 511 (by kernel_rfl) rfl rfl rfl rfl rfl (yw_assign rfl rfl) ?_
      refine DX.done (by kernel_rfl) (XX.next (V' := [(1, _), (7, _), (8, _), (9, _)]) ⟨rfl, rfl, rfl, rfl, trivial⟩ ?_)
      refine CX.seq ?_
      refine CX.seq ?_
      refine CX.region ?_
      refine RX.cons rfl rfl (op_w (yw_move rfl rfl) rfl rfl ?_)
      refine RX.cons rfl rfl (op_w (yw_lenS rfl Try.underlying36 rfl) rfl rfl ?_)
      refine RX.cons rfl rfl (op_w (yw_move rfl rfl) rfl rfl ?_)
      refine RX.cons rfl rfl (op_w (yw_lenS rfl Try.underlying22 rfl) rfl rfl ?_)
      refine RX.cons rfl rfl (op_w (yw_neq rfl rfl rfl) rfl rfl ?_)
      refine RX.know (t := 31) (u := .bool false) rfl (congrArg Value.bool (decide_eq_false (by rw [List.length_map]; omega))) ?_
      refine RX.cons rfl rfl (op_w (yw_move rfl rfl) rfl rfl ?_)
      refine RX.consG rfl rfl rfl rfl rfl (op_w (yw_move rfl rfl) rfl rfl ?_)
      refine RX.consG rfl rfl rfl rfl rfl (op_w (yw_lenS rfl Try.underlying36 rfl) rfl rfl ?_)
      refine RX.consG rfl rfl rfl rfl rfl (op_w (yw_move rfl rfl) rfl rfl ?_)
      refine RX.consG rfl rfl rfl rfl rfl (op_w (yw_lenS rfl Try.underlying22 rfl) rfl rfl ?_)
      refine RX.consG rfl rfl rfl rfl rfl (op_w (yw_add rfl rfl rfl (by omega) (by omega)) rfl rfl ?_)
      refine RX.consG rfl rfl rfl rfl rfl (op_w (yw_neq rfl rfl rfl) rfl rfl ?_)
      refine RX.know (t := 38) (u := .bool false) rfl (congrArg Value.bool (decide_eq_false (by rw [List.length_map]; simp))) ?_
      refine RX.cons rfl rfl (op_w (yw_pickF rfl rfl rfl) rfl rfl ?_)
      refine RX.nil (XX.next (V' := [(1, _), (7, _), (8, _), (9, _), (39, _)]) ⟨rfl, rfl, rfl, rfl, rfl, trivial⟩ ?_)
      refine CX.condF rfl ?_
      refine CX.skip (XX.next (V' := [(1, _), (7, _), (8, _), (9, _)]) ⟨rfl, rfl, rfl, rfl, trivial⟩ ?_)
      refine CX.seq ?_
      refine CX.seq ?_
      refine CX.region ?_
      refine RX.cons rfl rfl (op_w (yw_assign rfl rfl) rfl rfl ?_)
      refine RX.nil (XX.next (V' := [(1, _), (7, _), (8, _), (9, _), (10, _)]) ⟨rfl, rfl, rfl, rfl, rfl, trivial⟩ ?_)
      refine CX.block ?_
      refine CX.perm (L' := [.row A1 c1 3 1 (List.map iR (List.map (jud rs ls) ls)), .row A2 c2 3 1 (List.map iR (List.map (jud rs (([] ++ ls) ++ [s])) (([] ++ ls) ++ [s]))), .row (some ⟨g7, 0, none⟩) 1 24 9 (List.map smC ([s])), .row A6 c6 24 9 (List.map smC (([] ++ ls) ++ [s])), .blk g5 (.cells (smC s) 24 (0, 0))]) ((perm_pick 3 rfl).trans (List.Perm.cons _ ((perm_pick 0 rfl).trans (List.Perm.cons _ (List.Perm.refl _))))) ?_
      refine CX.drop (L' := [.row A1 c1 3 1 (List.map iR (List.map (jud rs ls) ls)), .row A2 c2 3 1 (List.map iR (List.map (jud rs (([] ++ ls) ++ [s])) (([] ++ ls) ++ [s])))]) (List.Sublist.cons_cons _ (List.Sublist.cons_cons _ (List.nil_sublist _))) ?_
      refine CX.loop (σ := Nat) (fun i => [(1, .slice A ls.length cap), (7, .bool true), (8, .slice A1 (List.length ((List.map (jud rs ls) ls) : List Int)) c1), (9, .slice A2 (List.length ((List.map (jud rs (([] ++ ls) ++ [s])) (([] ++ ls) ++ [s])) : List Int)) c2), (10, .int .i64 ((i : Nat) : Int))]) (fun i => [.row A1 c1 3 1 (List.map iR (List.map (jud rs ls) ls)), .row A2 c2 3 1 (List.map iR (List.map (jud rs (([] ++ ls) ++ [s])) (([] ++ ls) ++ [s])))]) (fun i => i ≤ ls.length) (fun i => ls.length - i) 0 (Nat.zero_le _) ⟨rfl, rfl, rfl, rfl, rfl, trivial⟩ rfl (fun i hI => ?_)
      have hi := hI
      refine CX.seq ?_
      refine CX.seq ?_
      refine CX.region ?_
      refine RX.cons rfl rfl (op_w (yw_move rfl rfl) rfl rfl ?_)
      refine RX.cons rfl rfl (op_w (yw_move rfl rfl) rfl rfl ?_)
      refine RX.cons rfl rfl (op_w (yw_lenS rfl Try.underlying22 rfl) rfl rfl ?_)
      refine RX.cons rfl rfl (op_w (yw_lss rfl rfl rfl) rfl rfl ?_)
      refine RX.nil (XX.next (V' := [(1, _), (7, _), (8, _), (9, _), (10, _), (43, _)]) ⟨rfl, rfl, rfl, rfl, rfl, rfl, trivial⟩ ?_)
      refine CX.condD (p := ((i : Nat) : Int) < ((ls.length : Nat) : Int)) rfl (fun c43 => ?_) (fun c43 => ?_)
      · obtain ⟨x0, hx0⟩ := get_some (l := ls) (k := i) (by omega)
        have hx0m := List.mem_of_getElem? hx0
        have hx2 : (([] ++ ls) ++ [s])[i]? = some x0 := by rw [List.getElem?_append_left (by simp; omega)]; simpa using hx0
        have hlate := jud_late rs ls s x0
        refine CX.rowSome 0 rfl (by simp <;> omega) (fun hA1 => ?_)
        refine CX.rowSome 1 rfl (by simp <;> omega) (fun hA2 => ?_)
        refine CX.skip (XX.next (V' := [(1, _), (7, _), (8, _), (9, _), (10, _)]) ⟨rfl, rfl, rfl, rfl, rfl, trivial⟩ ?_)
        refine CX.seq ?_
        refine CX.block ?_
        refine CX.seq ?_
        refine CX.draw 9 [(0, 512, 70368744177664), (0, 1024, 140737488355328), (3, 211106232532992, 281474976710656), (4, 281474976710656, 562949953421312), (0, 256, 1125899906842624), (0, 1024, 2251799813685248), (48, 3377699720527872, 4503599627370496), (64, 4503599627370496, 9007199254740992), (136, 9570149208162304, 18014398509481984)] (by kernel_rfl) (by kernel_rfl) (by kernel_rfl) ?_
        refine DX.takeW 0 1 (by kernel_rfl) rfl rfl rfl rfl rfl (yw_move rfl rfl) ?_
        refine DX.takeW 1 3 (by kernel_rfl) rfl rfl rfl rfl rfl (yw_move rfl rfl) ?_
        refine DX.takeW 2 7 (by kernel_rfl) rfl rfl rfl rfl rfl (yw_index (k := i) rfl slt_36 rfl rfl (by omega) (by simp; omega) hA2) ?_
        refine DX.take 3 15 (by kernel_rfl) rfl rfl rfl rfl rfl (List.Sublist.refl _) (y_rowElem1 (i := 1) rfl rfl one_3 rfl (map_get (map_get hx2))) ?_
        refine DX.takeW 4 31 (by kernel_rfl) rfl rfl rfl rfl rfl (yw_move rfl rfl) ?_
        refine DX.takeW 5 63 (by kernel_rfl) rfl rfl rfl rfl rfl (yw_move rfl rfl) ?_
        refine DX.takeW 6 127 (by kernel_rfl) rfl rfl rfl rfl rfl (yw_index (k := i) rfl slt_36 rfl rfl (by omega) (by simp; omega) hA1) ?_
        refine DX.take 7 255 (by kernel_rfl) rfl rfl rfl rfl rfl (List.Sublist.refl _) (y_rowElem1 (i := 0) rfl rfl one_3 rfl (map_get (map_get hx0))) ?_
        refine DX.takeW 8 511 (by kernel_rfl) rfl rfl rfl rfl rfl (yw_lss rfl rfl rfl) ?_
        refine DX.know (t := 54) (u := .bool false) rfl (congrArg Value.bool (decide_eq_false (fun h => absurd h (Int.not_lt.2 hlate)))) ?_
        refine DX.done (by kernel_rfl) (XX.next (V' := [(1, _), (7, _), (8, _), (9, _), (10, _), (54, _)]) ⟨rfl, rfl, rfl, rfl, rfl, rfl, trivial⟩ ?_)
        refine CX.condF rfl ?_
        refine CX.skip (XX.inBlock (V' := [(1, _), (7, _), (8, _), (9, _), (10, _)]) ⟨rfl, rfl, rfl, rfl, rfl, trivial⟩ ?_)
        refine XX.next (V' := [(1, _), (7, _), (8, _), (9, _), (10, _)]) ⟨rfl, rfl, rfl, rfl, rfl, trivial⟩ ?_
        refine CX.region ?_
        refine RX.cons rfl rfl (op_w (yw_move rfl rfl) rfl rfl ?_)
        refine RX.cons rfl rfl (op_w (yw_add rfl rfl rfl (by omega) (by omega)) rfl rfl ?_)
        refine RX.cons rfl rfl (op_w (yw_assign rfl rfl) rfl rfl ?_)
        refine RX.nil (XX.againP ([]) (i + 1) (by omega) (by omega) ⟨rfl, rfl, rfl, rfl, rfl, trivial⟩ ((perm_pick 0 rfl).trans (List.Perm.cons _ ((perm_pick 0 rfl).trans (List.Perm.cons _ (List.Perm.refl _))))))
      · refine CX.exit ?_
        refine XX.then_exit ?_
        refine XX.then_exit ?_
        refine XX.block_exit ?_
        refine XX.next (V' := [(7, _)]) ⟨rfl, trivial⟩ ?_
        refine CX.seq ?_
        refine CX.region ?_
        refine RX.cons rfl rfl (op_w (yw_move rfl rfl) rfl rfl ?_)
        refine RX.cons rfl rfl (op_w (yw_assign rfl rfl) rfl rfl ?_)
        refine RX.nil (XX.next (V' := [(6, .bool true)]) ⟨rfl, trivial⟩ ?_)
        refine CX.ret ?_
        exact ret_tmp rfl rfl fun w1 hw => ⟨rfl, hw.sub (List.nil_sublist _)⟩
  · refine DX.step 1 55 (by kernel_rfl) rfl rfl rfl (op_buildSlice rfl rfl rfl slb_22 rfl rfl (by intro v hv; simp at hv) (by decide) fun sr => (DXs.mk (List.Sublist.cons _ (List.Sublist.cons _ (List.Sublist.cons _ (List.Sublist.refl _)))) ?_))
    refine DX.step 3 63 (by kernel_rfl) rfl rfl rfl (op_appendM0 smC (i := 0) (xs := []) ls rfl rfl rfl slb_22 rfl rfl rfl rfl hr (by simp) (by simp; omega) (by simp; omega) fun A5 c5 => (DXs.mk (List.Sublist.cons _ (List.Sublist.cons _ (List.Sublist.cons _ (List.Sublist.refl _)))) ?_))
    refine DX.step 6 127 (by kernel_rfl) rfl rfl rfl (op_appendM smC (i := 0) (j := 1) (xs := ([] ++ ls)) ([s]) rfl rfl rfl slb_22 rfl rfl rfl rfl rfl rfl (by simp; omega) (by simp; omega) fun A6 c6 => (DXs.mk (List.Sublist.cons _ (List.Sublist.cons _ (List.Sublist.cons _ (List.Sublist.refl _)))) ?_))
    refine DX.step 7 255 (by kernel_rfl) rfl rfl rfl (op_callE rfl rfl rfl rfl rfl ent_19 (fun w hw => w_Judge rs (([] ++ ls) ++ [s]) (hw.rd hrR (by simp)) (Ent.rd (hw.ents _ (List.mem_of_getElem? (i := 0) rfl))) (by omega) (by simp; omega)) (fun ⟨A2, c2⟩ _ => (DXs.mk (List.Sublist.cons _ (List.Sublist.cons _ (List.Sublist.cons _ (List.Sublist.cons _ (List.Sublist.refl _))))) ?_)))
    refine DX.takeW 8 511 (by kernel_rfl) rfl rfl rfl rfl rfl (yw_assign rfl rfl) ?_
    refine DX.done (by kernel_rfl) (XX.next (V' := [(1, _), (7, _), (8, _), (9, _)]) ⟨rfl, rfl, rfl, rfl, trivial⟩ ?_)
    refine CX.seq ?_
    refine CX.seq ?_
    refine CX.region ?_
    refine RX.cons rfl rfl (op_w (yw_move rfl rfl) rfl rfl ?_)
    refine RX.cons rfl rfl (op_w (yw_lenS rfl Try.underlying36 rfl) rfl rfl ?_)
    refine RX.cons rfl rfl (op_w (yw_move rfl rfl) rfl rfl ?_)
    refine RX.cons rfl rfl (op_w (yw_lenS rfl Try.underlying22 rfl) rfl rfl ?_)
    refine RX.cons rfl rfl (op_w (yw_neq rfl rfl rfl) rfl rfl ?_)
    refine RX.know (t := 31) (u := .bool false) rfl (congrArg Value.bool (decide_eq_false (by rw [List.length_map]; omega))) ?_
    refine RX.cons rfl rfl (op_w (yw_move rfl rfl) rfl rfl ?_)
    refine RX.consG rfl rfl rfl rfl rfl (op_w (yw_move rfl rfl) rfl rfl ?_)
    refine RX.consG rfl rfl rfl rfl rfl (op_w (yw_lenS rfl Try.underlying36 rfl) rfl rfl ?_)
    refine RX.consG rfl rfl rfl rfl rfl (op_w (yw_move rfl rfl) rfl rfl ?_)
    refine RX.consG rfl rfl rfl rfl rfl (op_w (yw_lenS rfl Try.underlying22 rfl) rfl rfl ?_)
    refine RX.consG rfl rfl rfl rfl rfl (op_w (yw_add rfl rfl rfl (by omega) (by omega)) rfl rfl ?_)
    refine RX.consG rfl rfl rfl rfl rfl (op_w (yw_neq rfl rfl rfl) rfl rfl ?_)
    refine RX.know (t := 38) (u := .bool false) rfl (congrArg Value.bool (decide_eq_false (by rw [List.length_map]; simp))) ?_
    refine RX.cons rfl rfl (op_w (yw_pickF rfl rfl rfl) rfl rfl ?_)
    refine RX.nil (XX.next (V' := [(1, _), (7, _), (8, _), (9, _), (39, _)]) ⟨rfl, rfl, rfl, rfl, rfl, trivial⟩ ?_)
    refine CX.condF rfl ?_
    refine CX.skip (XX.next (V' := [(1, _), (7, _), (8, _), (9, _)]) ⟨rfl, rfl, rfl, rfl, trivial⟩ ?_)
    refine CX.seq ?_
    refine CX.seq ?_
    refine CX.region ?_
    refine RX.cons rfl rfl (op_w (yw_assign rfl rfl) rfl rfl ?_)
    refine RX.nil (XX.next (V' := [(1, _), (7, _), (8, _), (9, _), (10, _)]) ⟨rfl, rfl, rfl, rfl, rfl, trivial⟩ ?_)
    refine CX.block ?_
    refine CX.perm (L' := [.row A1 c1 3 1 (List.map iR (List.map (jud rs ls) ls)), .row A2 c2 3 1 (List.map iR (List.map (jud rs (([] ++ ls) ++ [s])) (([] ++ ls) ++ [s]))), .row A6 c6 24 9 (List.map smC (([] ++ ls) ++ [s])), .row (some ⟨g7, 0, none⟩) 1 24 9 (List.map smC ([s])), .blk g5 (.cells (smC s) 24 (0, 0))]) ((perm_pick 3 rfl).trans (List.Perm.cons _ ((perm_pick 0 rfl).trans (List.Perm.cons _ (List.Perm.refl _))))) ?_
    refine CX.drop (L' := [.row A1 c1 3 1 (List.map iR (List.map (jud rs ls) ls)), .row A2 c2 3 1 (List.map iR (List.map (jud rs (([] ++ ls) ++ [s])) (([] ++ ls) ++ [s])))]) (List.Sublist.cons_cons _ (List.Sublist.cons_cons _ (List.nil_sublist _))) ?_
    refine CX.loop (σ := Nat) (fun i => [(1, .slice A ls.length cap), (7, .bool true), (8, .slice A1 (List.length ((List.map (jud rs ls) ls) : List Int)) c1), (9, .slice A2 (List.length ((List.map (jud rs (([] ++ ls) ++ [s])) (([] ++ ls) ++ [s])) : List Int)) c2), (10, .int .i64 ((i : Nat) : Int))]) (fun i => [.row A1 c1 3 1 (List.map iR (List.map (jud rs ls) ls)), .row A2 c2 3 1 (List.map iR (List.map (jud rs (([] ++ ls) ++ [s])) (([] ++ ls) ++ [s])))]) (fun i => i ≤ ls.length) (fun i => ls.length - i) 0 (Nat.zero_le _) ⟨rfl, rfl, rfl, rfl, rfl, trivial⟩ rfl (fun i hI => ?_)
    have hi := hI
    refine CX.seq ?_
    refine CX.seq ?_
    refine CX.region ?_
    refine RX.cons rfl rfl (op_w (yw_move rfl rfl) rfl rfl ?_)
    refine RX.cons rfl rfl (op_w (yw_move rfl rfl) rfl rfl ?_)
    refine RX.cons rfl rfl (op_w (yw_lenS rfl Try.underlying22 rfl) rfl rfl ?_)
    refine RX.cons rfl rfl (op_w (yw_lss rfl rfl rfl) rfl rfl ?_)
    refine RX.nil (XX.next (V' := [(1, _), (7, _), (8, _), (9, _), (10, _), (43, _)]) ⟨rfl, rfl, rfl, rfl, rfl, rfl, trivial⟩ ?_)
    refine CX.condD (p := ((i : Nat) : Int) < ((ls.length : Nat) : Int)) rfl (fun c43 => ?_) (fun c43 => ?_)
    · obtain ⟨x0, hx0⟩ := get_some (l := ls) (k := i) (by omega)
      have hx0m := List.mem_of_getElem? hx0
      have hx2 : (([] ++ ls) ++ [s])[i]? = some x0 := by rw [List.getElem?_append_left (by simp; omega)]; simpa using hx0
      have hlate := jud_late rs ls s x0
      refine CX.rowSome 0 rfl (by simp <;> omega) (fun hA1 => ?_)
      refine CX.rowSome 1 rfl (by simp <;> omega) (fun hA2 => ?_)
      refine CX.skip (XX.next (V' := [(1, _), (7, _), (8, _), (9, _), (10, _)]) ⟨rfl, rfl, rfl, rfl, rfl, trivial⟩ ?_)
      refine CX.seq ?_
      refine CX.block ?_
      refine CX.seq ?_
      refine CX.draw 9 [(0, 512, 70368744177664), (0, 1024, 140737488355328), (3, 211106232532992, 281474976710656), (4, 281474976710656, 562949953421312), (0, 256, 1125899906842624), (0, 1024, 2251799813685248), (48, 3377699720527872, 4503599627370496), (64, 4503599627370496, 9007199254740992), (136, 9570149208162304, 18014398509481984)] (by kernel_rfl) (by kernel_rfl) (by kernel_rfl) ?_
      refine DX.takeW 0 1 (by kernel_rfl) rfl rfl rfl rfl rfl (yw_move rfl rfl) ?_
      refine DX.takeW 1 3 (by kernel_rfl) rfl rfl rfl rfl rfl (yw_move rfl rfl) ?_
      refine DX.takeW 2 7 (by kernel_rfl) rfl rfl rfl rfl rfl (yw_index (k := i) rfl slt_36 rfl rfl (by omega) (by simp; omega) hA2) ?_
      refine DX.take 3 15 (by kernel_rfl) rfl rfl rfl rfl rfl (List.Sublist.refl _) (y_rowElem1 (i := 1) rfl rfl one_3 rfl (map_get (map_get hx2))) ?_
      refine DX.takeW 4 31 (by kernel_rfl) rfl rfl rfl rfl rfl (yw_move rfl rfl) ?_
      refine DX.takeW 5 63 (by kernel_rfl) rfl rfl rfl rfl rfl (yw_move rfl rfl) ?_
      refine DX.takeW 6 127 (by kernel_rfl) rfl rfl rfl rfl rfl (yw_index (k := i) rfl slt_36 rfl rfl (by omega) (by simp; omega) hA1) ?_
      refine DX.take 7 255 (by kernel_rfl) rfl rfl rfl rfl rfl (List.Sublist.refl _) (y_rowElem1 (i := 0) rfl rfl one_3 rfl (map_get (map_get hx0))) ?_
      refine DX.takeW 8 511 (by kernel_rfl) rfl rfl rfl rfl rfl (yw_lss rfl rfl rfl) ?_
      refine DX.know (t := 54) (u := .bool false) rfl (congrArg Value.bool (decide_eq_false (fun h => absurd h (Int.not_lt.2 hlate)))) ?_
      refine DX.done (by kernel_rfl) (XX.next (V' := [(1, _), (7, _), (8, _), (9, _), (10, _), (54, _)]) ⟨rfl, rfl, rfl, rfl, rfl, rfl, trivial⟩ ?_)
      refine CX.condF rfl ?_
      refine CX.skip (XX.inBlock (V' := [(1, _), (7, _), (8, _), (9, _), (10, _)]) ⟨rfl, rfl, rfl, rfl, rfl, trivial⟩ ?_)
      refine XX.next (V' := [(1, _), (7, _), (8, _), (9, _), (10, _)]) ⟨rfl, rfl, rfl, rfl, rfl, trivial⟩ ?_
      refine CX.region ?_
      refine RX.cons rfl rfl (op_w (yw_move rfl rfl) rfl rfl ?_)
      refine RX.cons rfl rfl (op_w (yw_add rfl rfl rfl (by omega) (by omega)) rfl rfl ?_)
      refine RX.cons rfl rfl (op_w (yw_assign rfl rfl) rfl rfl ?_)
      refine RX.nil (XX.againP ([]) (i + 1) (by omega) (by omega) ⟨rfl, rfl, rfl, rfl, rfl, trivial⟩ ((perm_pick 0 rfl).trans (List.Perm.cons _ ((perm_pick 0 rfl).trans (List.Perm.cons _ (List.Perm.refl _))))))
    · refine CX.exit ?_
      refine XX.then_exit ?_
      refine XX.then_exit ?_
      refine XX.block_exit ?_
      refine XX.next (V' := [(7, _)]) ⟨rfl, trivial⟩ ?_
      refine CX.seq ?_
      refine CX.region ?_
      refine RX.cons rfl rfl (op_w (yw_move rfl rfl) rfl rfl ?_)
      refine RX.cons rfl rfl (op_w (yw_assign rfl rfl) rfl rfl ?_)
      refine RX.nil (XX.next (V' := [(6, .bool true)]) ⟨rfl, trivial⟩ ?_)
      refine CX.ret ?_
      exact ret_tmp rfl rfl fun w1 hw => ⟨rfl, hw.sub (List.nil_sublist _)⟩

end Go.Proofs.Ytpcfgoadkfajfaa
