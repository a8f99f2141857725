/- Walks, printed by a program. -/
import Derived.Test.YtpcfgoadkfajfaaKGN
import Derived.Test.YtpcfgoadkfajfaaKLaws11
namespace Go.Proofs.Ytpcfgoadkfajfaa
set_option linter.all false
open Go Go.RowKit
set_option maxRecDepth 100000
theorem ent_17 : ∀ args w, (callFunc 17 args).run Try.prog w = .ok (.enter 17 args) w := enters_of Try.func17 (by kernel_rfl) rfl
set_option maxRecDepth 100000 in
theorem w_lawRu {w : World} {AR : Option Addr} {capR : Nat} (rs0 : List Ru) (hrR0 : Rd w AR 4 (rs0.map ruC)) (hcR : rs0.length ≤ capR) (h8R : rs0.length ≤ 9223372036854775807) {A : Option Addr} {cap : Nat} (ls0 : List Sm) (hr0 : Rd w A 9 (ls0.map smC)) (hc0 : ls0.length ≤ cap) (h80 : ls0.length ≤ 9223372036854775807) (r : Ru) :
    Calls Try.prog 6 #[.slice AR rs0.length capR, .slice A ls0.length cap, .agg (ruC r)] w (fun e w' => e = .returned (.bool true) ∧ SL w [] w' []) := by
  obtain ⟨rs, hrs⟩ : ∃ rs, rs = rs0.take 12 := ⟨_, rfl⟩
  have hrR : Rd w AR 4 (rs.map ruC) := by rw [hrs]; exact hrR0.takeM 12
  have hminR : min rs0.length 12 = rs.length := by rw [hrs, List.length_take]; omega
  have hr12 : rs.length ≤ 12 := by omega
  have hlR : rs.length ≤ 1000000 := by omega
  obtain ⟨ls, hls⟩ : ∃ ls, ls = ls0.take 40 := ⟨_, rfl⟩
  have hr : Rd w A 9 (ls.map smC) := by rw [hls]; exact hr0.takeM 40
  have hmin : min ls0.length 40 = ls.length := by rw [hls, List.length_take]; omega
  have hl40 : ls.length ≤ 40 := by omega
  have hl : ls.length ≤ 100000 := by omega
  refine calls_of_CX (O := []) (L := []) (args := [.slice AR rs0.length capR, .slice A ls0.length cap, .agg (ruC r)]) Try.func6 rfl (by simp [Try.ntmps6]) (SL.refl w) ?_
  refine CX.sub (V' := [(0, .slice AR rs0.length capR), (1, .slice A ls0.length cap), (2, .agg (ruC r))]) ⟨rfl, rfl, rfl, trivial⟩ ?_
  refine CX.seq ?_
  refine CX.region ?_
  refine RX.cons rfl rfl (op_box rfl rfl rfl rfl fun g5 => ?_)
  refine RX.cons rfl rfl (op_w (yw_assign rfl rfl) rfl rfl ?_)
  refine RX.nil (XX.next (V' := [(0, _), (1, _), (5, _)]) ⟨rfl, rfl, rfl, trivial⟩ ?_)
  refine CX.seq ?_
  refine CX.region ?_
  refine RX.cons rfl rfl (op_callV (v := .bool true) rfl rfl rfl rfl rfl ent_12 (fun w hw => w_sane) ?_)
  refine RX.cons rfl rfl (op_w (yw_assign rfl rfl) rfl rfl ?_)
  refine RX.nil (XX.next (V' := [(0, _), (1, _), (5, _), (7, _)]) ⟨rfl, rfl, rfl, rfl, trivial⟩ ?_)
  refine CX.seq ?_
  refine CX.region ?_
  refine RX.cons rfl rfl (op_w (yw_move rfl rfl) rfl rfl ?_)
  refine RX.cons rfl rfl (op_callV (v := .slice AR rs.length capR) rfl rfl rfl rfl rfl ent_17 (fun w hw => w_shortE rs0.length hminR hcR h8R) ?_)
  refine RX.cons rfl rfl (op_w (yw_assign rfl rfl) rfl rfl ?_)
  refine RX.nil (XX.next (V' := [(0, _), (1, _), (5, _), (7, _)]) ⟨rfl, rfl, rfl, rfl, trivial⟩ ?_)
  refine CX.seq ?_
  refine CX.region ?_
  refine RX.cons rfl rfl (op_w (yw_move rfl rfl) rfl rfl ?_)
  refine RX.cons rfl rfl (op_callV (v := .slice A ls.length cap) rfl rfl rfl rfl rfl ent_13 (fun w hw => w_fewE ls0.length hmin hc0 h80) ?_)
  refine RX.cons rfl rfl (op_w (yw_assign rfl rfl) rfl rfl ?_)
  refine RX.nil (XX.next (V' := [(0, _), (1, _), (5, _), (7, _)]) ⟨rfl, rfl, rfl, rfl, trivial⟩ ?_)
  refine CX.seq ?_
  refine CX.region ?_
  refine RX.cons rfl rfl (op_w (yw_move rfl rfl) rfl rfl ?_)
  refine RX.cons rfl rfl (op_w (yw_move rfl rfl) rfl rfl ?_)
  refine RX.cons rfl rfl (op_callE rfl rfl rfl rfl rfl ent_19 (fun w hw => w_Judge rs ls (hw.rd hrR (by simp)) (hw.rd hr (by simp)) (by omega) (by omega)) (fun ⟨A1, c1⟩ _ => ?_))
  refine RX.cons rfl rfl (op_w (yw_assign rfl rfl) rfl rfl ?_)
  refine RX.nil (XX.next (V' := [(0, _), (1, _), (5, _), (7, _), (8, _)]) ⟨rfl, rfl, rfl, rfl, rfl, trivial⟩ ?_)
  refine CX.cut (σ := Option Addr × Nat) (fun zc => [(0, .slice AR rs.length capR), (1, .slice A ls.length cap), (5, .pointer (some ⟨g5, 0, none⟩)), (7, .bool true), (8, .slice A1 (List.length ((List.map (jud rs ls) ls) : List Int)) c1), (9, .slice zc.1 (List.length ((List.map (jud (([] ++ rs) ++ [r]) ls) ls) : List Int)) zc.2)]) (fun zc => [.row zc.1 zc.2 3 1 (List.map iR (List.map (jud (([] ++ rs) ++ [r]) ls) ls)), .row A1 c1 3 1 (List.map iR (List.map (jud rs ls) ls)), .blk g5 (.cells (ruC r) 44 (0, 0))]) (fun zc => True) ?_ (fun zc _ => ?_)
  · refine CX.drawL 8 ([.blk g5 (.cells (ruC r) 44 (0, 0))]) [(0, 0, 8388608), (0, 1, 16777216), (3, 25165824, 33554432), (0, 32, 67108864), (8, 67108864, 134217728), (20, 167772160, 268435456), (0, 2, 536870912), (96, 805306368, 1073741824), (255, 1073741824, 512)] (by kernel_rfl) (by kernel_rfl) (by kernel_rfl) ?_
    refine DX.takeW 1 2 (by kernel_rfl) rfl rfl rfl rfl rfl (yw_move rfl rfl) ?_
    refine DX.take 3 10 (by kernel_rfl) rfl rfl rfl rfl rfl (List.Sublist.cons _ (List.Sublist.refl _)) (y_loadA (i := 0) rfl rfl agg_44 rfl rfl) ?_
    refine DX.takeW 6 74 (by kernel_rfl) rfl rfl rfl rfl rfl (yw_move rfl rfl) ?_
    refine DX.step2 0 4 75 90 (by kernel_rfl) rfl rfl rfl rfl rfl rfl (op_buildSlice rfl rfl rfl slb_30 rfl rfl (by intro v hv; simp at hv) (by decide) fun rr => (DXs.mk (List.Sublist.cons _ (List.Sublist.cons _ (List.Sublist.refl _))) ?_)) (op_buildSlice rfl rfl rfl slb_30 rfl rfl (by intro v hv; simp only [List.mem_cons, List.not_mem_nil, or_false] at hv; subst hv; exact ⟨rfl, (plain_of rfl)⟩) (by decide) fun g6 => (DXs.mk (List.Sublist.cons _ (List.Sublist.cons _ (List.Sublist.refl _))) ?_))
    · refine DX.step2 2 4 79 91 (by kernel_rfl) rfl rfl rfl rfl rfl rfl (op_appendM0 ruC (i := 0) (xs := []) rs rfl rfl rfl slb_30 rfl rfl rfl rfl hrR (by simp) (by simp; omega) (by simp; omega) fun A5 c5 => (DXs.mk (List.Sublist.cons _ (List.Sublist.cons _ (List.Sublist.refl _))) ?_)) (op_buildSlice rfl rfl rfl slb_30 rfl rfl (by intro v hv; simp only [List.mem_cons, List.not_mem_nil, or_false] at hv; subst hv; exact ⟨rfl, (plain_of rfl)⟩) (by decide) fun g6 => (DXs.mk (List.Sublist.cons _ (List.Sublist.cons _ (List.Sublist.cons _ (List.Sublist.refl _)))) ?_))
      · refine DX.step 4 95 (by kernel_rfl) rfl rfl rfl (op_buildSlice rfl rfl rfl slb_30 rfl rfl (by intro v hv; simp only [List.mem_cons, List.not_mem_nil, or_false] at hv; subst hv; exact ⟨rfl, (plain_of rfl)⟩) (by decide) fun g6 => (DXs.mk (List.Sublist.cons _ (List.Sublist.cons _ (List.Sublist.cons _ (List.Sublist.refl _)))) ?_))
        refine DX.step 5 127 (by kernel_rfl) rfl rfl rfl (op_appendM ruC (i := 1) (j := 0) (xs := ([] ++ rs)) ([r]) rfl rfl rfl slb_30 rfl rfl rfl rfl rfl rfl (by simp; omega) (by simp; omega) fun A6 c6 => (DXs.mk (List.Sublist.cons _ (List.Sublist.cons _ (List.Sublist.cons _ (List.Sublist.refl _)))) ?_))
        refine DX.step 7 255 (by kernel_rfl) rfl rfl rfl (op_callE rfl rfl rfl rfl rfl ent_19 (fun w hw => w_Judge (([] ++ rs) ++ [r]) ls (Ent.rd (hw.ents _ (List.mem_of_getElem? (i := 1) rfl))) (hw.rd hr (by simp)) (by simp; omega) (by omega)) (fun ⟨A2, c2⟩ _ => (DXs.mk (List.Sublist.cons _ (List.Sublist.cons _ (List.Sublist.cons _ (List.Sublist.cons _ (List.Sublist.refl _))))) ?_)))
        refine DX.takeW 8 511 (by kernel_rfl) rfl rfl rfl rfl rfl (yw_assign rfl rfl) ?_
        refine DX.done (by kernel_rfl) (XX.meetP ([.row (some ⟨g6, 0, none⟩) 1 44 4 (List.map ruC ([r])), .row A6 c6 44 4 (List.map ruC (([] ++ rs) ++ [r]))]) (A2, c2) trivial ⟨rfl, rfl, rfl, rfl, rfl, rfl, trivial⟩ ((perm_pick 0 rfl).trans (List.Perm.cons _ ((perm_pick 2 rfl).trans (List.Perm.cons _ ((perm_pick 2 rfl).trans (List.Perm.cons _ (List.Perm.refl _))))))))
      · refine DX.step 2 95 (by kernel_rfl) rfl rfl rfl (op_appendM0 ruC (i := 1) (xs := []) rs rfl rfl rfl slb_30 rfl rfl rfl rfl hrR (by simp) (by simp; omega) (by simp; omega) fun A5 c5 => (DXs.mk (List.Sublist.cons _ (List.Sublist.cons _ (List.Sublist.cons _ (List.Sublist.refl _)))) ?_))
        refine DX.step 5 127 (by kernel_rfl) rfl rfl rfl (op_appendM ruC (i := 1) (j := 0) (xs := ([] ++ rs)) ([r]) rfl rfl rfl slb_30 rfl rfl rfl rfl rfl rfl (by simp; omega) (by simp; omega) fun A6 c6 => (DXs.mk (List.Sublist.cons _ (List.Sublist.cons _ (List.Sublist.cons _ (List.Sublist.refl _)))) ?_))
        refine DX.step 7 255 (by kernel_rfl) rfl rfl rfl (op_callE rfl rfl rfl rfl rfl ent_19 (fun w hw => w_Judge (([] ++ rs) ++ [r]) ls (Ent.rd (hw.ents _ (List.mem_of_getElem? (i := 1) rfl))) (hw.rd hr (by simp)) (by simp; omega) (by omega)) (fun ⟨A2, c2⟩ _ => (DXs.mk (List.Sublist.cons _ (List.Sublist.cons _ (List.Sublist.cons _ (List.Sublist.cons _ (List.Sublist.refl _))))) ?_)))
        refine DX.takeW 8 511 (by kernel_rfl) rfl rfl rfl rfl rfl (yw_assign rfl rfl) ?_
        refine DX.done (by kernel_rfl) (XX.meetP ([.row (some ⟨g6, 0, none⟩) 1 44 4 (List.map ruC ([r])), .row A6 c6 44 4 (List.map ruC (([] ++ rs) ++ [r]))]) (A2, c2) trivial ⟨rfl, rfl, rfl, rfl, rfl, rfl, trivial⟩ ((perm_pick 0 rfl).trans (List.Perm.cons _ ((perm_pick 2 rfl).trans (List.Perm.cons _ ((perm_pick 2 rfl).trans (List.Perm.cons _ (List.Perm.refl _))))))))
    · refine DX.step 0 91 (by kernel_rfl) rfl rfl rfl (op_buildSlice rfl rfl rfl slb_30 rfl rfl (by intro v hv; simp at hv) (by decide) fun rr => (DXs.mk (List.Sublist.cons _ (List.Sublist.cons _ (List.Sublist.cons _ (List.Sublist.refl _)))) ?_))
      refine DX.step 2 95 (by kernel_rfl) rfl rfl rfl (op_appendM0 ruC (i := 0) (xs := []) rs rfl rfl rfl slb_30 rfl rfl rfl rfl hrR (by simp) (by simp; omega) (by simp; omega) fun A5 c5 => (DXs.mk (List.Sublist.cons _ (List.Sublist.cons _ (List.Sublist.cons _ (List.Sublist.refl _)))) ?_))
      refine DX.step 5 127 (by kernel_rfl) rfl rfl rfl (op_appendM ruC (i := 0) (j := 1) (xs := ([] ++ rs)) ([r]) rfl rfl rfl slb_30 rfl rfl rfl rfl rfl rfl (by simp; omega) (by simp; omega) fun A6 c6 => (DXs.mk (List.Sublist.cons _ (List.Sublist.cons _ (List.Sublist.cons _ (List.Sublist.refl _)))) ?_))
      refine DX.step 7 255 (by kernel_rfl) rfl rfl rfl (op_callE rfl rfl rfl rfl rfl ent_19 (fun w hw => w_Judge (([] ++ rs) ++ [r]) ls (Ent.rd (hw.ents _ (List.mem_of_getElem? (i := 0) rfl))) (hw.rd hr (by simp)) (by simp; omega) (by omega)) (fun ⟨A2, c2⟩ _ => (DXs.mk (List.Sublist.cons _ (List.Sublist.cons _ (List.Sublist.cons _ (List.Sublist.cons _ (List.Sublist.refl _))))) ?_)))
      refine DX.takeW 8 511 (by kernel_rfl) rfl rfl rfl rfl rfl (yw_assign rfl rfl) ?_
      refine DX.done (by kernel_rfl) (XX.meetP ([.row A6 c6 44 4 (List.map ruC (([] ++ rs) ++ [r])), .row (some ⟨g6, 0, none⟩) 1 44 4 (List.map ruC ([r]))]) (A2, c2) trivial ⟨rfl, rfl, rfl, rfl, rfl, rfl, trivial⟩ ((perm_pick 0 rfl).trans (List.Perm.cons _ ((perm_pick 2 rfl).trans (List.Perm.cons _ ((perm_pick 2 rfl).trans (List.Perm.cons _ (List.Perm.refl _))))))))
  · refine CX.seq ?_
    refine CX.region ?_
    refine RX.cons rfl rfl (op_buildSlice rfl rfl rfl slb_30 rfl rfl (by intro v hv; simp at hv) (by decide) fun er => ?_)
    refine RX.cons rfl rfl (op_w (yw_move rfl rfl) rfl rfl ?_)
    refine RX.cons rfl rfl (op_appendM0 ruC (i := 0) (xs := []) rs rfl rfl rfl slb_30 rfl rfl rfl rfl hrR (by simp) (by simp; omega) (by simp; omega) fun A7 c7 => ?_)
    refine RX.cons rfl rfl (op_w (yw_assign rfl rfl) rfl rfl ?_)
    refine RX.nil (XX.next (V' := [(1, _), (5, _), (7, _), (8, _), (9, _), (10, _)]) ⟨rfl, rfl, rfl, rfl, rfl, rfl, trivial⟩ ?_)
    refine CX.seq ?_
    refine CX.region ?_
    refine RX.cons rfl rfl (op_w (yw_assign rfl rfl) rfl rfl ?_)
    refine RX.nil (XX.next (V' := [(1, _), (5, _), (7, _), (8, _), (9, _), (10, _), (11, _)]) ⟨rfl, rfl, rfl, rfl, rfl, rfl, rfl, trivial⟩ ?_)
    refine CX.seq ?_
    refine CX.seq ?_
    refine CX.region ?_
    refine RX.cons rfl rfl (op_w (yw_assign rfl rfl) rfl rfl ?_)
    refine RX.nil (XX.next (V' := [(1, _), (5, _), (7, _), (8, _), (9, _), (10, _), (11, _), (12, _)]) ⟨rfl, rfl, rfl, rfl, rfl, rfl, rfl, rfl, trivial⟩ ?_)
    refine CX.block ?_
    refine CX.perm (L' := [.row A7 c7 44 4 (List.map ruC ([] ++ rs)), .row A1 c1 3 1 (List.map iR (List.map (jud rs ls) ls)), .row zc.1 zc.2 3 1 (List.map iR (List.map (jud (([] ++ rs) ++ [r]) ls) ls)), .blk g5 (.cells (ruC r) 44 (0, 0))]) ((perm_pick 0 rfl).trans (List.Perm.cons _ ((perm_pick 1 rfl).trans (List.Perm.cons _ ((perm_pick 0 rfl).trans (List.Perm.cons _ ((perm_pick 0 rfl).trans (List.Perm.cons _ (List.Perm.refl _))))))))) ?_
    refine CX.drop (L' := [.row A7 c7 44 4 (List.map ruC ([] ++ rs)), .row A1 c1 3 1 (List.map iR (List.map (jud rs ls) ls)), .row zc.1 zc.2 3 1 (List.map iR (List.map (jud (([] ++ rs) ++ [r]) ls) ls)), .blk g5 (.cells (ruC r) 44 (0, 0))]) (List.Sublist.refl _) ?_
    refine CX.loop (σ := Nat × Bool) (fun z => [(1, .slice A ls.length cap), (5, .pointer (some ⟨g5, 0, none⟩)), (7, .bool true), (8, .slice A1 (List.length ((List.map (jud rs ls) ls) : List Int)) c1), (9, .slice zc.1 (List.length ((List.map (jud (([] ++ rs) ++ [r]) ls) ls) : List Int)) zc.2), (10, .slice A7 rs.length c7), (11, .bool z.2), (12, .int .i64 ((z.1 : Nat) : Int))]) (fun z => [.row A7 c7 44 4 (List.map ruC (List.map easeR (List.take z.1 rs) ++ List.drop z.1 rs)), .row A1 c1 3 1 (List.map iR (List.map (jud rs ls) ls)), .row zc.1 zc.2 3 1 (List.map iR (List.map (jud (([] ++ rs) ++ [r]) ls) ls)), .blk g5 (.cells (ruC r) 44 (0, 0))]) (fun z => z.1 ≤ rs.length ∧ z.2 = (List.take z.1 rs).all noJ) (fun z => rs.length - z.1) (0, true) ⟨Nat.zero_le _, rfl⟩ ⟨rfl, rfl, rfl, rfl, rfl, rfl, rfl, rfl, trivial⟩ rfl (fun z hI => ?_)
    obtain ⟨i, nn⟩ := z
    dsimp only at hI ⊢
    obtain ⟨hi, hnn⟩ := hI
    refine CX.seq ?_
    refine CX.seq ?_
    refine CX.region ?_
    refine RX.cons rfl rfl (op_w (yw_move rfl rfl) rfl rfl ?_)
    refine RX.cons rfl rfl (op_w (yw_move rfl rfl) rfl rfl ?_)
    refine RX.cons rfl rfl (op_w (yw_lenS rfl Try.underlying30 rfl) rfl rfl ?_)
    refine RX.cons rfl rfl (op_w (yw_lss rfl rfl rfl) rfl rfl ?_)
    refine RX.nil (XX.next (V' := [(1, _), (5, _), (7, _), (8, _), (9, _), (10, _), (11, _), (12, _), (37, _)]) ⟨rfl, rfl, rfl, rfl, rfl, rfl, rfl, rfl, rfl, trivial⟩ ?_)
    refine CX.condD (p := ((i : Nat) : Int) < ((rs.length : Nat) : Int)) rfl (fun c37 => ?_) (fun c37 => ?_)
    · obtain ⟨x0, hx0⟩ := get_some (l := rs) (k := i) (by omega)
      have hx0m := List.mem_of_getElem? hx0
      have hy0 := map_set_at easeR hx0
      have hEn : (List.map easeR (List.take i rs) ++ List.drop i rs).length = rs.length := by simp; omega
      refine CX.rowSome 0 rfl (by rw [List.length_map]; omega) (fun hA7 => ?_)
      refine CX.skip (XX.next (V' := [(1, _), (5, _), (7, _), (8, _), (9, _), (10, _), (11, _), (12, _)]) ⟨rfl, rfl, rfl, rfl, rfl, rfl, rfl, rfl, trivial⟩ ?_)
      refine CX.seq ?_
      refine CX.block ?_
      refine CX.seq ?_
      refine CX.seq ?_
      refine CX.region ?_
      refine RX.cons rfl rfl (op_w (yw_move rfl rfl) rfl rfl ?_)
      refine RX.cons rfl rfl (op_w (yw_move rfl rfl) rfl rfl ?_)
      refine RX.cons rfl rfl (op_w (yw_index (k := i) rfl slt_30 rfl rfl (by omega) (by omega) hA7) rfl rfl ?_)
      refine RX.cons rfl rfl (op_w (yw_field0 rfl fld_44_0 rfl) rfl rfl ?_)
      refine RX.cons rfl rfl (op_yld (y_rowElemF (j := 0) (i := 0) rfl rfl one_3 rfl (map_get hy0) rfl) rfl rfl ?_)
      refine RX.cons rfl rfl (op_w (yw_neq rfl rfl rfl) rfl rfl ?_)
      refine RX.cons rfl rfl (op_w (yw_move rfl rfl) rfl rfl ?_)
      refine RX.splitD (t := 46) (p := Ru.act x0 ≠ 3) rfl (fun d46 => ?_) (fun d46 => ?_)
      · refine RX.consG rfl rfl rfl rfl rfl (op_w (yw_move rfl rfl) rfl rfl ?_)
        refine RX.consG rfl rfl rfl rfl rfl (op_w (yw_move rfl rfl) rfl rfl ?_)
        refine RX.consG rfl rfl rfl rfl rfl (op_w (yw_index (k := i) rfl slt_30 rfl rfl (by omega) (by omega) hA7) rfl rfl ?_)
        refine RX.consG rfl rfl rfl rfl rfl (op_w (yw_fieldAddr rfl fld_44_3 rfl) rfl rfl ?_)
        refine RX.consG rfl rfl rfl rfl rfl (op_yld (y_rowElemF (i := 0) rfl rfl one_3 rfl (map_get hy0) rfl) rfl rfl ?_)
        refine RX.consG rfl rfl rfl rfl rfl (op_w (yw_geq rfl rfl rfl) rfl rfl ?_)
        refine RX.cons rfl rfl (op_w (yw_pickT rfl rfl rfl) rfl rfl ?_)
        refine RX.cons rfl rfl (op_w (yw_move rfl rfl) rfl rfl ?_)
        refine RX.splitD (t := 54) (p := 0 ≤ Ru.n x0) rfl (fun d54 => ?_) (fun d54 => ?_)
        · refine RX.consG rfl rfl rfl rfl rfl (op_w (yw_move rfl rfl) rfl rfl ?_)
          refine RX.consG rfl rfl rfl rfl rfl (op_w (yw_move rfl rfl) rfl rfl ?_)
          refine RX.consG rfl rfl rfl rfl rfl (op_w (yw_index (k := i) rfl slt_30 rfl rfl (by omega) (by omega) hA7) rfl rfl ?_)
          refine RX.consG rfl rfl rfl rfl rfl (op_w (yw_fieldAddr rfl fld_44_3 rfl) rfl rfl ?_)
          refine RX.consG rfl rfl rfl rfl rfl (op_yld (y_rowElemF (i := 0) rfl rfl one_3 rfl (map_get hy0) rfl) rfl rfl ?_)
          refine RX.consG rfl rfl rfl rfl rfl (op_w (yw_lss rfl rfl rfl) rfl rfl ?_)
          refine RX.cons rfl rfl (op_w (yw_pickT rfl rfl rfl) rfl rfl ?_)
          refine RX.nil (XX.next (V' := [(1, _), (5, _), (7, _), (8, _), (9, _), (10, _), (11, _), (12, _), (61, _)]) ⟨rfl, rfl, rfl, rfl, rfl, rfl, rfl, rfl, rfl, trivial⟩ ?_)
          refine CX.condD (p := Ru.n x0 < 1000000) rfl (fun c61 => ?_) (fun c61 => ?_)
          · refine CX.region ?_
            refine RX.cons rfl rfl (op_w (yw_move rfl rfl) rfl rfl ?_)
            refine RX.cons rfl rfl (op_w (yw_move rfl rfl) rfl rfl ?_)
            refine RX.cons rfl rfl (op_w (yw_index (k := i) rfl slt_30 rfl rfl (by omega) (by omega) hA7) rfl rfl ?_)
            refine RX.cons rfl rfl (op_w (yw_fieldAddr rfl fld_44_3 rfl) rfl rfl ?_)
            refine RX.cons rfl rfl (op_yld (y_rowElemF (i := 0) rfl rfl one_3 rfl (map_get hy0) rfl) rfl rfl ?_)
            refine RX.cons rfl rfl (op_w (yw_add rfl rfl rfl (by omega) (by omega)) rfl rfl ?_)
            refine RX.cons rfl rfl (op_w (yw_index (k := i) rfl slt_30 rfl rfl (by omega) (by omega) hA7) rfl rfl ?_)
            refine RX.cons rfl rfl (op_w (yw_fieldAddr rfl fld_44_3 rfl) rfl rfl ?_)
            refine RX.cons rfl rfl (op_storeElemF (j := 3) (i := 0) (ys := List.map ruC ((List.map easeR (List.take i rs) ++ List.drop i rs).set i (mkN x0 (Ru.n x0 + 1)))) rfl rfl rfl rfl szt_3 rfl rfl rfl (map_get hy0) (by decide) (set_n _ i x0 (Ru.n x0 + 1)) ?_)
            refine RX.nil (XX.next (V' := [(1, _), (5, _), (7, _), (8, _), (9, _), (10, _), (11, _), (12, _)]) ⟨rfl, rfl, rfl, rfl, rfl, rfl, rfl, rfl, trivial⟩ ?_)
            refine CX.region ?_
            refine RX.cons rfl rfl (op_w (yw_move rfl rfl) rfl rfl ?_)
            refine RX.cons rfl rfl (op_w (yw_move rfl rfl) rfl rfl ?_)
            refine RX.split (t := 71) (b := nn) rfl (fun d71 => ?_) (fun d71 => ?_)
            · refine RX.consG rfl rfl rfl rfl rfl (op_w (yw_move rfl rfl) rfl rfl ?_)
              refine RX.consG rfl rfl rfl rfl rfl (op_w (yw_move rfl rfl) rfl rfl ?_)
              refine RX.consG rfl rfl rfl rfl rfl (op_w (yw_index (k := i) rfl slt_30 rfl rfl (by omega) (by omega) hA7) rfl rfl ?_)
              refine RX.consG rfl rfl rfl rfl rfl (op_w (yw_field0 rfl fld_44_0 rfl) rfl rfl ?_)
              refine RX.consG rfl rfl rfl rfl rfl (op_yld (y_rowElemF (j := 0) (i := 0) rfl rfl one_3 rfl (map_get (l := (List.map easeR (List.take i rs) ++ List.drop i rs).set i (mkN x0 (Ru.n x0 + 1))) (by rw [List.getElem?_set_self (by omega)])) rfl) rfl rfl ?_)
              refine RX.consG rfl rfl rfl rfl rfl (op_w (yw_neq rfl rfl rfl) rfl rfl ?_)
              refine RX.cons rfl rfl (op_w (yw_pickT rfl rfl rfl) rfl rfl ?_)
              refine RX.cons rfl rfl (op_w (yw_move rfl rfl) rfl rfl ?_)
              refine RX.splitD (t := 79) (p := Ru.act (mkN x0 (Ru.n x0 + 1)) ≠ 1) rfl (fun d79 => ?_) (fun d79 => ?_)
              · refine RX.consG rfl rfl rfl rfl rfl (op_w (yw_move rfl rfl) rfl rfl ?_)
                refine RX.consG rfl rfl rfl rfl rfl (op_w (yw_move rfl rfl) rfl rfl ?_)
                refine RX.consG rfl rfl rfl rfl rfl (op_w (yw_index (k := i) rfl slt_30 rfl rfl (by omega) (by omega) hA7) rfl rfl ?_)
                refine RX.consG rfl rfl rfl rfl rfl (op_w (yw_field0 rfl fld_44_0 rfl) rfl rfl ?_)
                refine RX.consG rfl rfl rfl rfl rfl (op_yld (y_rowElemF (j := 0) (i := 0) rfl rfl one_3 rfl (map_get (l := (List.map easeR (List.take i rs) ++ List.drop i rs).set i (mkN x0 (Ru.n x0 + 1))) (by rw [List.getElem?_set_self (by omega)])) rfl) rfl rfl ?_)
                refine RX.consG rfl rfl rfl rfl rfl (op_w (yw_neq rfl rfl rfl) rfl rfl ?_)
                refine RX.cons rfl rfl (op_w (yw_pickT rfl rfl rfl) rfl rfl ?_)
                refine RX.cons rfl rfl (op_w (yw_assign rfl rfl) rfl rfl ?_)
                refine RX.nil (XX.inBlock (V' := [(1, _), (5, _), (7, _), (8, _), (9, _), (10, _), (11, _), (12, _)]) ⟨rfl, rfl, rfl, rfl, rfl, rfl, rfl, rfl, trivial⟩ ?_)
                refine XX.next (V' := [(1, _), (5, _), (7, _), (8, _), (9, _), (10, _), (11, _), (12, _)]) ⟨rfl, rfl, rfl, rfl, rfl, rfl, rfl, rfl, trivial⟩ ?_
                refine CX.ents (L' := [.row A7 c7 44 4 (List.map ruC (List.map easeR (List.take (i + 1) rs) ++ List.drop (i + 1) rs)), .row A1 c1 3 1 (List.map iR (List.map (jud rs ls) ls)), .row zc.1 zc.2 3 1 (List.map iR (List.map (jud (([] ++ rs) ++ [r]) ls) ls)), .blk g5 (.cells (ruC r) 44 (0, 0))]) (by rw [← map_set_step easeR hx0, show easeR x0 = mkN x0 (Ru.n x0 + 1) from if_pos ⟨by omega, by omega, by omega⟩] <;> rfl) ?_
                refine CX.region ?_
                refine RX.cons rfl rfl (op_w (yw_move rfl rfl) rfl rfl ?_)
                refine RX.cons rfl rfl (op_w (yw_add rfl rfl rfl (by omega) (by omega)) rfl rfl ?_)
                refine RX.cons rfl rfl (op_w (yw_assign rfl rfl) rfl rfl ?_)
                refine RX.nil (XX.againP ([]) (i + 1, decide (Ru.act (mkN x0 (Ru.n x0 + 1)) ≠ 2)) (by dsimp only; omega) ⟨by dsimp only; omega, by dsimp only; rw [all_snocB hx0, ← hnn, show nn = true from d71, show noJ x0 = decide (Ru.act x0 ≠ 2) from by unfold noJ; rw [decide_eq_true d79]; rfl] <;> rfl⟩ ⟨rfl, rfl, rfl, rfl, rfl, rfl, rfl, rfl, trivial⟩ ((perm_pick 0 rfl).trans (List.Perm.cons _ ((perm_pick 0 rfl).trans (List.Perm.cons _ ((perm_pick 0 rfl).trans (List.Perm.cons _ ((perm_pick 0 rfl).trans (List.Perm.cons _ (List.Perm.refl _))))))))))
              · refine RX.skip rfl rfl rfl rfl rfl rfl rfl ?_
                refine RX.skip rfl rfl rfl rfl rfl rfl rfl ?_
                refine RX.skip rfl rfl rfl rfl rfl rfl rfl ?_
                refine RX.skip rfl rfl rfl rfl rfl rfl rfl ?_
                refine RX.skip rfl rfl rfl rfl rfl rfl rfl ?_
                refine RX.skip rfl rfl rfl rfl rfl rfl rfl ?_
                refine RX.cons rfl rfl (op_w (yw_pickF rfl rfl rfl) rfl rfl ?_)
                refine RX.cons rfl rfl (op_w (yw_assign rfl rfl) rfl rfl ?_)
                refine RX.nil (XX.inBlock (V' := [(1, _), (5, _), (7, _), (8, _), (9, _), (10, _), (11, _), (12, _)]) ⟨rfl, rfl, rfl, rfl, rfl, rfl, rfl, rfl, trivial⟩ ?_)
                refine XX.next (V' := [(1, _), (5, _), (7, _), (8, _), (9, _), (10, _), (11, _), (12, _)]) ⟨rfl, rfl, rfl, rfl, rfl, rfl, rfl, rfl, trivial⟩ ?_
                refine CX.ents (L' := [.row A7 c7 44 4 (List.map ruC (List.map easeR (List.take (i + 1) rs) ++ List.drop (i + 1) rs)), .row A1 c1 3 1 (List.map iR (List.map (jud rs ls) ls)), .row zc.1 zc.2 3 1 (List.map iR (List.map (jud (([] ++ rs) ++ [r]) ls) ls)), .blk g5 (.cells (ruC r) 44 (0, 0))]) (by rw [← map_set_step easeR hx0, show easeR x0 = mkN x0 (Ru.n x0 + 1) from if_pos ⟨by omega, by omega, by omega⟩] <;> rfl) ?_
                refine CX.region ?_
                refine RX.cons rfl rfl (op_w (yw_move rfl rfl) rfl rfl ?_)
                refine RX.cons rfl rfl (op_w (yw_add rfl rfl rfl (by omega) (by omega)) rfl rfl ?_)
                refine RX.cons rfl rfl (op_w (yw_assign rfl rfl) rfl rfl ?_)
                refine RX.nil (XX.againP ([]) (i + 1, false) (by dsimp only; omega) ⟨by dsimp only; omega, by dsimp only; rw [all_snocB hx0, ← hnn, show nn = true from d71, show noJ x0 = false from by unfold noJ; rw [decide_eq_false d79]; rfl] <;> rfl⟩ ⟨rfl, rfl, rfl, rfl, rfl, rfl, rfl, rfl, trivial⟩ ((perm_pick 0 rfl).trans (List.Perm.cons _ ((perm_pick 0 rfl).trans (List.Perm.cons _ ((perm_pick 0 rfl).trans (List.Perm.cons _ ((perm_pick 0 rfl).trans (List.Perm.cons _ (List.Perm.refl _))))))))))
            · refine RX.skip rfl rfl rfl rfl rfl rfl rfl ?_
              refine RX.skip rfl rfl rfl rfl rfl rfl rfl ?_
              refine RX.skip rfl rfl rfl rfl rfl rfl rfl ?_
              refine RX.skip rfl rfl rfl rfl rfl rfl rfl ?_
              refine RX.skip rfl rfl rfl rfl rfl rfl rfl ?_
              refine RX.skip rfl rfl rfl rfl rfl rfl rfl ?_
              refine RX.cons rfl rfl (op_w (yw_pickF rfl rfl rfl) rfl rfl ?_)
              refine RX.cons rfl rfl (op_w (yw_move rfl rfl) rfl rfl ?_)
              refine RX.skip rfl rfl rfl rfl rfl rfl rfl ?_
              refine RX.skip rfl rfl rfl rfl rfl rfl rfl ?_
              refine RX.skip rfl rfl rfl rfl rfl rfl rfl ?_
              refine RX.skip rfl rfl rfl rfl rfl rfl rfl ?_
              refine RX.skip rfl rfl rfl rfl rfl rfl rfl ?_
              refine RX.skip rfl rfl rfl rfl rfl rfl rfl ?_
              refine RX.cons rfl rfl (op_w (yw_pickF rfl rfl rfl) rfl rfl ?_)
              refine RX.cons rfl rfl (op_w (yw_assign rfl rfl) rfl rfl ?_)
              refine RX.nil (XX.inBlock (V' := [(1, _), (5, _), (7, _), (8, _), (9, _), (10, _), (11, _), (12, _)]) ⟨rfl, rfl, rfl, rfl, rfl, rfl, rfl, rfl, trivial⟩ ?_)
              refine XX.next (V' := [(1, _), (5, _), (7, _), (8, _), (9, _), (10, _), (11, _), (12, _)]) ⟨rfl, rfl, rfl, rfl, rfl, rfl, rfl, rfl, trivial⟩ ?_
              refine CX.ents (L' := [.row A7 c7 44 4 (List.map ruC (List.map easeR (List.take (i + 1) rs) ++ List.drop (i + 1) rs)), .row A1 c1 3 1 (List.map iR (List.map (jud rs ls) ls)), .row zc.1 zc.2 3 1 (List.map iR (List.map (jud (([] ++ rs) ++ [r]) ls) ls)), .blk g5 (.cells (ruC r) 44 (0, 0))]) (by rw [← map_set_step easeR hx0, show easeR x0 = mkN x0 (Ru.n x0 + 1) from if_pos ⟨by omega, by omega, by omega⟩] <;> rfl) ?_
              refine CX.region ?_
              refine RX.cons rfl rfl (op_w (yw_move rfl rfl) rfl rfl ?_)
              refine RX.cons rfl rfl (op_w (yw_add rfl rfl rfl (by omega) (by omega)) rfl rfl ?_)
              refine RX.cons rfl rfl (op_w (yw_assign rfl rfl) rfl rfl ?_)
              refine RX.nil (XX.againP ([]) (i + 1, false) (by dsimp only; omega) ⟨by dsimp only; omega, by dsimp only; rw [all_snocB hx0, ← hnn, show nn = false from by simpa using d71] <;> rfl⟩ ⟨rfl, rfl, rfl, rfl, rfl, rfl, rfl, rfl, trivial⟩ ((perm_pick 0 rfl).trans (List.Perm.cons _ ((perm_pick 0 rfl).trans (List.Perm.cons _ ((perm_pick 0 rfl).trans (List.Perm.cons _ ((perm_pick 0 rfl).trans (List.Perm.cons _ (List.Perm.refl _))))))))))
          · refine CX.skip (XX.next (V' := [(1, _), (5, _), (7, _), (8, _), (9, _), (10, _), (11, _), (12, _)]) ⟨rfl, rfl, rfl, rfl, rfl, rfl, rfl, rfl, trivial⟩ ?_)
            refine CX.region ?_
            refine RX.cons rfl rfl (op_w (yw_move rfl rfl) rfl rfl ?_)
            refine RX.cons rfl rfl (op_w (yw_move rfl rfl) rfl rfl ?_)
            refine RX.split (t := 71) (b := nn) rfl (fun d71 => ?_) (fun d71 => ?_)
            · refine RX.consG rfl rfl rfl rfl rfl (op_w (yw_move rfl rfl) rfl rfl ?_)
              refine RX.consG rfl rfl rfl rfl rfl (op_w (yw_move rfl rfl) rfl rfl ?_)
              refine RX.consG rfl rfl rfl rfl rfl (op_w (yw_index (k := i) rfl slt_30 rfl rfl (by omega) (by omega) hA7) rfl rfl ?_)
              refine RX.consG rfl rfl rfl rfl rfl (op_w (yw_field0 rfl fld_44_0 rfl) rfl rfl ?_)
              refine RX.consG rfl rfl rfl rfl rfl (op_yld (y_rowElemF (j := 0) (i := 0) rfl rfl one_3 rfl (map_get hy0) rfl) rfl rfl ?_)
              refine RX.consG rfl rfl rfl rfl rfl (op_w (yw_neq rfl rfl rfl) rfl rfl ?_)
              refine RX.cons rfl rfl (op_w (yw_pickT rfl rfl rfl) rfl rfl ?_)
              refine RX.cons rfl rfl (op_w (yw_move rfl rfl) rfl rfl ?_)
              refine RX.splitD (t := 79) (p := Ru.act x0 ≠ 1) rfl (fun d79 => ?_) (fun d79 => ?_)
              · refine RX.consG rfl rfl rfl rfl rfl (op_w (yw_move rfl rfl) rfl rfl ?_)
                refine RX.consG rfl rfl rfl rfl rfl (op_w (yw_move rfl rfl) rfl rfl ?_)
                refine RX.consG rfl rfl rfl rfl rfl (op_w (yw_index (k := i) rfl slt_30 rfl rfl (by omega) (by omega) hA7) rfl rfl ?_)
                refine RX.consG rfl rfl rfl rfl rfl (op_w (yw_field0 rfl fld_44_0 rfl) rfl rfl ?_)
                refine RX.consG rfl rfl rfl rfl rfl (op_yld (y_rowElemF (j := 0) (i := 0) rfl rfl one_3 rfl (map_get hy0) rfl) rfl rfl ?_)
                refine RX.consG rfl rfl rfl rfl rfl (op_w (yw_neq rfl rfl rfl) rfl rfl ?_)
                refine RX.cons rfl rfl (op_w (yw_pickT rfl rfl rfl) rfl rfl ?_)
                refine RX.cons rfl rfl (op_w (yw_assign rfl rfl) rfl rfl ?_)
                refine RX.nil (XX.inBlock (V' := [(1, _), (5, _), (7, _), (8, _), (9, _), (10, _), (11, _), (12, _)]) ⟨rfl, rfl, rfl, rfl, rfl, rfl, rfl, rfl, trivial⟩ ?_)
                refine XX.next (V' := [(1, _), (5, _), (7, _), (8, _), (9, _), (10, _), (11, _), (12, _)]) ⟨rfl, rfl, rfl, rfl, rfl, rfl, rfl, rfl, trivial⟩ ?_
                refine CX.ents (L' := [.row A7 c7 44 4 (List.map ruC (List.map easeR (List.take (i + 1) rs) ++ List.drop (i + 1) rs)), .row A1 c1 3 1 (List.map iR (List.map (jud rs ls) ls)), .row zc.1 zc.2 3 1 (List.map iR (List.map (jud (([] ++ rs) ++ [r]) ls) ls)), .blk g5 (.cells (ruC r) 44 (0, 0))]) (by rw [← map_same_step easeR hx0 (if_neg (by omega))] <;> rfl) ?_
                refine CX.region ?_
                refine RX.cons rfl rfl (op_w (yw_move rfl rfl) rfl rfl ?_)
                refine RX.cons rfl rfl (op_w (yw_add rfl rfl rfl (by omega) (by omega)) rfl rfl ?_)
                refine RX.cons rfl rfl (op_w (yw_assign rfl rfl) rfl rfl ?_)
                refine RX.nil (XX.againP ([]) (i + 1, decide (Ru.act x0 ≠ 2)) (by dsimp only; omega) ⟨by dsimp only; omega, by dsimp only; rw [all_snocB hx0, ← hnn, show nn = true from d71, show noJ x0 = decide (Ru.act x0 ≠ 2) from by unfold noJ; rw [decide_eq_true d79]; rfl] <;> rfl⟩ ⟨rfl, rfl, rfl, rfl, rfl, rfl, rfl, rfl, trivial⟩ ((perm_pick 0 rfl).trans (List.Perm.cons _ ((perm_pick 0 rfl).trans (List.Perm.cons _ ((perm_pick 0 rfl).trans (List.Perm.cons _ ((perm_pick 0 rfl).trans (List.Perm.cons _ (List.Perm.refl _))))))))))
              · refine RX.skip rfl rfl rfl rfl rfl rfl rfl ?_
                refine RX.skip rfl rfl rfl rfl rfl rfl rfl ?_
                refine RX.skip rfl rfl rfl rfl rfl rfl rfl ?_
                refine RX.skip rfl rfl rfl rfl rfl rfl rfl ?_
                refine RX.skip rfl rfl rfl rfl rfl rfl rfl ?_
                refine RX.skip rfl rfl rfl rfl rfl rfl rfl ?_
                refine RX.cons rfl rfl (op_w (yw_pickF rfl rfl rfl) rfl rfl ?_)
                refine RX.cons rfl rfl (op_w (yw_assign rfl rfl) rfl rfl ?_)
                refine RX.nil (XX.inBlock (V' := [(1, _), (5, _), (7, _), (8, _), (9, _), (10, _), (11, _), (12, _)]) ⟨rfl, rfl, rfl, rfl, rfl, rfl, rfl, rfl, trivial⟩ ?_)
                refine XX.next (V' := [(1, _), (5, _), (7, _), (8, _), (9, _), (10, _), (11, _), (12, _)]) ⟨rfl, rfl, rfl, rfl, rfl, rfl, rfl, rfl, trivial⟩ ?_
                refine CX.ents (L' := [.row A7 c7 44 4 (List.map ruC (List.map easeR (List.take (i + 1) rs) ++ List.drop (i + 1) rs)), .row A1 c1 3 1 (List.map iR (List.map (jud rs ls) ls)), .row zc.1 zc.2 3 1 (List.map iR (List.map (jud (([] ++ rs) ++ [r]) ls) ls)), .blk g5 (.cells (ruC r) 44 (0, 0))]) (by rw [← map_same_step easeR hx0 (if_neg (by omega))] <;> rfl) ?_
                refine CX.region ?_
                refine RX.cons rfl rfl (op_w (yw_move rfl rfl) rfl rfl ?_)
                refine RX.cons rfl rfl (op_w (yw_add rfl rfl rfl (by omega) (by omega)) rfl rfl ?_)
                refine RX.cons rfl rfl (op_w (yw_assign rfl rfl) rfl rfl ?_)
                refine RX.nil (XX.againP ([]) (i + 1, false) (by dsimp only; omega) ⟨by dsimp only; omega, by dsimp only; rw [all_snocB hx0, ← hnn, show nn = true from d71, show noJ x0 = false from by unfold noJ; rw [decide_eq_false d79]; rfl] <;> rfl⟩ ⟨rfl, rfl, rfl, rfl, rfl, rfl, rfl, rfl, trivial⟩ ((perm_pick 0 rfl).trans (List.Perm.cons _ ((perm_pick 0 rfl).trans (List.Perm.cons _ ((perm_pick 0 rfl).trans (List.Perm.cons _ ((perm_pick 0 rfl).trans (List.Perm.cons _ (List.Perm.refl _))))))))))
            · refine RX.skip rfl rfl rfl rfl rfl rfl rfl ?_
              refine RX.skip rfl rfl rfl rfl rfl rfl rfl ?_
              refine RX.skip rfl rfl rfl rfl rfl rfl rfl ?_
              refine RX.skip rfl rfl rfl rfl rfl rfl rfl ?_
              refine RX.skip rfl rfl rfl rfl rfl rfl rfl ?_
              refine RX.skip rfl rfl rfl rfl rfl rfl rfl ?_
              refine RX.cons rfl rfl (op_w (yw_pickF rfl rfl rfl) rfl rfl ?_)
              refine RX.cons rfl rfl (op_w (yw_move rfl rfl) rfl rfl ?_)
              refine RX.skip rfl rfl rfl rfl rfl rfl rfl ?_
              refine RX.skip rfl rfl rfl rfl rfl rfl rfl ?_
              refine RX.skip rfl rfl rfl rfl rfl rfl rfl ?_
              refine RX.skip rfl rfl rfl rfl rfl rfl rfl ?_
              refine RX.skip rfl rfl rfl rfl rfl rfl rfl ?_
              refine RX.skip rfl rfl rfl rfl rfl rfl rfl ?_
              refine RX.cons rfl rfl (op_w (yw_pickF rfl rfl rfl) rfl rfl ?_)
              refine RX.cons rfl rfl (op_w (yw_assign rfl rfl) rfl rfl ?_)
              refine RX.nil (XX.inBlock (V' := [(1, _), (5, _), (7, _), (8, _), (9, _), (10, _), (11, _), (12, _)]) ⟨rfl, rfl, rfl, rfl, rfl, rfl, rfl, rfl, trivial⟩ ?_)
              refine XX.next (V' := [(1, _), (5, _), (7, _), (8, _), (9, _), (10, _), (11, _), (12, _)]) ⟨rfl, rfl, rfl, rfl, rfl, rfl, rfl, rfl, trivial⟩ ?_
              refine CX.ents (L' := [.row A7 c7 44 4 (List.map ruC (List.map easeR (List.take (i + 1) rs) ++ List.drop (i + 1) rs)), .row A1 c1 3 1 (List.map iR (List.map (jud rs ls) ls)), .row zc.1 zc.2 3 1 (List.map iR (List.map (jud (([] ++ rs) ++ [r]) ls) ls)), .blk g5 (.cells (ruC r) 44 (0, 0))]) (by rw [← map_same_step easeR hx0 (if_neg (by omega))] <;> rfl) ?_
              refine CX.region ?_
              refine RX.cons rfl rfl (op_w (yw_move rfl rfl) rfl rfl ?_)
              refine RX.cons rfl rfl (op_w (yw_add rfl rfl rfl (by omega) (by omega)) rfl rfl ?_)
              refine RX.cons rfl rfl (op_w (yw_assign rfl rfl) rfl rfl ?_)
              refine RX.nil (XX.againP ([]) (i + 1, false) (by dsimp only; omega) ⟨by dsimp only; omega, by dsimp only; rw [all_snocB hx0, ← hnn, show nn = false from by simpa using d71] <;> rfl⟩ ⟨rfl, rfl, rfl, rfl, rfl, rfl, rfl, rfl, trivial⟩ ((perm_pick 0 rfl).trans (List.Perm.cons _ ((perm_pick 0 rfl).trans (List.Perm.cons _ ((perm_pick 0 rfl).trans (List.Perm.cons _ ((perm_pick 0 rfl).trans (List.Perm.cons _ (List.Perm.refl _))))))))))
        · refine RX.skip rfl rfl rfl rfl rfl rfl rfl ?_
          refine RX.skip rfl rfl rfl rfl rfl rfl rfl ?_
          refine RX.skip rfl rfl rfl rfl rfl rfl rfl ?_
          refine RX.skip rfl rfl rfl rfl rfl rfl rfl ?_
          refine RX.skip rfl rfl rfl rfl rfl rfl rfl ?_
          refine RX.skip rfl rfl rfl rfl rfl rfl rfl ?_
          refine RX.cons rfl rfl (op_w (yw_pickF rfl rfl rfl) rfl rfl ?_)
          refine RX.nil (XX.next (V' := [(1, _), (5, _), (7, _), (8, _), (9, _), (10, _), (11, _), (12, _), (61, _)]) ⟨rfl, rfl, rfl, rfl, rfl, rfl, rfl, rfl, rfl, trivial⟩ ?_)
          refine CX.condF rfl ?_
          refine CX.skip (XX.next (V' := [(1, _), (5, _), (7, _), (8, _), (9, _), (10, _), (11, _), (12, _)]) ⟨rfl, rfl, rfl, rfl, rfl, rfl, rfl, rfl, trivial⟩ ?_)
          refine CX.region ?_
          refine RX.cons rfl rfl (op_w (yw_move rfl rfl) rfl rfl ?_)
          refine RX.cons rfl rfl (op_w (yw_move rfl rfl) rfl rfl ?_)
          refine RX.split (t := 71) (b := nn) rfl (fun d71 => ?_) (fun d71 => ?_)
          · refine RX.consG rfl rfl rfl rfl rfl (op_w (yw_move rfl rfl) rfl rfl ?_)
            refine RX.consG rfl rfl rfl rfl rfl (op_w (yw_move rfl rfl) rfl rfl ?_)
            refine RX.consG rfl rfl rfl rfl rfl (op_w (yw_index (k := i) rfl slt_30 rfl rfl (by omega) (by omega) hA7) rfl rfl ?_)
            refine RX.consG rfl rfl rfl rfl rfl (op_w (yw_field0 rfl fld_44_0 rfl) rfl rfl ?_)
            refine RX.consG rfl rfl rfl rfl rfl (op_yld (y_rowElemF (j := 0) (i := 0) rfl rfl one_3 rfl (map_get hy0) rfl) rfl rfl ?_)
            refine RX.consG rfl rfl rfl rfl rfl (op_w (yw_neq rfl rfl rfl) rfl rfl ?_)
            refine RX.cons rfl rfl (op_w (yw_pickT rfl rfl rfl) rfl rfl ?_)
            refine RX.cons rfl rfl (op_w (yw_move rfl rfl) rfl rfl ?_)
            refine RX.splitD (t := 79) (p := Ru.act x0 ≠ 1) rfl (fun d79 => ?_) (fun d79 => ?_)
            · refine RX.consG rfl rfl rfl rfl rfl (op_w (yw_move rfl rfl) rfl rfl ?_)
              refine RX.consG rfl rfl rfl rfl rfl (op_w (yw_move rfl rfl) rfl rfl ?_)
              refine RX.consG rfl rfl rfl rfl rfl (op_w (yw_index (k := i) rfl slt_30 rfl rfl (by omega) (by omega) hA7) rfl rfl ?_)
              refine RX.consG rfl rfl rfl rfl rfl (op_w (yw_field0 rfl fld_44_0 rfl) rfl rfl ?_)
              refine RX.consG rfl rfl rfl rfl rfl (op_yld (y_rowElemF (j := 0) (i := 0) rfl rfl one_3 rfl (map_get hy0) rfl) rfl rfl ?_)
              refine RX.consG rfl rfl rfl rfl rfl (op_w (yw_neq rfl rfl rfl) rfl rfl ?_)
              refine RX.cons rfl rfl (op_w (yw_pickT rfl rfl rfl) rfl rfl ?_)
              refine RX.cons rfl rfl (op_w (yw_assign rfl rfl) rfl rfl ?_)
              refine RX.nil (XX.inBlock (V' := [(1, _), (5, _), (7, _), (8, _), (9, _), (10, _), (11, _), (12, _)]) ⟨rfl, rfl, rfl, rfl, rfl, rfl, rfl, rfl, trivial⟩ ?_)
              refine XX.next (V' := [(1, _), (5, _), (7, _), (8, _), (9, _), (10, _), (11, _), (12, _)]) ⟨rfl, rfl, rfl, rfl, rfl, rfl, rfl, rfl, trivial⟩ ?_
              refine CX.ents (L' := [.row A7 c7 44 4 (List.map ruC (List.map easeR (List.take (i + 1) rs) ++ List.drop (i + 1) rs)), .row A1 c1 3 1 (List.map iR (List.map (jud rs ls) ls)), .row zc.1 zc.2 3 1 (List.map iR (List.map (jud (([] ++ rs) ++ [r]) ls) ls)), .blk g5 (.cells (ruC r) 44 (0, 0))]) (by rw [← map_same_step easeR hx0 (if_neg (by omega))] <;> rfl) ?_
              refine CX.region ?_
              refine RX.cons rfl rfl (op_w (yw_move rfl rfl) rfl rfl ?_)
              refine RX.cons rfl rfl (op_w (yw_add rfl rfl rfl (by omega) (by omega)) rfl rfl ?_)
              refine RX.cons rfl rfl (op_w (yw_assign rfl rfl) rfl rfl ?_)
              refine RX.nil (XX.againP ([]) (i + 1, decide (Ru.act x0 ≠ 2)) (by dsimp only; omega) ⟨by dsimp only; omega, by dsimp only; rw [all_snocB hx0, ← hnn, show nn = true from d71, show noJ x0 = decide (Ru.act x0 ≠ 2) from by unfold noJ; rw [decide_eq_true d79]; rfl] <;> rfl⟩ ⟨rfl, rfl, rfl, rfl, rfl, rfl, rfl, rfl, trivial⟩ ((perm_pick 0 rfl).trans (List.Perm.cons _ ((perm_pick 0 rfl).trans (List.Perm.cons _ ((perm_pick 0 rfl).trans (List.Perm.cons _ ((perm_pick 0 rfl).trans (List.Perm.cons _ (List.Perm.refl _))))))))))
            · refine RX.skip rfl rfl rfl rfl rfl rfl rfl ?_
              refine RX.skip rfl rfl rfl rfl rfl rfl rfl ?_
              refine RX.skip rfl rfl rfl rfl rfl rfl rfl ?_
              refine RX.skip rfl rfl rfl rfl rfl rfl rfl ?_
              refine RX.skip rfl rfl rfl rfl rfl rfl rfl ?_
              refine RX.skip rfl rfl rfl rfl rfl rfl rfl ?_
              refine RX.cons rfl rfl (op_w (yw_pickF rfl rfl rfl) rfl rfl ?_)
              refine RX.cons rfl rfl (op_w (yw_assign rfl rfl) rfl rfl ?_)
              refine RX.nil (XX.inBlock (V' := [(1, _), (5, _), (7, _), (8, _), (9, _), (10, _), (11, _), (12, _)]) ⟨rfl, rfl, rfl, rfl, rfl, rfl, rfl, rfl, trivial⟩ ?_)
              refine XX.next (V' := [(1, _), (5, _), (7, _), (8, _), (9, _), (10, _), (11, _), (12, _)]) ⟨rfl, rfl, rfl, rfl, rfl, rfl, rfl, rfl, trivial⟩ ?_
              refine CX.ents (L' := [.row A7 c7 44 4 (List.map ruC (List.map easeR (List.take (i + 1) rs) ++ List.drop (i + 1) rs)), .row A1 c1 3 1 (List.map iR (List.map (jud rs ls) ls)), .row zc.1 zc.2 3 1 (List.map iR (List.map (jud (([] ++ rs) ++ [r]) ls) ls)), .blk g5 (.cells (ruC r) 44 (0, 0))]) (by rw [← map_same_step easeR hx0 (if_neg (by omega))] <;> rfl) ?_
              refine CX.region ?_
              refine RX.cons rfl rfl (op_w (yw_move rfl rfl) rfl rfl ?_)
              refine RX.cons rfl rfl (op_w (yw_add rfl rfl rfl (by omega) (by omega)) rfl rfl ?_)
              refine RX.cons rfl rfl (op_w (yw_assign rfl rfl) rfl rfl ?_)
              refine RX.nil (XX.againP ([]) (i + 1, false) (by dsimp only; omega) ⟨by dsimp only; omega, by dsimp only; rw [all_snocB hx0, ← hnn, show nn = true from d71, show noJ x0 = false from by unfold noJ; rw [decide_eq_false d79]; rfl] <;> rfl⟩ ⟨rfl, rfl, rfl, rfl, rfl, rfl, rfl, rfl, trivial⟩ ((perm_pick 0 rfl).trans (List.Perm.cons _ ((perm_pick 0 rfl).trans (List.Perm.cons _ ((perm_pick 0 rfl).trans (List.Perm.cons _ ((perm_pick 0 rfl).trans (List.Perm.cons _ (List.Perm.refl _))))))))))
          · refine RX.skip rfl rfl rfl rfl rfl rfl rfl ?_
            refine RX.skip rfl rfl rfl rfl rfl rfl rfl ?_
            refine RX.skip rfl rfl rfl rfl rfl rfl rfl ?_
            refine RX.skip rfl rfl rfl rfl rfl rfl rfl ?_
            refine RX.skip rfl rfl rfl rfl rfl rfl rfl ?_
            refine RX.skip rfl rfl rfl rfl rfl rfl rfl ?_
            refine RX.cons rfl rfl (op_w (yw_pickF rfl rfl rfl) rfl rfl ?_)
            refine RX.cons rfl rfl (op_w (yw_move rfl rfl) rfl rfl ?_)
            refine RX.skip rfl rfl rfl rfl rfl rfl rfl ?_
            refine RX.skip rfl rfl rfl rfl rfl rfl rfl ?_
            refine RX.skip rfl rfl rfl rfl rfl rfl rfl ?_
            refine RX.skip rfl rfl rfl rfl rfl rfl rfl ?_
            refine RX.skip rfl rfl rfl rfl rfl rfl rfl ?_
            refine RX.skip rfl rfl rfl rfl rfl rfl rfl ?_
            refine RX.cons rfl rfl (op_w (yw_pickF rfl rfl rfl) rfl rfl ?_)
            refine RX.cons rfl rfl (op_w (yw_assign rfl rfl) rfl rfl ?_)
            refine RX.nil (XX.inBlock (V' := [(1, _), (5, _), (7, _), (8, _), (9, _), (10, _), (11, _), (12, _)]) ⟨rfl, rfl, rfl, rfl, rfl, rfl, rfl, rfl, trivial⟩ ?_)
            refine XX.next (V' := [(1, _), (5, _), (7, _), (8, _), (9, _), (10, _), (11, _), (12, _)]) ⟨rfl, rfl, rfl, rfl, rfl, rfl, rfl, rfl, trivial⟩ ?_
            refine CX.ents (L' := [.row A7 c7 44 4 (List.map ruC (List.map easeR (List.take (i + 1) rs) ++ List.drop (i + 1) rs)), .row A1 c1 3 1 (List.map iR (List.map (jud rs ls) ls)), .row zc.1 zc.2 3 1 (List.map iR (List.map (jud (([] ++ rs) ++ [r]) ls) ls)), .blk g5 (.cells (ruC r) 44 (0, 0))]) (by rw [← map_same_step easeR hx0 (if_neg (by omega))] <;> rfl) ?_
            refine CX.region ?_
            refine RX.cons rfl rfl (op_w (yw_move rfl rfl) rfl rfl ?_)
            refine RX.cons rfl rfl (op_w (yw_add rfl rfl rfl (by omega) (by omega)) rfl rfl ?_)
            refine RX.cons rfl rfl (op_w (yw_assign rfl rfl) rfl rfl ?_)
            refine RX.nil (XX.againP ([]) (i + 1, false) (by dsimp only; omega) ⟨by dsimp only; omega, by dsimp only; rw [all_snocB hx0, ← hnn, show nn = false from by simpa using d71] <;> rfl⟩ ⟨rfl, rfl, rfl, rfl, rfl, rfl, rfl, rfl, trivial⟩ ((perm_pick 0 rfl).trans (List.Perm.cons _ ((perm_pick 0 rfl).trans (List.Perm.cons _ ((perm_pick 0 rfl).trans (List.Perm.cons _ ((perm_pick 0 rfl).trans (List.Perm.cons _ (List.Perm.refl _))))))))))
      · refine RX.skip rfl rfl rfl rfl rfl rfl rfl ?_
        refine RX.skip rfl rfl rfl rfl rfl rfl rfl ?_
        refine RX.skip rfl rfl rfl rfl rfl rfl rfl ?_
        refine RX.skip rfl rfl rfl rfl rfl rfl rfl ?_
        refine RX.skip rfl rfl rfl rfl rfl rfl rfl ?_
        refine RX.skip rfl rfl rfl rfl rfl rfl rfl ?_
        refine RX.cons rfl rfl (op_w (yw_pickF rfl rfl rfl) rfl rfl ?_)
        refine RX.cons rfl rfl (op_w (yw_move rfl rfl) rfl rfl ?_)
        refine RX.skip rfl rfl rfl rfl rfl rfl rfl ?_
        refine RX.skip rfl rfl rfl rfl rfl rfl rfl ?_
        refine RX.skip rfl rfl rfl rfl rfl rfl rfl ?_
        refine RX.skip rfl rfl rfl rfl rfl rfl rfl ?_
        refine RX.skip rfl rfl rfl rfl rfl rfl rfl ?_
        refine RX.skip rfl rfl rfl rfl rfl rfl rfl ?_
        refine RX.cons rfl rfl (op_w (yw_pickF rfl rfl rfl) rfl rfl ?_)
        refine RX.nil (XX.next (V' := [(1, _), (5, _), (7, _), (8, _), (9, _), (10, _), (11, _), (12, _), (61, _)]) ⟨rfl, rfl, rfl, rfl, rfl, rfl, rfl, rfl, rfl, trivial⟩ ?_)
        refine CX.condF rfl ?_
        refine CX.skip (XX.next (V' := [(1, _), (5, _), (7, _), (8, _), (9, _), (10, _), (11, _), (12, _)]) ⟨rfl, rfl, rfl, rfl, rfl, rfl, rfl, rfl, trivial⟩ ?_)
        refine CX.region ?_
        refine RX.cons rfl rfl (op_w (yw_move rfl rfl) rfl rfl ?_)
        refine RX.cons rfl rfl (op_w (yw_move rfl rfl) rfl rfl ?_)
        refine RX.split (t := 71) (b := nn) rfl (fun d71 => ?_) (fun d71 => ?_)
        · refine RX.consG rfl rfl rfl rfl rfl (op_w (yw_move rfl rfl) rfl rfl ?_)
          refine RX.consG rfl rfl rfl rfl rfl (op_w (yw_move rfl rfl) rfl rfl ?_)
          refine RX.consG rfl rfl rfl rfl rfl (op_w (yw_index (k := i) rfl slt_30 rfl rfl (by omega) (by omega) hA7) rfl rfl ?_)
          refine RX.consG rfl rfl rfl rfl rfl (op_w (yw_field0 rfl fld_44_0 rfl) rfl rfl ?_)
          refine RX.consG rfl rfl rfl rfl rfl (op_yld (y_rowElemF (j := 0) (i := 0) rfl rfl one_3 rfl (map_get hy0) rfl) rfl rfl ?_)
          refine RX.consG rfl rfl rfl rfl rfl (op_w (yw_neq rfl rfl rfl) rfl rfl ?_)
          refine RX.cons rfl rfl (op_w (yw_pickT rfl rfl rfl) rfl rfl ?_)
          refine RX.cons rfl rfl (op_w (yw_move rfl rfl) rfl rfl ?_)
          refine RX.splitD (t := 79) (p := Ru.act x0 ≠ 1) rfl (fun d79 => ?_) (fun d79 => ?_)
          · refine RX.consG rfl rfl rfl rfl rfl (op_w (yw_move rfl rfl) rfl rfl ?_)
            refine RX.consG rfl rfl rfl rfl rfl (op_w (yw_move rfl rfl) rfl rfl ?_)
            refine RX.consG rfl rfl rfl rfl rfl (op_w (yw_index (k := i) rfl slt_30 rfl rfl (by omega) (by omega) hA7) rfl rfl ?_)
            refine RX.consG rfl rfl rfl rfl rfl (op_w (yw_field0 rfl fld_44_0 rfl) rfl rfl ?_)
            refine RX.consG rfl rfl rfl rfl rfl (op_yld (y_rowElemF (j := 0) (i := 0) rfl rfl one_3 rfl (map_get hy0) rfl) rfl rfl ?_)
            refine RX.consG rfl rfl rfl rfl rfl (op_w (yw_neq rfl rfl rfl) rfl rfl ?_)
            refine RX.cons rfl rfl (op_w (yw_pickT rfl rfl rfl) rfl rfl ?_)
            refine RX.cons rfl rfl (op_w (yw_assign rfl rfl) rfl rfl ?_)
            refine RX.nil (XX.inBlock (V' := [(1, _), (5, _), (7, _), (8, _), (9, _), (10, _), (11, _), (12, _)]) ⟨rfl, rfl, rfl, rfl, rfl, rfl, rfl, rfl, trivial⟩ ?_)
            refine XX.next (V' := [(1, _), (5, _), (7, _), (8, _), (9, _), (10, _), (11, _), (12, _)]) ⟨rfl, rfl, rfl, rfl, rfl, rfl, rfl, rfl, trivial⟩ ?_
            refine CX.ents (L' := [.row A7 c7 44 4 (List.map ruC (List.map easeR (List.take (i + 1) rs) ++ List.drop (i + 1) rs)), .row A1 c1 3 1 (List.map iR (List.map (jud rs ls) ls)), .row zc.1 zc.2 3 1 (List.map iR (List.map (jud (([] ++ rs) ++ [r]) ls) ls)), .blk g5 (.cells (ruC r) 44 (0, 0))]) (by rw [← map_same_step easeR hx0 (if_neg (by omega))] <;> rfl) ?_
            refine CX.region ?_
            refine RX.cons rfl rfl (op_w (yw_move rfl rfl) rfl rfl ?_)
            refine RX.cons rfl rfl (op_w (yw_add rfl rfl rfl (by omega) (by omega)) rfl rfl ?_)
            refine RX.cons rfl rfl (op_w (yw_assign rfl rfl) rfl rfl ?_)
            refine RX.nil (XX.againP ([]) (i + 1, decide (Ru.act x0 ≠ 2)) (by dsimp only; omega) ⟨by dsimp only; omega, by dsimp only; rw [all_snocB hx0, ← hnn, show nn = true from d71, show noJ x0 = decide (Ru.act x0 ≠ 2) from by unfold noJ; rw [decide_eq_true d79]; rfl] <;> rfl⟩ ⟨rfl, rfl, rfl, rfl, rfl, rfl, rfl, rfl, trivial⟩ ((perm_pick 0 rfl).trans (List.Perm.cons _ ((perm_pick 0 rfl).trans (List.Perm.cons _ ((perm_pick 0 rfl).trans (List.Perm.cons _ ((perm_pick 0 rfl).trans (List.Perm.cons _ (List.Perm.refl _))))))))))
          · refine RX.skip rfl rfl rfl rfl rfl rfl rfl ?_
            refine RX.skip rfl rfl rfl rfl rfl rfl rfl ?_
            refine RX.skip rfl rfl rfl rfl rfl rfl rfl ?_
            refine RX.skip rfl rfl rfl rfl rfl rfl rfl ?_
            refine RX.skip rfl rfl rfl rfl rfl rfl rfl ?_
            refine RX.skip rfl rfl rfl rfl rfl rfl rfl ?_
            refine RX.cons rfl rfl (op_w (yw_pickF rfl rfl rfl) rfl rfl ?_)
            refine RX.cons rfl rfl (op_w (yw_assign rfl rfl) rfl rfl ?_)
            refine RX.nil (XX.inBlock (V' := [(1, _), (5, _), (7, _), (8, _), (9, _), (10, _), (11, _), (12, _)]) ⟨rfl, rfl, rfl, rfl, rfl, rfl, rfl, rfl, trivial⟩ ?_)
            refine XX.next (V' := [(1, _), (5, _), (7, _), (8, _), (9, _), (10, _), (11, _), (12, _)]) ⟨rfl, rfl, rfl, rfl, rfl, rfl, rfl, rfl, trivial⟩ ?_
            refine CX.ents (L' := [.row A7 c7 44 4 (List.map ruC (List.map easeR (List.take (i + 1) rs) ++ List.drop (i + 1) rs)), .row A1 c1 3 1 (List.map iR (List.map (jud rs ls) ls)), .row zc.1 zc.2 3 1 (List.map iR (List.map (jud (([] ++ rs) ++ [r]) ls) ls)), .blk g5 (.cells (ruC r) 44 (0, 0))]) (by rw [← map_same_step easeR hx0 (if_neg (by omega))] <;> rfl) ?_
            refine CX.region ?_
            refine RX.cons rfl rfl (op_w (yw_move rfl rfl) rfl rfl ?_)
            refine RX.cons rfl rfl (op_w (yw_add rfl rfl rfl (by omega) (by omega)) rfl rfl ?_)
            refine RX.cons rfl rfl (op_w (yw_assign rfl rfl) rfl rfl ?_)
            refine RX.nil (XX.againP ([]) (i + 1, false) (by dsimp only; omega) ⟨by dsimp only; omega, by dsimp only; rw [all_snocB hx0, ← hnn, show nn = true from d71, show noJ x0 = false from by unfold noJ; rw [decide_eq_false d79]; rfl] <;> rfl⟩ ⟨rfl, rfl, rfl, rfl, rfl, rfl, rfl, rfl, trivial⟩ ((perm_pick 0 rfl).trans (List.Perm.cons _ ((perm_pick 0 rfl).trans (List.Perm.cons _ ((perm_pick 0 rfl).trans (List.Perm.cons _ ((perm_pick 0 rfl).trans (List.Perm.cons _ (List.Perm.refl _))))))))))
        · refine RX.skip rfl rfl rfl rfl rfl rfl rfl ?_
          refine RX.skip rfl rfl rfl rfl rfl rfl rfl ?_
          refine RX.skip rfl rfl rfl rfl rfl rfl rfl ?_
          refine RX.skip rfl rfl rfl rfl rfl rfl rfl ?_
          refine RX.skip rfl rfl rfl rfl rfl rfl rfl ?_
          refine RX.skip rfl rfl rfl rfl rfl rfl rfl ?_
          refine RX.cons rfl rfl (op_w (yw_pickF rfl rfl rfl) rfl rfl ?_)
          refine RX.cons rfl rfl (op_w (yw_move rfl rfl) rfl rfl ?_)
          refine RX.skip rfl rfl rfl rfl rfl rfl rfl ?_
          refine RX.skip rfl rfl rfl rfl rfl rfl rfl ?_
          refine RX.skip rfl rfl rfl rfl rfl rfl rfl ?_
          refine RX.skip rfl rfl rfl rfl rfl rfl rfl ?_
          refine RX.skip rfl rfl rfl rfl rfl rfl rfl ?_
          refine RX.skip rfl rfl rfl rfl rfl rfl rfl ?_
          refine RX.cons rfl rfl (op_w (yw_pickF rfl rfl rfl) rfl rfl ?_)
          refine RX.cons rfl rfl (op_w (yw_assign rfl rfl) rfl rfl ?_)
          refine RX.nil (XX.inBlock (V' := [(1, _), (5, _), (7, _), (8, _), (9, _), (10, _), (11, _), (12, _)]) ⟨rfl, rfl, rfl, rfl, rfl, rfl, rfl, rfl, trivial⟩ ?_)
          refine XX.next (V' := [(1, _), (5, _), (7, _), (8, _), (9, _), (10, _), (11, _), (12, _)]) ⟨rfl, rfl, rfl, rfl, rfl, rfl, rfl, rfl, trivial⟩ ?_
          refine CX.ents (L' := [.row A7 c7 44 4 (List.map ruC (List.map easeR (List.take (i + 1) rs) ++ List.drop (i + 1) rs)), .row A1 c1 3 1 (List.map iR (List.map (jud rs ls) ls)), .row zc.1 zc.2 3 1 (List.map iR (List.map (jud (([] ++ rs) ++ [r]) ls) ls)), .blk g5 (.cells (ruC r) 44 (0, 0))]) (by rw [← map_same_step easeR hx0 (if_neg (by omega))] <;> rfl) ?_
          refine CX.region ?_
          refine RX.cons rfl rfl (op_w (yw_move rfl rfl) rfl rfl ?_)
          refine RX.cons rfl rfl (op_w (yw_add rfl rfl rfl (by omega) (by omega)) rfl rfl ?_)
          refine RX.cons rfl rfl (op_w (yw_assign rfl rfl) rfl rfl ?_)
          refine RX.nil (XX.againP ([]) (i + 1, false) (by dsimp only; omega) ⟨by dsimp only; omega, by dsimp only; rw [all_snocB hx0, ← hnn, show nn = false from by simpa using d71] <;> rfl⟩ ⟨rfl, rfl, rfl, rfl, rfl, rfl, rfl, rfl, trivial⟩ ((perm_pick 0 rfl).trans (List.Perm.cons _ ((perm_pick 0 rfl).trans (List.Perm.cons _ ((perm_pick 0 rfl).trans (List.Perm.cons _ ((perm_pick 0 rfl).trans (List.Perm.cons _ (List.Perm.refl _))))))))))
    · obtain rfl : i = rs.length := by omega
      rw [List.take_length] at hnn
      refine CX.exit ?_
      refine XX.then_exit ?_
      refine XX.then_exit ?_
      refine XX.block_exit ?_
      refine XX.next (V' := [(1, _), (5, _), (7, _), (8, _), (9, _), (10, _), (11, _)]) ⟨rfl, rfl, rfl, rfl, rfl, rfl, rfl, trivial⟩ ?_
      refine CX.seq ?_
      refine CX.ents (L' := [.row A7 c7 44 4 (List.map ruC (List.map easeR rs)), .row A1 c1 3 1 (List.map iR (List.map (jud rs ls) ls)), .row zc.1 zc.2 3 1 (List.map iR (List.map (jud (([] ++ rs) ++ [r]) ls) ls)), .blk g5 (.cells (ruC r) 44 (0, 0))]) (by rw [List.take_length, List.drop_length, List.append_nil]) ?_
      refine CX.know (t := 10) (u := .slice A7 (List.length ((List.map easeR rs) : List Ru)) c7) rfl (by rw [List.length_map]) ?_
      refine CX.region ?_
      refine RX.cons rfl rfl (op_w (yw_move rfl rfl) rfl rfl ?_)
      refine RX.cons rfl rfl (op_w (yw_move rfl rfl) rfl rfl ?_)
      refine RX.cons rfl rfl (op_callE rfl rfl rfl rfl rfl ent_19 (fun w hw => w_Judge (List.map easeR rs) ls (Ent.rd (hw.ents _ (List.mem_of_getElem? (i := 0) rfl))) (hw.rd hr (by simp)) (by rw [List.length_map]; omega) (by omega)) (fun ⟨A3, c3⟩ _ => ?_))
      refine RX.cons rfl rfl (op_w (yw_assign rfl rfl) rfl rfl ?_)
      refine RX.nil (XX.next (V' := [(1, _), (5, _), (7, _), (8, _), (9, _), (11, _), (13, _)]) ⟨rfl, rfl, rfl, rfl, rfl, rfl, rfl, trivial⟩ ?_)
      refine CX.seq ?_
      refine CX.seq ?_
      refine CX.region ?_
      refine RX.cons rfl rfl (op_w (yw_move rfl rfl) rfl rfl ?_)
      refine RX.cons rfl rfl (op_w (yw_lenS rfl Try.underlying36 rfl) rfl rfl ?_)
      refine RX.cons rfl rfl (op_w (yw_move rfl rfl) rfl rfl ?_)
      refine RX.cons rfl rfl (op_w (yw_lenS rfl Try.underlying22 rfl) rfl rfl ?_)
      refine RX.cons rfl rfl (op_w (yw_neq rfl rfl rfl) rfl rfl ?_)
      refine RX.know (t := 94) (u := .bool false) rfl (congrArg Value.bool (decide_eq_false (by rw [List.length_map]; omega))) ?_
      refine RX.cons rfl rfl (op_w (yw_move rfl rfl) rfl rfl ?_)
      refine RX.consG rfl rfl rfl rfl rfl (op_w (yw_move rfl rfl) rfl rfl ?_)
      refine RX.consG rfl rfl rfl rfl rfl (op_w (yw_lenS rfl Try.underlying36 rfl) rfl rfl ?_)
      refine RX.consG rfl rfl rfl rfl rfl (op_w (yw_move rfl rfl) rfl rfl ?_)
      refine RX.consG rfl rfl rfl rfl rfl (op_w (yw_lenS rfl Try.underlying22 rfl) rfl rfl ?_)
      refine RX.consG rfl rfl rfl rfl rfl (op_w (yw_neq rfl rfl rfl) rfl rfl ?_)
      refine RX.know (t := 100) (u := .bool false) rfl (congrArg Value.bool (decide_eq_false (by rw [List.length_map]; omega))) ?_
      refine RX.cons rfl rfl (op_w (yw_pickF rfl rfl rfl) rfl rfl ?_)
      refine RX.cons rfl rfl (op_w (yw_move rfl rfl) rfl rfl ?_)
      refine RX.consG rfl rfl rfl rfl rfl (op_w (yw_move rfl rfl) rfl rfl ?_)
      refine RX.consG rfl rfl rfl rfl rfl (op_w (yw_lenS rfl Try.underlying36 rfl) rfl rfl ?_)
      refine RX.consG rfl rfl rfl rfl rfl (op_w (yw_move rfl rfl) rfl rfl ?_)
      refine RX.consG rfl rfl rfl rfl rfl (op_w (yw_lenS rfl Try.underlying22 rfl) rfl rfl ?_)
      refine RX.consG rfl rfl rfl rfl rfl (op_w (yw_neq rfl rfl rfl) rfl rfl ?_)
      refine RX.know (t := 107) (u := .bool false) rfl (congrArg Value.bool (decide_eq_false (by rw [List.length_map]; omega))) ?_
      refine RX.cons rfl rfl (op_w (yw_pickF rfl rfl rfl) rfl rfl ?_)
      refine RX.nil (XX.next (V' := [(1, _), (5, _), (7, _), (8, _), (9, _), (11, _), (13, _), (108, _)]) ⟨rfl, rfl, rfl, rfl, rfl, rfl, rfl, rfl, trivial⟩ ?_)
      refine CX.condF rfl ?_
      refine CX.skip (XX.next (V' := [(1, _), (5, _), (7, _), (8, _), (9, _), (11, _), (13, _)]) ⟨rfl, rfl, rfl, rfl, rfl, rfl, rfl, trivial⟩ ?_)
      refine CX.seq ?_
      refine CX.seq ?_
      refine CX.region ?_
      refine RX.cons rfl rfl (op_w (yw_assign rfl rfl) rfl rfl ?_)
      refine RX.nil (XX.next (V' := [(1, _), (5, _), (7, _), (8, _), (9, _), (11, _), (13, _), (14, _)]) ⟨rfl, rfl, rfl, rfl, rfl, rfl, rfl, rfl, trivial⟩ ?_)
      refine CX.block ?_
      refine CX.perm (L' := [.row A1 c1 3 1 (List.map iR (List.map (jud rs ls) ls)), .row zc.1 zc.2 3 1 (List.map iR (List.map (jud (([] ++ rs) ++ [r]) ls) ls)), .row A3 c3 3 1 (List.map iR (List.map (jud (List.map easeR rs) ls) ls)), .blk g5 (.cells (ruC r) 44 (0, 0)), .row A7 c7 44 4 (List.map ruC (List.map easeR rs))]) ((perm_pick 2 rfl).trans (List.Perm.cons _ ((perm_pick 2 rfl).trans (List.Perm.cons _ ((perm_pick 0 rfl).trans (List.Perm.cons _ ((perm_pick 1 rfl).trans (List.Perm.cons _ (List.Perm.refl _))))))))) ?_
      refine CX.drop (L' := [.row A1 c1 3 1 (List.map iR (List.map (jud rs ls) ls)), .row zc.1 zc.2 3 1 (List.map iR (List.map (jud (([] ++ rs) ++ [r]) ls) ls)), .row A3 c3 3 1 (List.map iR (List.map (jud (List.map easeR rs) ls) ls)), .blk g5 (.cells (ruC r) 44 (0, 0))]) (List.Sublist.cons_cons _ (List.Sublist.cons_cons _ (List.Sublist.cons_cons _ (List.Sublist.cons_cons _ (List.nil_sublist _))))) ?_
      refine CX.loop (σ := Nat) (fun i => [(1, .slice A ls.length cap), (5, .pointer (some ⟨g5, 0, none⟩)), (7, .bool true), (8, .slice A1 (List.length ((List.map (jud rs ls) ls) : List Int)) c1), (9, .slice zc.1 (List.length ((List.map (jud (([] ++ rs) ++ [r]) ls) ls) : List Int)) zc.2), (11, .bool nn), (13, .slice A3 (List.length ((List.map (jud (List.map easeR rs) ls) ls) : List Int)) c3), (14, .int .i64 ((i : Nat) : Int))]) (fun i => [.row A1 c1 3 1 (List.map iR (List.map (jud rs ls) ls)), .row zc.1 zc.2 3 1 (List.map iR (List.map (jud (([] ++ rs) ++ [r]) ls) ls)), .row A3 c3 3 1 (List.map iR (List.map (jud (List.map easeR rs) ls) ls)), .blk g5 (.cells (ruC r) 44 (0, 0))]) (fun i => i ≤ ls.length) (fun i => ls.length - i) 0 (Nat.zero_le _) ⟨rfl, rfl, rfl, rfl, rfl, rfl, rfl, rfl, trivial⟩ rfl (fun i hI => ?_)
      have hi := hI
      refine CX.seq ?_
      refine CX.seq ?_
      refine CX.region ?_
      refine RX.cons rfl rfl (op_w (yw_move rfl rfl) rfl rfl ?_)
      refine RX.cons rfl rfl (op_w (yw_move rfl rfl) rfl rfl ?_)
      refine RX.cons rfl rfl (op_w (yw_lenS rfl Try.underlying22 rfl) rfl rfl ?_)
      refine RX.cons rfl rfl (op_w (yw_lss rfl rfl rfl) rfl rfl ?_)
      refine RX.nil (XX.next (V' := [(1, _), (5, _), (7, _), (8, _), (9, _), (11, _), (13, _), (14, _), (112, _)]) ⟨rfl, rfl, rfl, rfl, rfl, rfl, rfl, rfl, rfl, trivial⟩ ?_)
      refine CX.condD (p := ((i : Nat) : Int) < ((ls.length : Nat) : Int)) rfl (fun c112 => ?_) (fun c112 => ?_)
      · obtain ⟨x0, hx0⟩ := get_some (l := ls) (k := i) (by omega)
        have hx0m := List.mem_of_getElem? hx0
        have q1 := jud_range rs ls x0
        have q2 : Ru.act r = 3 → (jud (([] ++ rs) ++ [r]) ls x0) ≤ (jud rs ls x0) := fun h => jud_allow (rs := rs) h
        have q3 : ¬ Ru.act r = 3 → (jud rs ls x0) ≤ (jud (([] ++ rs) ++ [r]) ls x0) := fun h => jud_more (rs := rs) h
        have q4 := jud_ease rs ls x0
        have q5 : nn = true → (jud rs ls x0) = 1 := fun h => noJ_none (hnn ▸ h)
        refine CX.rowSome 0 rfl (by simp <;> omega) (fun hj1 => ?_)
        refine CX.rowSome 1 rfl (by simp <;> omega) (fun hj2 => ?_)
        refine CX.rowSome 2 rfl (by simp <;> omega) (fun hj3 => ?_)
        refine CX.skip (XX.next (V' := [(1, _), (5, _), (7, _), (8, _), (9, _), (11, _), (13, _), (14, _)]) ⟨rfl, rfl, rfl, rfl, rfl, rfl, rfl, rfl, trivial⟩ ?_)
        refine CX.seq ?_
        refine CX.block ?_
        refine CX.seq ?_
        refine CX.seq ?_
        refine CX.draw 54 [(0, 256, 41538374868278621028243970633760768), (0, 16384, 83076749736557242056487941267521536), (3, 124615124604835863084731911901282304, 166153499473114484112975882535043072), (4, 166153499473114484112975882535043072, 332306998946228968225951765070086144), (8, 332306998946228968225951765070086144, 664613997892457936451903530140172288), (16, 664613997892457936451903530140172288, 1329227995784915872903807060280344576), (32, 1329227995784915872903807060280344832, 2658455991569831745807614120560689152), (32, 1329227995784915872903807060280360960, 5316911983139663491615228241121378304), (224, 9304595970494411110326649421962412032, 10633823966279326983230456482242756608), (288, 11963051962064242856134263542523101184, 21267647932558653966460912964485513216), (544, 22596875928343569839364720024765857792, 42535295865117307932921825928971026432), (1056, 43864523860902223805825632989251371008, 85070591730234615865843651857942052864), (2080, 85070591730234615865843651857942052864, 170141183460469231731687303715884105728), (4096, 170141183460469231731687303715884107776, 340282366920938463463374607431768211456), (12288, 510423550381407695195061911147652317184, 680564733841876926926749214863536422912), (16384, 680564733841876926926749214863536423168, 1361129467683753853853498429727072845824), (16384, 680564733841876926926749214863536439296, 2722258935367507707706996859454145691648), (114688, 4763953136893138488487244504044754960384, 5444517870735015415413993718908291383296), (147456, 6125082604576892342340742933771827806208, 10889035741470030830827987437816582766592), (278528, 11569600475311907757754736652680119189504, 21778071482940061661655974875633165533184), (544768, 22628777400242407820314411394212586061824, 43556142965880123323311949751266331066368), (1052672, 43726284149340592555043637054982215172096, 87112285931760246646623899502532662132736), (2113536, 87112285931760246646623899502532662132736, 174224571863520493293247799005065324265472), (4194304, 174224571863520493293247799005065324265504, 348449143727040986586495598010130648530944), (12582912, 522673715590561479879743397015195972796416, 696898287454081973172991196020261297061888), (20971520, 871122859317602466466238995025326621327360, 1393796574908163946345982392040522594123776), (37748736, 1568021146771684439639230191045587918389248, 2787593149816327892691964784081045188247552), (67108864, 2787593149816327892691964784081045188248064, 5575186299632655785383929568162090376495104), (67108864, 2787593149816327892691964784081045188263936, 11150372599265311570767859136324180752990208), (469762048, 19513152048714295248843753488567316317732864, 22300745198530623141535718272648361505980416), (603979776, 25088338348346951034227683056729406694227968, 44601490397061246283071436545296723011960832), (67108864, 2787593149816327892691964784081045188247808, 89202980794122492566142873090593446023921664), (67108864, 2787593149816327892691964784081045188263936, 178405961588244985132285746181186892047843328), (6509559808, 270396535532183805591120584055861383260012544, 356811923176489970264571492362373784095686656), (8657043456, 359599516326306298157263457146454829283934208, 713623846352979940529142984724747568191373312), (18320719872, 761012929899857514704906386054125336391581696, 1427247692705959881058285969449495136382746624), (34431041536, 1430209510427639729444271182032581246895259648, 2854495385411919762116571938898990272765493248), (68723671040, 2854669609983783282609865186697995338089758720, 5708990770823839524233143877797980545530986496), (137506062336, 5708990770823839524233143877797980545530986496, 11417981541647679048466287755595961091061972992), (274877906944, 11417981541647679048466287755595961091061973024, 22835963083295358096932575511191922182123945984), (824633720832, 34253944624943037145398863266787883273185918976, 45671926166590716193865151022383844364247891968), (1374389534720, 57089907708238395242331438777979805455309864960, 91343852333181432387730302044767688728495783936), (2473901162496, 102761833874829111436196589800363649819557756928, 182687704666362864775460604089535377456991567872), (4398046511104, 182687704666362864775460604089535377456991568384, 365375409332725729550921208179070754913983135744), (4398046511104, 182687704666362864775460604089535377456991584256, 730750818665451459101842416358141509827966271488), (30786325577728, 1278813932664540053428224228626747642198940975104, 1461501637330902918203684832716283019655932542976), (39582418599936, 1644189341997265782979145436805818397112924110848, 2923003274661805836407369665432566039311865085952), (4398046511104, 182687704666362864775460604089535377456991568128, 5846006549323611672814739330865132078623730171904), (4398046511104, 182687704666362864775460604089535377456991584256, 11692013098647223345629478661730264157247460343808), (426610511577088, 17720707352637197883219678596684931613328182083584, 23384026197294446691258957323460528314494920687616), (567347999932416, 23566713901960809556034417927550063691951912255488, 46768052394588893382517914646921056628989841375232), (1200666697531392, 49873743373917062083700744916443158045758698029056, 93536104789177786765035829293842113257979682750464), (2256472738103296, 93730210475385797308859756185687244596527736291328, 187072209578355573530071658587684226515959365500928), (4503874505277440, 187083627559897221209120124875439822477050427473920, 374144419156711147060143317175368453031918731001856)] (by kernel_rfl) (by kernel_rfl) (by kernel_rfl) ?_
        refine DX.takeW 0 1 (by kernel_rfl) rfl rfl rfl rfl rfl (yw_move rfl rfl) ?_
        refine DX.takeW 1 3 (by kernel_rfl) rfl rfl rfl rfl rfl (yw_move rfl rfl) ?_
        refine DX.takeW 2 7 (by kernel_rfl) rfl rfl rfl rfl rfl (yw_index (k := i) rfl slt_36 rfl rfl (by omega) (by rw [List.length_map]; omega) hj1) ?_
        refine DX.take 3 15 (by kernel_rfl) rfl rfl rfl rfl rfl (List.Sublist.refl _) (y_rowElem1 (i := 0) rfl rfl one_3 rfl (map_get (map_get hx0))) ?_
        refine DX.takeW 4 31 (by kernel_rfl) rfl rfl rfl rfl rfl (yw_lss rfl rfl rfl) ?_
        refine DX.know (t := 119) (u := .bool false) rfl (congrArg Value.bool (decide_eq_false (by omega))) ?_
        refine DX.takeW 5 63 (by kernel_rfl) rfl rfl rfl rfl rfl (yw_move rfl rfl) ?_
        refine DX.takeWG 6 127 (by kernel_rfl) rfl rfl rfl rfl rfl rfl rfl rfl (yw_move rfl rfl) ?_
        refine DX.takeWG 7 255 (by kernel_rfl) rfl rfl rfl rfl rfl rfl rfl rfl (yw_move rfl rfl) ?_
        refine DX.takeWG 8 511 (by kernel_rfl) rfl rfl rfl rfl rfl rfl rfl rfl (yw_index (k := i) rfl slt_36 rfl rfl (by omega) (by rw [List.length_map]; omega) hj1) ?_
        refine DX.takeG 9 1023 (by kernel_rfl) rfl rfl rfl rfl rfl rfl rfl rfl (List.Sublist.refl _) (y_rowElem1 (i := 0) rfl rfl one_3 rfl (map_get (map_get hx0))) ?_
        refine DX.takeWG 10 2047 (by kernel_rfl) rfl rfl rfl rfl rfl rfl rfl rfl (yw_gtr rfl rfl rfl) ?_
        refine DX.know (t := 125) (u := .bool false) rfl (congrArg Value.bool (decide_eq_false (by omega))) ?_
        refine DX.takeW 11 4095 (by kernel_rfl) rfl rfl rfl rfl rfl (yw_pickF rfl rfl rfl) ?_
        refine DX.takeW 12 8191 (by kernel_rfl) rfl rfl rfl rfl rfl (yw_move rfl rfl) ?_
        refine DX.takeWG 13 16383 (by kernel_rfl) rfl rfl rfl rfl rfl rfl rfl rfl (yw_move rfl rfl) ?_
        refine DX.takeWG 14 32767 (by kernel_rfl) rfl rfl rfl rfl rfl rfl rfl rfl (yw_move rfl rfl) ?_
        refine DX.split (t := 129) (b := nn) rfl (fun d129 => ?_) (fun d129 => ?_)
        · refine DX.takeWG 15 65535 (by kernel_rfl) rfl rfl rfl rfl rfl rfl rfl rfl (yw_move rfl rfl) ?_
          refine DX.takeWG 16 131071 (by kernel_rfl) rfl rfl rfl rfl rfl rfl rfl rfl (yw_move rfl rfl) ?_
          refine DX.takeWG 17 262143 (by kernel_rfl) rfl rfl rfl rfl rfl rfl rfl rfl (yw_index (k := i) rfl slt_36 rfl rfl (by omega) (by rw [List.length_map]; omega) hj1) ?_
          refine DX.takeG 18 524287 (by kernel_rfl) rfl rfl rfl rfl rfl rfl rfl rfl (List.Sublist.refl _) (y_rowElem1 (i := 0) rfl rfl one_3 rfl (map_get (map_get hx0))) ?_
          refine DX.takeWG 19 1048575 (by kernel_rfl) rfl rfl rfl rfl rfl rfl rfl rfl (yw_neq rfl rfl rfl) ?_
          refine DX.know (t := 134) (u := .bool false) rfl (congrArg Value.bool (decide_eq_false (by have := q5 d129; omega))) ?_
          refine DX.takeWG 20 2097151 (by kernel_rfl) rfl rfl rfl rfl rfl rfl rfl rfl (yw_pickT rfl rfl rfl) ?_
          refine DX.takeW 21 4194303 (by kernel_rfl) rfl rfl rfl rfl rfl (yw_pickF rfl rfl rfl) ?_
          refine DX.takeW 22 8388607 (by kernel_rfl) rfl rfl rfl rfl rfl (yw_move rfl rfl) ?_
          refine DX.takeWG 23 16777215 (by kernel_rfl) rfl rfl rfl rfl rfl rfl rfl rfl (yw_field0 rfl fld_44_0 rfl) ?_
          refine DX.takeG 24 33554431 (by kernel_rfl) rfl rfl rfl rfl rfl rfl rfl rfl (List.Sublist.refl _) (y_load (i := 3) rfl rfl one_3 rfl rfl) ?_
          refine DX.takeWG 25 67108863 (by kernel_rfl) rfl rfl rfl rfl rfl rfl rfl rfl (yw_eql rfl rfl rfl) ?_
          refine DX.takeWG 26 134217727 (by kernel_rfl) rfl rfl rfl rfl rfl rfl rfl rfl (yw_move rfl rfl) ?_
          refine DX.splitD (t := 141) (p := Ru.act r = 3) rfl (fun d141 => ?_) (fun d141 => ?_)
          · refine DX.takeWG 27 268435455 (by kernel_rfl) rfl rfl rfl rfl rfl rfl rfl rfl (yw_move rfl rfl) ?_
            refine DX.takeWG 28 536870911 (by kernel_rfl) rfl rfl rfl rfl rfl rfl rfl rfl (yw_move rfl rfl) ?_
            refine DX.takeWG 29 1073741823 (by kernel_rfl) rfl rfl rfl rfl rfl rfl rfl rfl (yw_index (k := i) rfl slt_36 rfl rfl (by omega) (by rw [List.length_map]; omega) hj2) ?_
            refine DX.takeG 30 2147483647 (by kernel_rfl) rfl rfl rfl rfl rfl rfl rfl rfl (List.Sublist.refl _) (y_rowElem1 (i := 1) rfl rfl one_3 rfl (map_get (map_get hx0))) ?_
            refine DX.takeWG 31 4294967295 (by kernel_rfl) rfl rfl rfl rfl rfl rfl rfl rfl (yw_move rfl rfl) ?_
            refine DX.takeWG 32 8589934591 (by kernel_rfl) rfl rfl rfl rfl rfl rfl rfl rfl (yw_move rfl rfl) ?_
            refine DX.takeWG 33 17179869183 (by kernel_rfl) rfl rfl rfl rfl rfl rfl rfl rfl (yw_index (k := i) rfl slt_36 rfl rfl (by omega) (by rw [List.length_map]; omega) hj1) ?_
            refine DX.takeG 34 34359738367 (by kernel_rfl) rfl rfl rfl rfl rfl rfl rfl rfl (List.Sublist.refl _) (y_rowElem1 (i := 0) rfl rfl one_3 rfl (map_get (map_get hx0))) ?_
            refine DX.takeWG 35 68719476735 (by kernel_rfl) rfl rfl rfl rfl rfl rfl rfl rfl (yw_gtr rfl rfl rfl) ?_
            refine DX.know (t := 150) (u := .bool false) rfl (congrArg Value.bool (decide_eq_false (by omega))) ?_
            refine DX.takeWG 36 137438953471 (by kernel_rfl) rfl rfl rfl rfl rfl rfl rfl rfl (yw_pickT rfl rfl rfl) ?_
            refine DX.takeW 37 274877906943 (by kernel_rfl) rfl rfl rfl rfl rfl (yw_pickF rfl rfl rfl) ?_
            refine DX.takeW 38 549755813887 (by kernel_rfl) rfl rfl rfl rfl rfl (yw_move rfl rfl) ?_
            refine DX.takeWG 39 1099511627775 (by kernel_rfl) rfl rfl rfl rfl rfl rfl rfl rfl (yw_field0 rfl fld_44_0 rfl) ?_
            refine DX.takeG 40 2199023255551 (by kernel_rfl) rfl rfl rfl rfl rfl rfl rfl rfl (List.Sublist.refl _) (y_load (i := 3) rfl rfl one_3 rfl rfl) ?_
            refine DX.takeWG 41 4398046511103 (by kernel_rfl) rfl rfl rfl rfl rfl rfl rfl rfl (yw_neq rfl rfl rfl) ?_
            refine DX.takeWG 42 8796093022207 (by kernel_rfl) rfl rfl rfl rfl rfl rfl rfl rfl (yw_move rfl rfl) ?_
            refine DX.splitD (t := 157) (p := Ru.act r ≠ 3) rfl (fun d157 => ?_) (fun d157 => ?_)
            · refine DX.takeWG 43 17592186044415 (by kernel_rfl) rfl rfl rfl rfl rfl rfl rfl rfl (yw_move rfl rfl) ?_
              refine DX.takeWG 44 35184372088831 (by kernel_rfl) rfl rfl rfl rfl rfl rfl rfl rfl (yw_move rfl rfl) ?_
              refine DX.takeWG 45 70368744177663 (by kernel_rfl) rfl rfl rfl rfl rfl rfl rfl rfl (yw_index (k := i) rfl slt_36 rfl rfl (by omega) (by rw [List.length_map]; omega) hj2) ?_
              refine DX.takeG 46 140737488355327 (by kernel_rfl) rfl rfl rfl rfl rfl rfl rfl rfl (List.Sublist.refl _) (y_rowElem1 (i := 1) rfl rfl one_3 rfl (map_get (map_get hx0))) ?_
              refine DX.takeWG 47 281474976710655 (by kernel_rfl) rfl rfl rfl rfl rfl rfl rfl rfl (yw_move rfl rfl) ?_
              refine DX.takeWG 48 562949953421311 (by kernel_rfl) rfl rfl rfl rfl rfl rfl rfl rfl (yw_move rfl rfl) ?_
              refine DX.takeWG 49 1125899906842623 (by kernel_rfl) rfl rfl rfl rfl rfl rfl rfl rfl (yw_index (k := i) rfl slt_36 rfl rfl (by omega) (by rw [List.length_map]; omega) hj1) ?_
              refine DX.takeG 50 2251799813685247 (by kernel_rfl) rfl rfl rfl rfl rfl rfl rfl rfl (List.Sublist.refl _) (y_rowElem1 (i := 0) rfl rfl one_3 rfl (map_get (map_get hx0))) ?_
              refine DX.takeWG 51 4503599627370495 (by kernel_rfl) rfl rfl rfl rfl rfl rfl rfl rfl (yw_lss rfl rfl rfl) ?_
              refine DX.know (t := 166) (u := .bool false) rfl (congrArg Value.bool (decide_eq_false (by omega))) ?_
              refine DX.takeWG 52 9007199254740991 (by kernel_rfl) rfl rfl rfl rfl rfl rfl rfl rfl (yw_pickT rfl rfl rfl) ?_
              refine DX.takeW 53 18014398509481983 (by kernel_rfl) rfl rfl rfl rfl rfl (yw_pickF rfl rfl rfl) ?_
              refine DX.done (by kernel_rfl) (XX.next (V' := [(1, _), (5, _), (7, _), (8, _), (9, _), (11, _), (13, _), (14, _), (168, _)]) ⟨rfl, rfl, rfl, rfl, rfl, rfl, rfl, rfl, rfl, trivial⟩ ?_)
              refine CX.condF rfl ?_
              refine CX.skip (XX.next (V' := [(1, _), (5, _), (7, _), (8, _), (9, _), (11, _), (13, _), (14, _)]) ⟨rfl, rfl, rfl, rfl, rfl, rfl, rfl, rfl, trivial⟩ ?_)
              refine CX.seq ?_
              refine CX.draw 9 [(0, 8192, 748288838313422294120286634350736906063837462003712), (0, 16384, 1496577676626844588240573268701473812127674924007424), (3, 2244866514940266882360859903052210718191512386011136, 2993155353253689176481146537402947624255349848014848), (4, 2993155353253689176481146537402947624255349848014848, 5986310706507378352962293074805895248510699696029696), (0, 256, 11972621413014756705924586149611790497021399392059392), (0, 16384, 23945242826029513411849172299223580994042798784118784), (48, 35917864239044270117773758448835371491064198176178176, 47890485652059026823698344598447161988085597568237568), (64, 47890485652059026823698344598447161988085597568237568, 95780971304118053647396689196894323976171195136475136), (136, 101767282010625432000358982271700219224681894832504832, 191561942608236107294793378393788647952342390272950272)] (by kernel_rfl) (by kernel_rfl) (by kernel_rfl) ?_
              refine DX.takeW 0 1 (by kernel_rfl) rfl rfl rfl rfl rfl (yw_move rfl rfl) ?_
              refine DX.takeW 1 3 (by kernel_rfl) rfl rfl rfl rfl rfl (yw_move rfl rfl) ?_
              refine DX.takeW 2 7 (by kernel_rfl) rfl rfl rfl rfl rfl (yw_index (k := i) rfl slt_36 rfl rfl (by omega) (by rw [List.length_map]; omega) hj3) ?_
              refine DX.take 3 15 (by kernel_rfl) rfl rfl rfl rfl rfl (List.Sublist.refl _) (y_rowElem1 (i := 2) rfl rfl one_3 rfl (map_get (map_get hx0))) ?_
              refine DX.takeW 4 31 (by kernel_rfl) rfl rfl rfl rfl rfl (yw_move rfl rfl) ?_
              refine DX.takeW 5 63 (by kernel_rfl) rfl rfl rfl rfl rfl (yw_move rfl rfl) ?_
              refine DX.takeW 6 127 (by kernel_rfl) rfl rfl rfl rfl rfl (yw_index (k := i) rfl slt_36 rfl rfl (by omega) (by rw [List.length_map]; omega) hj1) ?_
              refine DX.take 7 255 (by kernel_rfl) rfl rfl rfl rfl rfl (List.Sublist.refl _) (y_rowElem1 (i := 0) rfl rfl one_3 rfl (map_get (map_get hx0))) ?_
              refine DX.takeW 8 511 (by kernel_rfl) rfl rfl rfl rfl rfl (yw_gtr rfl rfl rfl) ?_
              refine DX.know (t := 177) (u := .bool false) rfl (congrArg Value.bool (decide_eq_false (by omega))) ?_
              refine DX.done (by kernel_rfl) (XX.next (V' := [(1, _), (5, _), (7, _), (8, _), (9, _), (11, _), (13, _), (14, _), (177, _)]) ⟨rfl, rfl, rfl, rfl, rfl, rfl, rfl, rfl, rfl, trivial⟩ ?_)
              refine CX.condF rfl ?_
              refine CX.skip (XX.inBlock (V' := [(1, _), (5, _), (7, _), (8, _), (9, _), (11, _), (13, _), (14, _)]) ⟨rfl, rfl, rfl, rfl, rfl, rfl, rfl, rfl, trivial⟩ ?_)
              refine XX.next (V' := [(1, _), (5, _), (7, _), (8, _), (9, _), (11, _), (13, _), (14, _)]) ⟨rfl, rfl, rfl, rfl, rfl, rfl, rfl, rfl, trivial⟩ ?_
              refine CX.region ?_
              refine RX.cons rfl rfl (op_w (yw_move rfl rfl) rfl rfl ?_)
              refine RX.cons rfl rfl (op_w (yw_add rfl rfl rfl (by omega) (by omega)) rfl rfl ?_)
              refine RX.cons rfl rfl (op_w (yw_assign rfl rfl) rfl rfl ?_)
              refine RX.nil (XX.againP ([]) (i + 1) (by omega) (by omega) ⟨rfl, rfl, rfl, rfl, rfl, rfl, rfl, rfl, trivial⟩ ((perm_pick 0 rfl).trans (List.Perm.cons _ ((perm_pick 0 rfl).trans (List.Perm.cons _ ((perm_pick 0 rfl).trans (List.Perm.cons _ ((perm_pick 0 rfl).trans (List.Perm.cons _ (List.Perm.refl _))))))))))
            · refine DX.skip 43 17592186044415 (by kernel_rfl) rfl rfl rfl rfl rfl rfl rfl rfl ?_
              refine DX.skip 44 35184372088831 (by kernel_rfl) rfl rfl rfl rfl rfl rfl rfl rfl ?_
              refine DX.skip 45 70368744177663 (by kernel_rfl) rfl rfl rfl rfl rfl rfl rfl rfl ?_
              refine DX.skip 46 140737488355327 (by kernel_rfl) rfl rfl rfl rfl rfl rfl rfl rfl ?_
              refine DX.skip 47 281474976710655 (by kernel_rfl) rfl rfl rfl rfl rfl rfl rfl rfl ?_
              refine DX.skip 48 562949953421311 (by kernel_rfl) rfl rfl rfl rfl rfl rfl rfl rfl ?_
              refine DX.skip 49 1125899906842623 (by kernel_rfl) rfl rfl rfl rfl rfl rfl rfl rfl ?_
              refine DX.skip 50 2251799813685247 (by kernel_rfl) rfl rfl rfl rfl rfl rfl rfl rfl ?_
              refine DX.skip 51 4503599627370495 (by kernel_rfl) rfl rfl rfl rfl rfl rfl rfl rfl ?_
              refine DX.takeWG 52 9007199254740991 (by kernel_rfl) rfl rfl rfl rfl rfl rfl rfl rfl (yw_pickF rfl rfl rfl) ?_
              refine DX.takeW 53 18014398509481983 (by kernel_rfl) rfl rfl rfl rfl rfl (yw_pickF rfl rfl rfl) ?_
              refine DX.done (by kernel_rfl) (XX.next (V' := [(1, _), (5, _), (7, _), (8, _), (9, _), (11, _), (13, _), (14, _), (168, _)]) ⟨rfl, rfl, rfl, rfl, rfl, rfl, rfl, rfl, rfl, trivial⟩ ?_)
              refine CX.condF rfl ?_
              refine CX.skip (XX.next (V' := [(1, _), (5, _), (7, _), (8, _), (9, _), (11, _), (13, _), (14, _)]) ⟨rfl, rfl, rfl, rfl, rfl, rfl, rfl, rfl, trivial⟩ ?_)
              refine CX.seq ?_
              refine CX.draw 9 [(0, 8192, 748288838313422294120286634350736906063837462003712), (0, 16384, 1496577676626844588240573268701473812127674924007424), (3, 2244866514940266882360859903052210718191512386011136, 2993155353253689176481146537402947624255349848014848), (4, 2993155353253689176481146537402947624255349848014848, 5986310706507378352962293074805895248510699696029696), (0, 256, 11972621413014756705924586149611790497021399392059392), (0, 16384, 23945242826029513411849172299223580994042798784118784), (48, 35917864239044270117773758448835371491064198176178176, 47890485652059026823698344598447161988085597568237568), (64, 47890485652059026823698344598447161988085597568237568, 95780971304118053647396689196894323976171195136475136), (136, 101767282010625432000358982271700219224681894832504832, 191561942608236107294793378393788647952342390272950272)] (by kernel_rfl) (by kernel_rfl) (by kernel_rfl) ?_
              refine DX.takeW 0 1 (by kernel_rfl) rfl rfl rfl rfl rfl (yw_move rfl rfl) ?_
              refine DX.takeW 1 3 (by kernel_rfl) rfl rfl rfl rfl rfl (yw_move rfl rfl) ?_
              refine DX.takeW 2 7 (by kernel_rfl) rfl rfl rfl rfl rfl (yw_index (k := i) rfl slt_36 rfl rfl (by omega) (by rw [List.length_map]; omega) hj3) ?_
              refine DX.take 3 15 (by kernel_rfl) rfl rfl rfl rfl rfl (List.Sublist.refl _) (y_rowElem1 (i := 2) rfl rfl one_3 rfl (map_get (map_get hx0))) ?_
              refine DX.takeW 4 31 (by kernel_rfl) rfl rfl rfl rfl rfl (yw_move rfl rfl) ?_
              refine DX.takeW 5 63 (by kernel_rfl) rfl rfl rfl rfl rfl (yw_move rfl rfl) ?_
              refine DX.takeW 6 127 (by kernel_rfl) rfl rfl rfl rfl rfl (yw_index (k := i) rfl slt_36 rfl rfl (by omega) (by rw [List.length_map]; omega) hj1) ?_
              refine DX.take 7 255 (by kernel_rfl) rfl rfl rfl rfl rfl (List.Sublist.refl _) (y_rowElem1 (i := 0) rfl rfl one_3 rfl (map_get (map_get hx0))) ?_
              refine DX.takeW 8 511 (by kernel_rfl) rfl rfl rfl rfl rfl (yw_gtr rfl rfl rfl) ?_
              refine DX.know (t := 177) (u := .bool false) rfl (congrArg Value.bool (decide_eq_false (by omega))) ?_
              refine DX.done (by kernel_rfl) (XX.next (V' := [(1, _), (5, _), (7, _), (8, _), (9, _), (11, _), (13, _), (14, _), (177, _)]) ⟨rfl, rfl, rfl, rfl, rfl, rfl, rfl, rfl, rfl, trivial⟩ ?_)
              refine CX.condF rfl ?_
              refine CX.skip (XX.inBlock (V' := [(1, _), (5, _), (7, _), (8, _), (9, _), (11, _), (13, _), (14, _)]) ⟨rfl, rfl, rfl, rfl, rfl, rfl, rfl, rfl, trivial⟩ ?_)
              refine XX.next (V' := [(1, _), (5, _), (7, _), (8, _), (9, _), (11, _), (13, _), (14, _)]) ⟨rfl, rfl, rfl, rfl, rfl, rfl, rfl, rfl, trivial⟩ ?_
              refine CX.region ?_
              refine RX.cons rfl rfl (op_w (yw_move rfl rfl) rfl rfl ?_)
              refine RX.cons rfl rfl (op_w (yw_add rfl rfl rfl (by omega) (by omega)) rfl rfl ?_)
              refine RX.cons rfl rfl (op_w (yw_assign rfl rfl) rfl rfl ?_)
              refine RX.nil (XX.againP ([]) (i + 1) (by omega) (by omega) ⟨rfl, rfl, rfl, rfl, rfl, rfl, rfl, rfl, trivial⟩ ((perm_pick 0 rfl).trans (List.Perm.cons _ ((perm_pick 0 rfl).trans (List.Perm.cons _ ((perm_pick 0 rfl).trans (List.Perm.cons _ ((perm_pick 0 rfl).trans (List.Perm.cons _ (List.Perm.refl _))))))))))
          · refine DX.skip 27 268435455 (by kernel_rfl) rfl rfl rfl rfl rfl rfl rfl rfl ?_
            refine DX.skip 28 536870911 (by kernel_rfl) rfl rfl rfl rfl rfl rfl rfl rfl ?_
            refine DX.skip 29 1073741823 (by kernel_rfl) rfl rfl rfl rfl rfl rfl rfl rfl ?_
            refine DX.skip 30 2147483647 (by kernel_rfl) rfl rfl rfl rfl rfl rfl rfl rfl ?_
            refine DX.skip 31 4294967295 (by kernel_rfl) rfl rfl rfl rfl rfl rfl rfl rfl ?_
            refine DX.skip 32 8589934591 (by kernel_rfl) rfl rfl rfl rfl rfl rfl rfl rfl ?_
            refine DX.skip 33 17179869183 (by kernel_rfl) rfl rfl rfl rfl rfl rfl rfl rfl ?_
            refine DX.skip 34 34359738367 (by kernel_rfl) rfl rfl rfl rfl rfl rfl rfl rfl ?_
            refine DX.skip 35 68719476735 (by kernel_rfl) rfl rfl rfl rfl rfl rfl rfl rfl ?_
            refine DX.takeWG 36 137438953471 (by kernel_rfl) rfl rfl rfl rfl rfl rfl rfl rfl (yw_pickF rfl rfl rfl) ?_
            refine DX.takeW 37 274877906943 (by kernel_rfl) rfl rfl rfl rfl rfl (yw_pickF rfl rfl rfl) ?_
            refine DX.takeW 38 549755813887 (by kernel_rfl) rfl rfl rfl rfl rfl (yw_move rfl rfl) ?_
            refine DX.takeWG 39 1099511627775 (by kernel_rfl) rfl rfl rfl rfl rfl rfl rfl rfl (yw_field0 rfl fld_44_0 rfl) ?_
            refine DX.takeG 40 2199023255551 (by kernel_rfl) rfl rfl rfl rfl rfl rfl rfl rfl (List.Sublist.refl _) (y_load (i := 3) rfl rfl one_3 rfl rfl) ?_
            refine DX.takeWG 41 4398046511103 (by kernel_rfl) rfl rfl rfl rfl rfl rfl rfl rfl (yw_neq rfl rfl rfl) ?_
            refine DX.takeWG 42 8796093022207 (by kernel_rfl) rfl rfl rfl rfl rfl rfl rfl rfl (yw_move rfl rfl) ?_
            refine DX.splitD (t := 157) (p := Ru.act r ≠ 3) rfl (fun d157 => ?_) (fun d157 => ?_)
            · refine DX.takeWG 43 17592186044415 (by kernel_rfl) rfl rfl rfl rfl rfl rfl rfl rfl (yw_move rfl rfl) ?_
              refine DX.takeWG 44 35184372088831 (by kernel_rfl) rfl rfl rfl rfl rfl rfl rfl rfl (yw_move rfl rfl) ?_
              refine DX.takeWG 45 70368744177663 (by kernel_rfl) rfl rfl rfl rfl rfl rfl rfl rfl (yw_index (k := i) rfl slt_36 rfl rfl (by omega) (by rw [List.length_map]; omega) hj2) ?_
              refine DX.takeG 46 140737488355327 (by kernel_rfl) rfl rfl rfl rfl rfl rfl rfl rfl (List.Sublist.refl _) (y_rowElem1 (i := 1) rfl rfl one_3 rfl (map_get (map_get hx0))) ?_
              refine DX.takeWG 47 281474976710655 (by kernel_rfl) rfl rfl rfl rfl rfl rfl rfl rfl (yw_move rfl rfl) ?_
              refine DX.takeWG 48 562949953421311 (by kernel_rfl) rfl rfl rfl rfl rfl rfl rfl rfl (yw_move rfl rfl) ?_
              refine DX.takeWG 49 1125899906842623 (by kernel_rfl) rfl rfl rfl rfl rfl rfl rfl rfl (yw_index (k := i) rfl slt_36 rfl rfl (by omega) (by rw [List.length_map]; omega) hj1) ?_
              refine DX.takeG 50 2251799813685247 (by kernel_rfl) rfl rfl rfl rfl rfl rfl rfl rfl (List.Sublist.refl _) (y_rowElem1 (i := 0) rfl rfl one_3 rfl (map_get (map_get hx0))) ?_
              refine DX.takeWG 51 4503599627370495 (by kernel_rfl) rfl rfl rfl rfl rfl rfl rfl rfl (yw_lss rfl rfl rfl) ?_
              refine DX.know (t := 166) (u := .bool false) rfl (congrArg Value.bool (decide_eq_false (by omega))) ?_
              refine DX.takeWG 52 9007199254740991 (by kernel_rfl) rfl rfl rfl rfl rfl rfl rfl rfl (yw_pickT rfl rfl rfl) ?_
              refine DX.takeW 53 18014398509481983 (by kernel_rfl) rfl rfl rfl rfl rfl (yw_pickF rfl rfl rfl) ?_
              refine DX.done (by kernel_rfl) (XX.next (V' := [(1, _), (5, _), (7, _), (8, _), (9, _), (11, _), (13, _), (14, _), (168, _)]) ⟨rfl, rfl, rfl, rfl, rfl, rfl, rfl, rfl, rfl, trivial⟩ ?_)
              refine CX.condF rfl ?_
              refine CX.skip (XX.next (V' := [(1, _), (5, _), (7, _), (8, _), (9, _), (11, _), (13, _), (14, _)]) ⟨rfl, rfl, rfl, rfl, rfl, rfl, rfl, rfl, trivial⟩ ?_)
              refine CX.seq ?_
              refine CX.draw 9 [(0, 8192, 748288838313422294120286634350736906063837462003712), (0, 16384, 1496577676626844588240573268701473812127674924007424), (3, 2244866514940266882360859903052210718191512386011136, 2993155353253689176481146537402947624255349848014848), (4, 2993155353253689176481146537402947624255349848014848, 5986310706507378352962293074805895248510699696029696), (0, 256, 11972621413014756705924586149611790497021399392059392), (0, 16384, 23945242826029513411849172299223580994042798784118784), (48, 35917864239044270117773758448835371491064198176178176, 47890485652059026823698344598447161988085597568237568), (64, 47890485652059026823698344598447161988085597568237568, 95780971304118053647396689196894323976171195136475136), (136, 101767282010625432000358982271700219224681894832504832, 191561942608236107294793378393788647952342390272950272)] (by kernel_rfl) (by kernel_rfl) (by kernel_rfl) ?_
              refine DX.takeW 0 1 (by kernel_rfl) rfl rfl rfl rfl rfl (yw_move rfl rfl) ?_
              refine DX.takeW 1 3 (by kernel_rfl) rfl rfl rfl rfl rfl (yw_move rfl rfl) ?_
              refine DX.takeW 2 7 (by kernel_rfl) rfl rfl rfl rfl rfl (yw_index (k := i) rfl slt_36 rfl rfl (by omega) (by rw [List.length_map]; omega) hj3) ?_
              refine DX.take 3 15 (by kernel_rfl) rfl rfl rfl rfl rfl (List.Sublist.refl _) (y_rowElem1 (i := 2) rfl rfl one_3 rfl (map_get (map_get hx0))) ?_
              refine DX.takeW 4 31 (by kernel_rfl) rfl rfl rfl rfl rfl (yw_move rfl rfl) ?_
              refine DX.takeW 5 63 (by kernel_rfl) rfl rfl rfl rfl rfl (yw_move rfl rfl) ?_
              refine DX.takeW 6 127 (by kernel_rfl) rfl rfl rfl rfl rfl (yw_index (k := i) rfl slt_36 rfl rfl (by omega) (by rw [List.length_map]; omega) hj1) ?_
              refine DX.take 7 255 (by kernel_rfl) rfl rfl rfl rfl rfl (List.Sublist.refl _) (y_rowElem1 (i := 0) rfl rfl one_3 rfl (map_get (map_get hx0))) ?_
              refine DX.takeW 8 511 (by kernel_rfl) rfl rfl rfl rfl rfl (yw_gtr rfl rfl rfl) ?_
              refine DX.know (t := 177) (u := .bool false) rfl (congrArg Value.bool (decide_eq_false (by omega))) ?_
              refine DX.done (by kernel_rfl) (XX.next (V' := [(1, _), (5, _), (7, _), (8, _), (9, _), (11, _), (13, _), (14, _), (177, _)]) ⟨rfl, rfl, rfl, rfl, rfl, rfl, rfl, rfl, rfl, trivial⟩ ?_)
              refine CX.condF rfl ?_
              refine CX.skip (XX.inBlock (V' := [(1, _), (5, _), (7, _), (8, _), (9, _), (11, _), (13, _), (14, _)]) ⟨rfl, rfl, rfl, rfl, rfl, rfl, rfl, rfl, trivial⟩ ?_)
              refine XX.next (V' := [(1, _), (5, _), (7, _), (8, _), (9, _), (11, _), (13, _), (14, _)]) ⟨rfl, rfl, rfl, rfl, rfl, rfl, rfl, rfl, trivial⟩ ?_
              refine CX.region ?_
              refine RX.cons rfl rfl (op_w (yw_move rfl rfl) rfl rfl ?_)
              refine RX.cons rfl rfl (op_w (yw_add rfl rfl rfl (by omega) (by omega)) rfl rfl ?_)
              refine RX.cons rfl rfl (op_w (yw_assign rfl rfl) rfl rfl ?_)
              refine RX.nil (XX.againP ([]) (i + 1) (by omega) (by omega) ⟨rfl, rfl, rfl, rfl, rfl, rfl, rfl, rfl, trivial⟩ ((perm_pick 0 rfl).trans (List.Perm.cons _ ((perm_pick 0 rfl).trans (List.Perm.cons _ ((perm_pick 0 rfl).trans (List.Perm.cons _ ((perm_pick 0 rfl).trans (List.Perm.cons _ (List.Perm.refl _))))))))))
            · refine DX.skip 43 17592186044415 (by kernel_rfl) rfl rfl rfl rfl rfl rfl rfl rfl ?_
              refine DX.skip 44 35184372088831 (by kernel_rfl) rfl rfl rfl rfl rfl rfl rfl rfl ?_
              refine DX.skip 45 70368744177663 (by kernel_rfl) rfl rfl rfl rfl rfl rfl rfl rfl ?_
              refine DX.skip 46 140737488355327 (by kernel_rfl) rfl rfl rfl rfl rfl rfl rfl rfl ?_
              refine DX.skip 47 281474976710655 (by kernel_rfl) rfl rfl rfl rfl rfl rfl rfl rfl ?_
              refine DX.skip 48 562949953421311 (by kernel_rfl) rfl rfl rfl rfl rfl rfl rfl rfl ?_
              refine DX.skip 49 1125899906842623 (by kernel_rfl) rfl rfl rfl rfl rfl rfl rfl rfl ?_
              refine DX.skip 50 2251799813685247 (by kernel_rfl) rfl rfl rfl rfl rfl rfl rfl rfl ?_
              refine DX.skip 51 4503599627370495 (by kernel_rfl) rfl rfl rfl rfl rfl rfl rfl rfl ?_
              refine DX.takeWG 52 9007199254740991 (by kernel_rfl) rfl rfl rfl rfl rfl rfl rfl rfl (yw_pickF rfl rfl rfl) ?_
              refine DX.takeW 53 18014398509481983 (by kernel_rfl) rfl rfl rfl rfl rfl (yw_pickF rfl rfl rfl) ?_
              refine DX.done (by kernel_rfl) (XX.next (V' := [(1, _), (5, _), (7, _), (8, _), (9, _), (11, _), (13, _), (14, _), (168, _)]) ⟨rfl, rfl, rfl, rfl, rfl, rfl, rfl, rfl, rfl, trivial⟩ ?_)
              refine CX.condF rfl ?_
              refine CX.skip (XX.next (V' := [(1, _), (5, _), (7, _), (8, _), (9, _), (11, _), (13, _), (14, _)]) ⟨rfl, rfl, rfl, rfl, rfl, rfl, rfl, rfl, trivial⟩ ?_)
              refine CX.seq ?_
              refine CX.draw 9 [(0, 8192, 748288838313422294120286634350736906063837462003712), (0, 16384, 1496577676626844588240573268701473812127674924007424), (3, 2244866514940266882360859903052210718191512386011136, 2993155353253689176481146537402947624255349848014848), (4, 2993155353253689176481146537402947624255349848014848, 5986310706507378352962293074805895248510699696029696), (0, 256, 11972621413014756705924586149611790497021399392059392), (0, 16384, 23945242826029513411849172299223580994042798784118784), (48, 35917864239044270117773758448835371491064198176178176, 47890485652059026823698344598447161988085597568237568), (64, 47890485652059026823698344598447161988085597568237568, 95780971304118053647396689196894323976171195136475136), (136, 101767282010625432000358982271700219224681894832504832, 191561942608236107294793378393788647952342390272950272)] (by kernel_rfl) (by kernel_rfl) (by kernel_rfl) ?_
              refine DX.takeW 0 1 (by kernel_rfl) rfl rfl rfl rfl rfl (yw_move rfl rfl) ?_
              refine DX.takeW 1 3 (by kernel_rfl) rfl rfl rfl rfl rfl (yw_move rfl rfl) ?_
              refine DX.takeW 2 7 (by kernel_rfl) rfl rfl rfl rfl rfl (yw_index (k := i) rfl slt_36 rfl rfl (by omega) (by rw [List.length_map]; omega) hj3) ?_
              refine DX.take 3 15 (by kernel_rfl) rfl rfl rfl rfl rfl (List.Sublist.refl _) (y_rowElem1 (i := 2) rfl rfl one_3 rfl (map_get (map_get hx0))) ?_
              refine DX.takeW 4 31 (by kernel_rfl) rfl rfl rfl rfl rfl (yw_move rfl rfl) ?_
              refine DX.takeW 5 63 (by kernel_rfl) rfl rfl rfl rfl rfl (yw_move rfl rfl) ?_
              refine DX.takeW 6 127 (by kernel_rfl) rfl rfl rfl rfl rfl (yw_index (k := i) rfl slt_36 rfl rfl (by omega) (by rw [List.length_map]; omega) hj1) ?_
              refine DX.take 7 255 (by kernel_rfl) rfl rfl rfl rfl rfl (List.Sublist.refl _) (y_rowElem1 (i := 0) rfl rfl one_3 rfl (map_get (map_get hx0))) ?_
              refine DX.takeW 8 511 (by kernel_rfl) rfl rfl rfl rfl rfl (yw_gtr rfl rfl rfl) ?_
              refine DX.know (t := 177) (u := .bool false) rfl (congrArg Value.bool (decide_eq_false (by omega))) ?_
              refine DX.done (by kernel_rfl) (XX.next (V' := [(1, _), (5, _), (7, _), (8, _), (9, _), (11, _), (13, _), (14, _), (177, _)]) ⟨rfl, rfl, rfl, rfl, rfl, rfl, rfl, rfl, rfl, trivial⟩ ?_)
              refine CX.condF rfl ?_
              refine CX.skip (XX.inBlock (V' := [(1, _), (5, _), (7, _), (8, _), (9, _), (11, _), (13, _), (14, _)]) ⟨rfl, rfl, rfl, rfl, rfl, rfl, rfl, rfl, trivial⟩ ?_)
              refine XX.next (V' := [(1, _), (5, _), (7, _), (8, _), (9, _), (11, _), (13, _), (14, _)]) ⟨rfl, rfl, rfl, rfl, rfl, rfl, rfl, rfl, trivial⟩ ?_
              refine CX.region ?_
              refine RX.cons rfl rfl (op_w (yw_move rfl rfl) rfl rfl ?_)
              refine RX.cons rfl rfl (op_w (yw_add rfl rfl rfl (by omega) (by omega)) rfl rfl ?_)
              refine RX.cons rfl rfl (op_w (yw_assign rfl rfl) rfl rfl ?_)
              refine RX.nil (XX.againP ([]) (i + 1) (by omega) (by omega) ⟨rfl, rfl, rfl, rfl, rfl, rfl, rfl, rfl, trivial⟩ ((perm_pick 0 rfl).trans (List.Perm.cons _ ((perm_pick 0 rfl).trans (List.Perm.cons _ ((perm_pick 0 rfl).trans (List.Perm.cons _ ((perm_pick 0 rfl).trans (List.Perm.cons _ (List.Perm.refl _))))))))))
        · refine DX.skip 15 65535 (by kernel_rfl) rfl rfl rfl rfl rfl rfl rfl rfl ?_
          refine DX.skip 16 131071 (by kernel_rfl) rfl rfl rfl rfl rfl rfl rfl rfl ?_
          refine DX.skip 17 262143 (by kernel_rfl) rfl rfl rfl rfl rfl rfl rfl rfl ?_
          refine DX.skip 18 524287 (by kernel_rfl) rfl rfl rfl rfl rfl rfl rfl rfl ?_
          refine DX.skip 19 1048575 (by kernel_rfl) rfl rfl rfl rfl rfl rfl rfl rfl ?_
          refine DX.takeWG 20 2097151 (by kernel_rfl) rfl rfl rfl rfl rfl rfl rfl rfl (yw_pickF rfl rfl rfl) ?_
          refine DX.takeW 21 4194303 (by kernel_rfl) rfl rfl rfl rfl rfl (yw_pickF rfl rfl rfl) ?_
          refine DX.takeW 22 8388607 (by kernel_rfl) rfl rfl rfl rfl rfl (yw_move rfl rfl) ?_
          refine DX.takeWG 23 16777215 (by kernel_rfl) rfl rfl rfl rfl rfl rfl rfl rfl (yw_field0 rfl fld_44_0 rfl) ?_
          refine DX.takeG 24 33554431 (by kernel_rfl) rfl rfl rfl rfl rfl rfl rfl rfl (List.Sublist.refl _) (y_load (i := 3) rfl rfl one_3 rfl rfl) ?_
          refine DX.takeWG 25 67108863 (by kernel_rfl) rfl rfl rfl rfl rfl rfl rfl rfl (yw_eql rfl rfl rfl) ?_
          refine DX.takeWG 26 134217727 (by kernel_rfl) rfl rfl rfl rfl rfl rfl rfl rfl (yw_move rfl rfl) ?_
          refine DX.splitD (t := 141) (p := Ru.act r = 3) rfl (fun d141 => ?_) (fun d141 => ?_)
          · refine DX.takeWG 27 268435455 (by kernel_rfl) rfl rfl rfl rfl rfl rfl rfl rfl (yw_move rfl rfl) ?_
            refine DX.takeWG 28 536870911 (by kernel_rfl) rfl rfl rfl rfl rfl rfl rfl rfl (yw_move rfl rfl) ?_
            refine DX.takeWG 29 1073741823 (by kernel_rfl) rfl rfl rfl rfl rfl rfl rfl rfl (yw_index (k := i) rfl slt_36 rfl rfl (by omega) (by rw [List.length_map]; omega) hj2) ?_
            refine DX.takeG 30 2147483647 (by kernel_rfl) rfl rfl rfl rfl rfl rfl rfl rfl (List.Sublist.refl _) (y_rowElem1 (i := 1) rfl rfl one_3 rfl (map_get (map_get hx0))) ?_
            refine DX.takeWG 31 4294967295 (by kernel_rfl) rfl rfl rfl rfl rfl rfl rfl rfl (yw_move rfl rfl) ?_
            refine DX.takeWG 32 8589934591 (by kernel_rfl) rfl rfl rfl rfl rfl rfl rfl rfl (yw_move rfl rfl) ?_
            refine DX.takeWG 33 17179869183 (by kernel_rfl) rfl rfl rfl rfl rfl rfl rfl rfl (yw_index (k := i) rfl slt_36 rfl rfl (by omega) (by rw [List.length_map]; omega) hj1) ?_
            refine DX.takeG 34 34359738367 (by kernel_rfl) rfl rfl rfl rfl rfl rfl rfl rfl (List.Sublist.refl _) (y_rowElem1 (i := 0) rfl rfl one_3 rfl (map_get (map_get hx0))) ?_
            refine DX.takeWG 35 68719476735 (by kernel_rfl) rfl rfl rfl rfl rfl rfl rfl rfl (yw_gtr rfl rfl rfl) ?_
            refine DX.know (t := 150) (u := .bool false) rfl (congrArg Value.bool (decide_eq_false (by omega))) ?_
            refine DX.takeWG 36 137438953471 (by kernel_rfl) rfl rfl rfl rfl rfl rfl rfl rfl (yw_pickT rfl rfl rfl) ?_
            refine DX.takeW 37 274877906943 (by kernel_rfl) rfl rfl rfl rfl rfl (yw_pickF rfl rfl rfl) ?_
            refine DX.takeW 38 549755813887 (by kernel_rfl) rfl rfl rfl rfl rfl (yw_move rfl rfl) ?_
            refine DX.takeWG 39 1099511627775 (by kernel_rfl) rfl rfl rfl rfl rfl rfl rfl rfl (yw_field0 rfl fld_44_0 rfl) ?_
            refine DX.takeG 40 2199023255551 (by kernel_rfl) rfl rfl rfl rfl rfl rfl rfl rfl (List.Sublist.refl _) (y_load (i := 3) rfl rfl one_3 rfl rfl) ?_
            refine DX.takeWG 41 4398046511103 (by kernel_rfl) rfl rfl rfl rfl rfl rfl rfl rfl (yw_neq rfl rfl rfl) ?_
            refine DX.takeWG 42 8796093022207 (by kernel_rfl) rfl rfl rfl rfl rfl rfl rfl rfl (yw_move rfl rfl) ?_
            refine DX.splitD (t := 157) (p := Ru.act r ≠ 3) rfl (fun d157 => ?_) (fun d157 => ?_)
            · refine DX.takeWG 43 17592186044415 (by kernel_rfl) rfl rfl rfl rfl rfl rfl rfl rfl (yw_move rfl rfl) ?_
              refine DX.takeWG 44 35184372088831 (by kernel_rfl) rfl rfl rfl rfl rfl rfl rfl rfl (yw_move rfl rfl) ?_
              refine DX.takeWG 45 70368744177663 (by kernel_rfl) rfl rfl rfl rfl rfl rfl rfl rfl (yw_index (k := i) rfl slt_36 rfl rfl (by omega) (by rw [List.length_map]; omega) hj2) ?_
              refine DX.takeG 46 140737488355327 (by kernel_rfl) rfl rfl rfl rfl rfl rfl rfl rfl (List.Sublist.refl _) (y_rowElem1 (i := 1) rfl rfl one_3 rfl (map_get (map_get hx0))) ?_
              refine DX.takeWG 47 281474976710655 (by kernel_rfl) rfl rfl rfl rfl rfl rfl rfl rfl (yw_move rfl rfl) ?_
              refine DX.takeWG 48 562949953421311 (by kernel_rfl) rfl rfl rfl rfl rfl rfl rfl rfl (yw_move rfl rfl) ?_
              refine DX.takeWG 49 1125899906842623 (by kernel_rfl) rfl rfl rfl rfl rfl rfl rfl rfl (yw_index (k := i) rfl slt_36 rfl rfl (by omega) (by rw [List.length_map]; omega) hj1) ?_
              refine DX.takeG 50 2251799813685247 (by kernel_rfl) rfl rfl rfl rfl rfl rfl rfl rfl (List.Sublist.refl _) (y_rowElem1 (i := 0) rfl rfl one_3 rfl (map_get (map_get hx0))) ?_
              refine DX.takeWG 51 4503599627370495 (by kernel_rfl) rfl rfl rfl rfl rfl rfl rfl rfl (yw_lss rfl rfl rfl) ?_
              refine DX.know (t := 166) (u := .bool false) rfl (congrArg Value.bool (decide_eq_false (by omega))) ?_
              refine DX.takeWG 52 9007199254740991 (by kernel_rfl) rfl rfl rfl rfl rfl rfl rfl rfl (yw_pickT rfl rfl rfl) ?_
              refine DX.takeW 53 18014398509481983 (by kernel_rfl) rfl rfl rfl rfl rfl (yw_pickF rfl rfl rfl) ?_
              refine DX.done (by kernel_rfl) (XX.next (V' := [(1, _), (5, _), (7, _), (8, _), (9, _), (11, _), (13, _), (14, _), (168, _)]) ⟨rfl, rfl, rfl, rfl, rfl, rfl, rfl, rfl, rfl, trivial⟩ ?_)
              refine CX.condF rfl ?_
              refine CX.skip (XX.next (V' := [(1, _), (5, _), (7, _), (8, _), (9, _), (11, _), (13, _), (14, _)]) ⟨rfl, rfl, rfl, rfl, rfl, rfl, rfl, rfl, trivial⟩ ?_)
              refine CX.seq ?_
              refine CX.draw 9 [(0, 8192, 748288838313422294120286634350736906063837462003712), (0, 16384, 1496577676626844588240573268701473812127674924007424), (3, 2244866514940266882360859903052210718191512386011136, 2993155353253689176481146537402947624255349848014848), (4, 2993155353253689176481146537402947624255349848014848, 5986310706507378352962293074805895248510699696029696), (0, 256, 11972621413014756705924586149611790497021399392059392), (0, 16384, 23945242826029513411849172299223580994042798784118784), (48, 35917864239044270117773758448835371491064198176178176, 47890485652059026823698344598447161988085597568237568), (64, 47890485652059026823698344598447161988085597568237568, 95780971304118053647396689196894323976171195136475136), (136, 101767282010625432000358982271700219224681894832504832, 191561942608236107294793378393788647952342390272950272)] (by kernel_rfl) (by kernel_rfl) (by kernel_rfl) ?_
              refine DX.takeW 0 1 (by kernel_rfl) rfl rfl rfl rfl rfl (yw_move rfl rfl) ?_
              refine DX.takeW 1 3 (by kernel_rfl) rfl rfl rfl rfl rfl (yw_move rfl rfl) ?_
              refine DX.takeW 2 7 (by kernel_rfl) rfl rfl rfl rfl rfl (yw_index (k := i) rfl slt_36 rfl rfl (by omega) (by rw [List.length_map]; omega) hj3) ?_
              refine DX.take 3 15 (by kernel_rfl) rfl rfl rfl rfl rfl (List.Sublist.refl _) (y_rowElem1 (i := 2) rfl rfl one_3 rfl (map_get (map_get hx0))) ?_
              refine DX.takeW 4 31 (by kernel_rfl) rfl rfl rfl rfl rfl (yw_move rfl rfl) ?_
              refine DX.takeW 5 63 (by kernel_rfl) rfl rfl rfl rfl rfl (yw_move rfl rfl) ?_
              refine DX.takeW 6 127 (by kernel_rfl) rfl rfl rfl rfl rfl (yw_index (k := i) rfl slt_36 rfl rfl (by omega) (by rw [List.length_map]; omega) hj1) ?_
              refine DX.take 7 255 (by kernel_rfl) rfl rfl rfl rfl rfl (List.Sublist.refl _) (y_rowElem1 (i := 0) rfl rfl one_3 rfl (map_get (map_get hx0))) ?_
              refine DX.takeW 8 511 (by kernel_rfl) rfl rfl rfl rfl rfl (yw_gtr rfl rfl rfl) ?_
              refine DX.know (t := 177) (u := .bool false) rfl (congrArg Value.bool (decide_eq_false (by omega))) ?_
              refine DX.done (by kernel_rfl) (XX.next (V' := [(1, _), (5, _), (7, _), (8, _), (9, _), (11, _), (13, _), (14, _), (177, _)]) ⟨rfl, rfl, rfl, rfl, rfl, rfl, rfl, rfl, rfl, trivial⟩ ?_)
              refine CX.condF rfl ?_
              refine CX.skip (XX.inBlock (V' := [(1, _), (5, _), (7, _), (8, _), (9, _), (11, _), (13, _), (14, _)]) ⟨rfl, rfl, rfl, rfl, rfl, rfl, rfl, rfl, trivial⟩ ?_)
              refine XX.next (V' := [(1, _), (5, _), (7, _), (8, _), (9, _), (11, _), (13, _), (14, _)]) ⟨rfl, rfl, rfl, rfl, rfl, rfl, rfl, rfl, trivial⟩ ?_
              refine CX.region ?_
              refine RX.cons rfl rfl (op_w (yw_move rfl rfl) rfl rfl ?_)
              refine RX.cons rfl rfl (op_w (yw_add rfl rfl rfl (by omega) (by omega)) rfl rfl ?_)
              refine RX.cons rfl rfl (op_w (yw_assign rfl rfl) rfl rfl ?_)
              refine RX.nil (XX.againP ([]) (i + 1) (by omega) (by omega) ⟨rfl, rfl, rfl, rfl, rfl, rfl, rfl, rfl, trivial⟩ ((perm_pick 0 rfl).trans (List.Perm.cons _ ((perm_pick 0 rfl).trans (List.Perm.cons _ ((perm_pick 0 rfl).trans (List.Perm.cons _ ((perm_pick 0 rfl).trans (List.Perm.cons _ (List.Perm.refl _))))))))))
            · refine DX.skip 43 17592186044415 (by kernel_rfl) rfl rfl rfl rfl rfl rfl rfl rfl ?_
              refine DX.skip 44 35184372088831 (by kernel_rfl) rfl rfl rfl rfl rfl rfl rfl rfl ?_
              refine DX.skip 45 70368744177663 (by kernel_rfl) rfl rfl rfl rfl rfl rfl rfl rfl ?_
              refine DX.skip 46 140737488355327 (by kernel_rfl) rfl rfl rfl rfl rfl rfl rfl rfl ?_
              refine DX.skip 47 281474976710655 (by kernel_rfl) rfl rfl rfl rfl rfl rfl rfl rfl ?_
              refine DX.skip 48 562949953421311 (by kernel_rfl) rfl rfl rfl rfl rfl rfl rfl rfl ?_
              refine DX.skip 49 1125899906842623 (by kernel_rfl) rfl rfl rfl rfl rfl rfl rfl rfl ?_
              refine DX.skip 50 2251799813685247 (by kernel_rfl) rfl rfl rfl rfl rfl rfl rfl rfl ?_
              refine DX.skip 51 4503599627370495 (by kernel_rfl) rfl rfl rfl rfl rfl rfl rfl rfl ?_
              refine DX.takeWG 52 9007199254740991 (by kernel_rfl) rfl rfl rfl rfl rfl rfl rfl rfl (yw_pickF rfl rfl rfl) ?_
              refine DX.takeW 53 18014398509481983 (by kernel_rfl) rfl rfl rfl rfl rfl (yw_pickF rfl rfl rfl) ?_
              refine DX.done (by kernel_rfl) (XX.next (V' := [(1, _), (5, _), (7, _), (8, _), (9, _), (11, _), (13, _), (14, _), (168, _)]) ⟨rfl, rfl, rfl, rfl, rfl, rfl, rfl, rfl, rfl, trivial⟩ ?_)
              refine CX.condF rfl ?_
              refine CX.skip (XX.next (V' := [(1, _), (5, _), (7, _), (8, _), (9, _), (11, _), (13, _), (14, _)]) ⟨rfl, rfl, rfl, rfl, rfl, rfl, rfl, rfl, trivial⟩ ?_)
              refine CX.seq ?_
              refine CX.draw 9 [(0, 8192, 748288838313422294120286634350736906063837462003712), (0, 16384, 1496577676626844588240573268701473812127674924007424), (3, 2244866514940266882360859903052210718191512386011136, 2993155353253689176481146537402947624255349848014848), (4, 2993155353253689176481146537402947624255349848014848, 5986310706507378352962293074805895248510699696029696), (0, 256, 11972621413014756705924586149611790497021399392059392), (0, 16384, 23945242826029513411849172299223580994042798784118784), (48, 35917864239044270117773758448835371491064198176178176, 47890485652059026823698344598447161988085597568237568), (64, 47890485652059026823698344598447161988085597568237568, 95780971304118053647396689196894323976171195136475136), (136, 101767282010625432000358982271700219224681894832504832, 191561942608236107294793378393788647952342390272950272)] (by kernel_rfl) (by kernel_rfl) (by kernel_rfl) ?_
              refine DX.takeW 0 1 (by kernel_rfl) rfl rfl rfl rfl rfl (yw_move rfl rfl) ?_
              refine DX.takeW 1 3 (by kernel_rfl) rfl rfl rfl rfl rfl (yw_move rfl rfl) ?_
              refine DX.takeW 2 7 (by kernel_rfl) rfl rfl rfl rfl rfl (yw_index (k := i) rfl slt_36 rfl rfl (by omega) (by rw [List.length_map]; omega) hj3) ?_
              refine DX.take 3 15 (by kernel_rfl) rfl rfl rfl rfl rfl (List.Sublist.refl _) (y_rowElem1 (i := 2) rfl rfl one_3 rfl (map_get (map_get hx0))) ?_
              refine DX.takeW 4 31 (by kernel_rfl) rfl rfl rfl rfl rfl (yw_move rfl rfl) ?_
              refine DX.takeW 5 63 (by kernel_rfl) rfl rfl rfl rfl rfl (yw_move rfl rfl) ?_
              refine DX.takeW 6 127 (by kernel_rfl) rfl rfl rfl rfl rfl (yw_index (k := i) rfl slt_36 rfl rfl (by omega) (by rw [List.length_map]; omega) hj1) ?_
              refine DX.take 7 255 (by kernel_rfl) rfl rfl rfl rfl rfl (List.Sublist.refl _) (y_rowElem1 (i := 0) rfl rfl one_3 rfl (map_get (map_get hx0))) ?_
              refine DX.takeW 8 511 (by kernel_rfl) rfl rfl rfl rfl rfl (yw_gtr rfl rfl rfl) ?_
              refine DX.know (t := 177) (u := .bool false) rfl (congrArg Value.bool (decide_eq_false (by omega))) ?_
              refine DX.done (by kernel_rfl) (XX.next (V' := [(1, _), (5, _), (7, _), (8, _), (9, _), (11, _), (13, _), (14, _), (177, _)]) ⟨rfl, rfl, rfl, rfl, rfl, rfl, rfl, rfl, rfl, trivial⟩ ?_)
              refine CX.condF rfl ?_
              refine CX.skip (XX.inBlock (V' := [(1, _), (5, _), (7, _), (8, _), (9, _), (11, _), (13, _), (14, _)]) ⟨rfl, rfl, rfl, rfl, rfl, rfl, rfl, rfl, trivial⟩ ?_)
              refine XX.next (V' := [(1, _), (5, _), (7, _), (8, _), (9, _), (11, _), (13, _), (14, _)]) ⟨rfl, rfl, rfl, rfl, rfl, rfl, rfl, rfl, trivial⟩ ?_
              refine CX.region ?_
              refine RX.cons rfl rfl (op_w (yw_move rfl rfl) rfl rfl ?_)
              refine RX.cons rfl rfl (op_w (yw_add rfl rfl rfl (by omega) (by omega)) rfl rfl ?_)
              refine RX.cons rfl rfl (op_w (yw_assign rfl rfl) rfl rfl ?_)
              refine RX.nil (XX.againP ([]) (i + 1) (by omega) (by omega) ⟨rfl, rfl, rfl, rfl, rfl, rfl, rfl, rfl, trivial⟩ ((perm_pick 0 rfl).trans (List.Perm.cons _ ((perm_pick 0 rfl).trans (List.Perm.cons _ ((perm_pick 0 rfl).trans (List.Perm.cons _ ((perm_pick 0 rfl).trans (List.Perm.cons _ (List.Perm.refl _))))))))))
          · refine DX.skip 27 268435455 (by kernel_rfl) rfl rfl rfl rfl rfl rfl rfl rfl ?_
            refine DX.skip 28 536870911 (by kernel_rfl) rfl rfl rfl rfl rfl rfl rfl rfl ?_
            refine DX.skip 29 1073741823 (by kernel_rfl) rfl rfl rfl rfl rfl rfl rfl rfl ?_
            refine DX.skip 30 2147483647 (by kernel_rfl) rfl rfl rfl rfl rfl rfl rfl rfl ?_
            refine DX.skip 31 4294967295 (by kernel_rfl) rfl rfl rfl rfl rfl rfl rfl rfl ?_
            refine DX.skip 32 8589934591 (by kernel_rfl) rfl rfl rfl rfl rfl rfl rfl rfl ?_
            refine DX.skip 33 17179869183 (by kernel_rfl) rfl rfl rfl rfl rfl rfl rfl rfl ?_
            refine DX.skip 34 34359738367 (by kernel_rfl) rfl rfl rfl rfl rfl rfl rfl rfl ?_
            refine DX.skip 35 68719476735 (by kernel_rfl) rfl rfl rfl rfl rfl rfl rfl rfl ?_
            refine DX.takeWG 36 137438953471 (by kernel_rfl) rfl rfl rfl rfl rfl rfl rfl rfl (yw_pickF rfl rfl rfl) ?_
            refine DX.takeW 37 274877906943 (by kernel_rfl) rfl rfl rfl rfl rfl (yw_pickF rfl rfl rfl) ?_
            refine DX.takeW 38 549755813887 (by kernel_rfl) rfl rfl rfl rfl rfl (yw_move rfl rfl) ?_
            refine DX.takeWG 39 1099511627775 (by kernel_rfl) rfl rfl rfl rfl rfl rfl rfl rfl (yw_field0 rfl fld_44_0 rfl) ?_
            refine DX.takeG 40 2199023255551 (by kernel_rfl) rfl rfl rfl rfl rfl rfl rfl rfl (List.Sublist.refl _) (y_load (i := 3) rfl rfl one_3 rfl rfl) ?_
            refine DX.takeWG 41 4398046511103 (by kernel_rfl) rfl rfl rfl rfl rfl rfl rfl rfl (yw_neq rfl rfl rfl) ?_
            refine DX.takeWG 42 8796093022207 (by kernel_rfl) rfl rfl rfl rfl rfl rfl rfl rfl (yw_move rfl rfl) ?_
            refine DX.splitD (t := 157) (p := Ru.act r ≠ 3) rfl (fun d157 => ?_) (fun d157 => ?_)
            · refine DX.takeWG 43 17592186044415 (by kernel_rfl) rfl rfl rfl rfl rfl rfl rfl rfl (yw_move rfl rfl) ?_
              refine DX.takeWG 44 35184372088831 (by kernel_rfl) rfl rfl rfl rfl rfl rfl rfl rfl (yw_move rfl rfl) ?_
              refine DX.takeWG 45 70368744177663 (by kernel_rfl) rfl rfl rfl rfl rfl rfl rfl rfl (yw_index (k := i) rfl slt_36 rfl rfl (by omega) (by rw [List.length_map]; omega) hj2) ?_
              refine DX.takeG 46 140737488355327 (by kernel_rfl) rfl rfl rfl rfl rfl rfl rfl rfl (List.Sublist.refl _) (y_rowElem1 (i := 1) rfl rfl one_3 rfl (map_get (map_get hx0))) ?_
              refine DX.takeWG 47 281474976710655 (by kernel_rfl) rfl rfl rfl rfl rfl rfl rfl rfl (yw_move rfl rfl) ?_
              refine DX.takeWG 48 562949953421311 (by kernel_rfl) rfl rfl rfl rfl rfl rfl rfl rfl (yw_move rfl rfl) ?_
              refine DX.takeWG 49 1125899906842623 (by kernel_rfl) rfl rfl rfl rfl rfl rfl rfl rfl (yw_index (k := i) rfl slt_36 rfl rfl (by omega) (by rw [List.length_map]; omega) hj1) ?_
              refine DX.takeG 50 2251799813685247 (by kernel_rfl) rfl rfl rfl rfl rfl rfl rfl rfl (List.Sublist.refl _) (y_rowElem1 (i := 0) rfl rfl one_3 rfl (map_get (map_get hx0))) ?_
              refine DX.takeWG 51 4503599627370495 (by kernel_rfl) rfl rfl rfl rfl rfl rfl rfl rfl (yw_lss rfl rfl rfl) ?_
              refine DX.know (t := 166) (u := .bool false) rfl (congrArg Value.bool (decide_eq_false (by omega))) ?_
              refine DX.takeWG 52 9007199254740991 (by kernel_rfl) rfl rfl rfl rfl rfl rfl rfl rfl (yw_pickT rfl rfl rfl) ?_
              refine DX.takeW 53 18014398509481983 (by kernel_rfl) rfl rfl rfl rfl rfl (yw_pickF rfl rfl rfl) ?_
              refine DX.done (by kernel_rfl) (XX.next (V' := [(1, _), (5, _), (7, _), (8, _), (9, _), (11, _), (13, _), (14, _), (168, _)]) ⟨rfl, rfl, rfl, rfl, rfl, rfl, rfl, rfl, rfl, trivial⟩ ?_)
              refine CX.condF rfl ?_
              refine CX.skip (XX.next (V' := [(1, _), (5, _), (7, _), (8, _), (9, _), (11, _), (13, _), (14, _)]) ⟨rfl, rfl, rfl, rfl, rfl, rfl, rfl, rfl, trivial⟩ ?_)
              refine CX.seq ?_
              refine CX.draw 9 [(0, 8192, 748288838313422294120286634350736906063837462003712), (0, 16384, 1496577676626844588240573268701473812127674924007424), (3, 2244866514940266882360859903052210718191512386011136, 2993155353253689176481146537402947624255349848014848), (4, 2993155353253689176481146537402947624255349848014848, 5986310706507378352962293074805895248510699696029696), (0, 256, 11972621413014756705924586149611790497021399392059392), (0, 16384, 23945242826029513411849172299223580994042798784118784), (48, 35917864239044270117773758448835371491064198176178176, 47890485652059026823698344598447161988085597568237568), (64, 47890485652059026823698344598447161988085597568237568, 95780971304118053647396689196894323976171195136475136), (136, 101767282010625432000358982271700219224681894832504832, 191561942608236107294793378393788647952342390272950272)] (by kernel_rfl) (by kernel_rfl) (by kernel_rfl) ?_
              refine DX.takeW 0 1 (by kernel_rfl) rfl rfl rfl rfl rfl (yw_move rfl rfl) ?_
              refine DX.takeW 1 3 (by kernel_rfl) rfl rfl rfl rfl rfl (yw_move rfl rfl) ?_
              refine DX.takeW 2 7 (by kernel_rfl) rfl rfl rfl rfl rfl (yw_index (k := i) rfl slt_36 rfl rfl (by omega) (by rw [List.length_map]; omega) hj3) ?_
              refine DX.take 3 15 (by kernel_rfl) rfl rfl rfl rfl rfl (List.Sublist.refl _) (y_rowElem1 (i := 2) rfl rfl one_3 rfl (map_get (map_get hx0))) ?_
              refine DX.takeW 4 31 (by kernel_rfl) rfl rfl rfl rfl rfl (yw_move rfl rfl) ?_
              refine DX.takeW 5 63 (by kernel_rfl) rfl rfl rfl rfl rfl (yw_move rfl rfl) ?_
              refine DX.takeW 6 127 (by kernel_rfl) rfl rfl rfl rfl rfl (yw_index (k := i) rfl slt_36 rfl rfl (by omega) (by rw [List.length_map]; omega) hj1) ?_
              refine DX.take 7 255 (by kernel_rfl) rfl rfl rfl rfl rfl (List.Sublist.refl _) (y_rowElem1 (i := 0) rfl rfl one_3 rfl (map_get (map_get hx0))) ?_
              refine DX.takeW 8 511 (by kernel_rfl) rfl rfl rfl rfl rfl (yw_gtr rfl rfl rfl) ?_
              refine DX.know (t := 177) (u := .bool false) rfl (congrArg Value.bool (decide_eq_false (by omega))) ?_
              refine DX.done (by kernel_rfl) (XX.next (V' := [(1, _), (5, _), (7, _), (8, _), (9, _), (11, _), (13, _), (14, _), (177, _)]) ⟨rfl, rfl, rfl, rfl, rfl, rfl, rfl, rfl, rfl, trivial⟩ ?_)
              refine CX.condF rfl ?_
              refine CX.skip (XX.inBlock (V' := [(1, _), (5, _), (7, _), (8, _), (9, _), (11, _), (13, _), (14, _)]) ⟨rfl, rfl, rfl, rfl, rfl, rfl, rfl, rfl, trivial⟩ ?_)
              refine XX.next (V' := [(1, _), (5, _), (7, _), (8, _), (9, _), (11, _), (13, _), (14, _)]) ⟨rfl, rfl, rfl, rfl, rfl, rfl, rfl, rfl, trivial⟩ ?_
              refine CX.region ?_
              refine RX.cons rfl rfl (op_w (yw_move rfl rfl) rfl rfl ?_)
              refine RX.cons rfl rfl (op_w (yw_add rfl rfl rfl (by omega) (by omega)) rfl rfl ?_)
              refine RX.cons rfl rfl (op_w (yw_assign rfl rfl) rfl rfl ?_)
              refine RX.nil (XX.againP ([]) (i + 1) (by omega) (by omega) ⟨rfl, rfl, rfl, rfl, rfl, rfl, rfl, rfl, trivial⟩ ((perm_pick 0 rfl).trans (List.Perm.cons _ ((perm_pick 0 rfl).trans (List.Perm.cons _ ((perm_pick 0 rfl).trans (List.Perm.cons _ ((perm_pick 0 rfl).trans (List.Perm.cons _ (List.Perm.refl _))))))))))
            · refine DX.skip 43 17592186044415 (by kernel_rfl) rfl rfl rfl rfl rfl rfl rfl rfl ?_
              refine DX.skip 44 35184372088831 (by kernel_rfl) rfl rfl rfl rfl rfl rfl rfl rfl ?_
              refine DX.skip 45 70368744177663 (by kernel_rfl) rfl rfl rfl rfl rfl rfl rfl rfl ?_
              refine DX.skip 46 140737488355327 (by kernel_rfl) rfl rfl rfl rfl rfl rfl rfl rfl ?_
              refine DX.skip 47 281474976710655 (by kernel_rfl) rfl rfl rfl rfl rfl rfl rfl rfl ?_
              refine DX.skip 48 562949953421311 (by kernel_rfl) rfl rfl rfl rfl rfl rfl rfl rfl ?_
              refine DX.skip 49 1125899906842623 (by kernel_rfl) rfl rfl rfl rfl rfl rfl rfl rfl ?_
              refine DX.skip 50 2251799813685247 (by kernel_rfl) rfl rfl rfl rfl rfl rfl rfl rfl ?_
              refine DX.skip 51 4503599627370495 (by kernel_rfl) rfl rfl rfl rfl rfl rfl rfl rfl ?_
              refine DX.takeWG 52 9007199254740991 (by kernel_rfl) rfl rfl rfl rfl rfl rfl rfl rfl (yw_pickF rfl rfl rfl) ?_
              refine DX.takeW 53 18014398509481983 (by kernel_rfl) rfl rfl rfl rfl rfl (yw_pickF rfl rfl rfl) ?_
              refine DX.done (by kernel_rfl) (XX.next (V' := [(1, _), (5, _), (7, _), (8, _), (9, _), (11, _), (13, _), (14, _), (168, _)]) ⟨rfl, rfl, rfl, rfl, rfl, rfl, rfl, rfl, rfl, trivial⟩ ?_)
              refine CX.condF rfl ?_
              refine CX.skip (XX.next (V' := [(1, _), (5, _), (7, _), (8, _), (9, _), (11, _), (13, _), (14, _)]) ⟨rfl, rfl, rfl, rfl, rfl, rfl, rfl, rfl, trivial⟩ ?_)
              refine CX.seq ?_
              refine CX.draw 9 [(0, 8192, 748288838313422294120286634350736906063837462003712), (0, 16384, 1496577676626844588240573268701473812127674924007424), (3, 2244866514940266882360859903052210718191512386011136, 2993155353253689176481146537402947624255349848014848), (4, 2993155353253689176481146537402947624255349848014848, 5986310706507378352962293074805895248510699696029696), (0, 256, 11972621413014756705924586149611790497021399392059392), (0, 16384, 23945242826029513411849172299223580994042798784118784), (48, 35917864239044270117773758448835371491064198176178176, 47890485652059026823698344598447161988085597568237568), (64, 47890485652059026823698344598447161988085597568237568, 95780971304118053647396689196894323976171195136475136), (136, 101767282010625432000358982271700219224681894832504832, 191561942608236107294793378393788647952342390272950272)] (by kernel_rfl) (by kernel_rfl) (by kernel_rfl) ?_
              refine DX.takeW 0 1 (by kernel_rfl) rfl rfl rfl rfl rfl (yw_move rfl rfl) ?_
              refine DX.takeW 1 3 (by kernel_rfl) rfl rfl rfl rfl rfl (yw_move rfl rfl) ?_
              refine DX.takeW 2 7 (by kernel_rfl) rfl rfl rfl rfl rfl (yw_index (k := i) rfl slt_36 rfl rfl (by omega) (by rw [List.length_map]; omega) hj3) ?_
              refine DX.take 3 15 (by kernel_rfl) rfl rfl rfl rfl rfl (List.Sublist.refl _) (y_rowElem1 (i := 2) rfl rfl one_3 rfl (map_get (map_get hx0))) ?_
              refine DX.takeW 4 31 (by kernel_rfl) rfl rfl rfl rfl rfl (yw_move rfl rfl) ?_
              refine DX.takeW 5 63 (by kernel_rfl) rfl rfl rfl rfl rfl (yw_move rfl rfl) ?_
              refine DX.takeW 6 127 (by kernel_rfl) rfl rfl rfl rfl rfl (yw_index (k := i) rfl slt_36 rfl rfl (by omega) (by rw [List.length_map]; omega) hj1) ?_
              refine DX.take 7 255 (by kernel_rfl) rfl rfl rfl rfl rfl (List.Sublist.refl _) (y_rowElem1 (i := 0) rfl rfl one_3 rfl (map_get (map_get hx0))) ?_
              refine DX.takeW 8 511 (by kernel_rfl) rfl rfl rfl rfl rfl (yw_gtr rfl rfl rfl) ?_
              refine DX.know (t := 177) (u := .bool false) rfl (congrArg Value.bool (decide_eq_false (by omega))) ?_
              refine DX.done (by kernel_rfl) (XX.next (V' := [(1, _), (5, _), (7, _), (8, _), (9, _), (11, _), (13, _), (14, _), (177, _)]) ⟨rfl, rfl, rfl, rfl, rfl, rfl, rfl, rfl, rfl, trivial⟩ ?_)
              refine CX.condF rfl ?_
              refine CX.skip (XX.inBlock (V' := [(1, _), (5, _), (7, _), (8, _), (9, _), (11, _), (13, _), (14, _)]) ⟨rfl, rfl, rfl, rfl, rfl, rfl, rfl, rfl, trivial⟩ ?_)
              refine XX.next (V' := [(1, _), (5, _), (7, _), (8, _), (9, _), (11, _), (13, _), (14, _)]) ⟨rfl, rfl, rfl, rfl, rfl, rfl, rfl, rfl, trivial⟩ ?_
              refine CX.region ?_
              refine RX.cons rfl rfl (op_w (yw_move rfl rfl) rfl rfl ?_)
              refine RX.cons rfl rfl (op_w (yw_add rfl rfl rfl (by omega) (by omega)) rfl rfl ?_)
              refine RX.cons rfl rfl (op_w (yw_assign rfl rfl) rfl rfl ?_)
              refine RX.nil (XX.againP ([]) (i + 1) (by omega) (by omega) ⟨rfl, rfl, rfl, rfl, rfl, rfl, rfl, rfl, trivial⟩ ((perm_pick 0 rfl).trans (List.Perm.cons _ ((perm_pick 0 rfl).trans (List.Perm.cons _ ((perm_pick 0 rfl).trans (List.Perm.cons _ ((perm_pick 0 rfl).trans (List.Perm.cons _ (List.Perm.refl _))))))))))
      · refine CX.exit ?_
        refine XX.then_exit ?_
        refine XX.then_exit ?_
        refine XX.block_exit ?_
        refine XX.next (V' := [(7, _)]) ⟨rfl, trivial⟩ ?_
        refine CX.seq ?_
        refine CX.region ?_
        refine RX.cons rfl rfl (op_w (yw_move rfl rfl) rfl rfl ?_)
        refine RX.cons rfl rfl (op_w (yw_assign rfl rfl) rfl rfl ?_)
        refine RX.nil (XX.next (V' := [(6, .bool true)]) ⟨rfl, trivial⟩ ?_)
        refine CX.ret ?_
        exact ret_tmp rfl rfl fun w1 hw => ⟨rfl, hw.sub (List.nil_sublist _)⟩

end Go.Proofs.Ytpcfgoadkfajfaa
