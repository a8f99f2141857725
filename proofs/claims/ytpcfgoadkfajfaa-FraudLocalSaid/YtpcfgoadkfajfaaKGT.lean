/- Walks, printed by a program. -/
import Derived.Test.YtpcfgoadkfajfaaKGN
import Derived.Test.YtpcfgoadkfajfaaKLaws11
namespace Go.Proofs.Ytpcfgoadkfajfaa
set_option linter.all false
open Go Go.RowKit
set_option maxRecDepth 100000
theorem ent_17 : ∀ args w, (callFunc 17 args).run Try.prog w = .ok (.enter 17 args) w := enters_of Try.func17 (by kernel_rfl) rfl
theorem ent_26 : ∀ args w, (callFunc 26 args).run Try.prog w = .ok (.enter 26 args) w := enters_of Try.func26 (by kernel_rfl) rfl
set_option maxRecDepth 100000 in
theorem w_lawLo {w : World} {AR : Option Addr} {capR : Nat} (rs0 : List Ru) (hrR0 : Rd w AR 4 (rs0.map ruC)) (hcR : rs0.length ≤ capR) (h8R : rs0.length ≤ 9223372036854775807) {A : Option Addr} {cap : Nat} (ls0 : List Sm) (hr0 : Rd w A 9 (ls0.map smC)) (hc0 : ls0.length ≤ cap) (h80 : ls0.length ≤ 9223372036854775807) (k : Int) (hk1 : -9223372036854775808 ≤ k) (hk2 : k ≤ 9223372036854775807) :
    Calls Try.prog 11 #[.slice AR rs0.length capR, .slice A ls0.length cap, .int .i64 k] w (fun e w' => e = .returned (.bool true) ∧ SL w [] w' []) := by
  obtain ⟨rs, hrs⟩ : ∃ rs, rs = rs0.take 12 := ⟨_, rfl⟩
  have hrR : Rd w AR 4 (rs.map ruC) := by rw [hrs]; exact hrR0.takeM 12
  have hminR : min rs0.length 12 = rs.length := by rw [hrs, List.length_take]; omega
  have hr12 : rs.length ≤ 12 := by omega
  have hlR : rs.length ≤ 1000000 := by omega
  obtain ⟨ls, hls⟩ : ∃ ls, ls = ls0.take 40 := ⟨_, rfl⟩
  have hr : Rd w A 9 (ls.map smC) := by rw [hls]; exact hr0.takeM 40
  have hmin : min ls0.length 40 = ls.length := by rw [hls, List.length_take]; omega
  have hl40 : ls.length ≤ 40 := by omega
  have hl : ls.length ≤ 100000 := by omega
  refine calls_of_CX (O := []) (L := []) (args := [.slice AR rs0.length capR, .slice A ls0.length cap, .int .i64 k]) Try.func11 rfl (by simp [Try.ntmps11]) (SL.refl w) ?_
  refine CX.sub (V' := [(0, .slice AR rs0.length capR), (1, .slice A ls0.length cap), (2, .int .i64 k)]) ⟨rfl, rfl, rfl, trivial⟩ ?_
  refine CX.seq ?_
  refine CX.region ?_
  refine RX.cons rfl rfl (op_w (yw_assign rfl rfl) rfl rfl ?_)
  refine RX.nil (XX.next (V' := [(0, _), (1, _), (2, _)]) ⟨rfl, rfl, rfl, trivial⟩ ?_)
  refine CX.seq ?_
  refine CX.region ?_
  refine RX.cons rfl rfl (op_callV (v := .bool true) rfl rfl rfl rfl rfl ent_12 (fun w hw => w_sane) ?_)
  refine RX.cons rfl rfl (op_w (yw_assign rfl rfl) rfl rfl ?_)
  refine RX.nil (XX.next (V' := [(0, _), (1, _), (2, _), (7, _)]) ⟨rfl, rfl, rfl, rfl, trivial⟩ ?_)
  refine CX.seq ?_
  refine CX.region ?_
  refine RX.cons rfl rfl (op_w (yw_move rfl rfl) rfl rfl ?_)
  refine RX.cons rfl rfl (op_callV (v := .slice AR rs.length capR) rfl rfl rfl rfl rfl ent_17 (fun w hw => w_shortE rs0.length hminR hcR h8R) ?_)
  refine RX.cons rfl rfl (op_w (yw_assign rfl rfl) rfl rfl ?_)
  refine RX.nil (XX.next (V' := [(0, _), (1, _), (2, _), (7, _)]) ⟨rfl, rfl, rfl, rfl, trivial⟩ ?_)
  refine CX.seq ?_
  refine CX.region ?_
  refine RX.cons rfl rfl (op_w (yw_move rfl rfl) rfl rfl ?_)
  refine RX.cons rfl rfl (op_callV (v := .slice A ls.length cap) rfl rfl rfl rfl rfl ent_13 (fun w hw => w_fewE ls0.length hmin hc0 h80) ?_)
  refine RX.cons rfl rfl (op_w (yw_assign rfl rfl) rfl rfl ?_)
  refine RX.nil (XX.next (V' := [(0, _), (1, _), (2, _), (7, _)]) ⟨rfl, rfl, rfl, rfl, trivial⟩ ?_)
  refine CX.seq ?_
  refine CX.seq ?_
  refine CX.region ?_
  refine RX.cons rfl rfl (op_w (yw_move rfl rfl) rfl rfl ?_)
  refine RX.cons rfl rfl (op_w (yw_lenS rfl Try.underlying22 rfl) rfl rfl ?_)
  refine RX.cons rfl rfl (op_w (yw_eql rfl rfl rfl) rfl rfl ?_)
  refine RX.nil (XX.next (V' := [(0, _), (1, _), (2, _), (7, _), (22, _)]) ⟨rfl, rfl, rfl, rfl, rfl, trivial⟩ ?_)
  refine CX.condD (p := ((ls.length : Nat) : Int) = 0) rfl (fun c22 => ?_) (fun c22 => ?_)
  · refine CX.seq ?_
    refine CX.region ?_
    refine RX.cons rfl rfl (op_w (yw_move rfl rfl) rfl rfl ?_)
    refine RX.cons rfl rfl (op_w (yw_assign rfl rfl) rfl rfl ?_)
    refine RX.nil (XX.next (V' := [(6, .bool true)]) ⟨rfl, trivial⟩ ?_)
    refine CX.ret ?_
    refine XX.then_ret ?_
    exact ret_tmp rfl rfl fun w1 hw => ⟨rfl, hw.sub (List.nil_sublist _)⟩
  · have hp0 := pickN_lt k (n := ls.length) (by omega)
    obtain ⟨x0, hx0⟩ := get_some (l := ls) (k := pickN k ls.length) hp0
    have hx0m := List.mem_of_getElem? hx0
    have hA : ∃ b j, A = some ⟨b, j, none⟩ := hr.some (k := 0) (by simp; omega)
    have hlE : (edgesOf ls).length ≤ 1000000 := by rw [edgesOf, List.length_map]; omega
    refine CX.skip (XX.next (V' := [(0, _), (1, _), (2, _), (7, _)]) ⟨rfl, rfl, rfl, rfl, trivial⟩ ?_)
    refine CX.seq ?_
    refine CX.region ?_
    refine RX.cons rfl rfl (op_w (yw_move rfl rfl) rfl rfl ?_)
    refine RX.cons rfl rfl (op_w (yw_move rfl rfl) rfl rfl ?_)
    refine RX.cons rfl rfl (op_w (yw_lenS rfl Try.underlying22 rfl) rfl rfl ?_)
    refine RX.cons rfl rfl (op_callV (v := .int .i64 ((pickN k ls.length : Nat) : Int)) rfl rfl rfl rfl rfl ent_15 (fun w hw => w_pick k ls.length (by omega) (by omega) (by omega)) ?_)
    refine RX.cons rfl rfl (op_w (yw_assign rfl rfl) rfl rfl ?_)
    refine RX.nil (XX.next (V' := [(0, _), (1, _), (7, _), (8, _)]) ⟨rfl, rfl, rfl, rfl, trivial⟩ ?_)
    refine CX.seq ?_
    refine CX.region ?_
    refine RX.cons rfl rfl (op_w (yw_move rfl rfl) rfl rfl ?_)
    refine RX.cons rfl rfl (op_callE rfl rfl rfl rfl rfl ent_25 (fun w hw => w_graph11 ls (hw.rd hr (by simp)) (by omega)) (fun ⟨A1, c1⟩ _ => ?_))
    refine RX.cons rfl rfl (op_w (yw_assign rfl rfl) rfl rfl ?_)
    refine RX.nil (XX.next (V' := [(0, _), (1, _), (7, _), (8, _), (9, _)]) ⟨rfl, rfl, rfl, rfl, rfl, trivial⟩ ?_)
    refine CX.seq ?_
    refine CX.region ?_
    refine RX.cons rfl rfl (op_w (yw_assign rfl rfl) rfl rfl ?_)
    refine RX.nil (XX.next (V' := [(0, _), (1, _), (7, _), (8, _), (9, _), (10, _)]) ⟨rfl, rfl, rfl, rfl, rfl, rfl, trivial⟩ ?_)
    refine CX.seq ?_
    refine CX.region ?_
    refine RX.cons rfl rfl (op_w (yw_assign rfl rfl) rfl rfl ?_)
    refine RX.nil (XX.next (V' := [(0, _), (1, _), (7, _), (8, _), (9, _), (10, _), (11, _)]) ⟨rfl, rfl, rfl, rfl, rfl, rfl, rfl, trivial⟩ ?_)
    refine CX.seq ?_
    refine CX.seq ?_
    refine CX.region ?_
    refine RX.cons rfl rfl (op_w (yw_assign rfl rfl) rfl rfl ?_)
    refine RX.nil (XX.next (V' := [(0, _), (1, _), (7, _), (8, _), (9, _), (10, _), (11, _), (12, _)]) ⟨rfl, rfl, rfl, rfl, rfl, rfl, rfl, rfl, trivial⟩ ?_)
    refine CX.block ?_
    refine CX.rowNil 24 9 ?_
    refine CX.loop (σ := Nat × Nat × (Option Addr × Nat) × List Sm) (fun z => [(0, .slice AR rs.length capR), (1, .slice A ls.length cap), (7, .bool true), (8, .int .i64 ((pickN k ls.length : Nat) : Int)), (9, .slice A1 (List.length ((edgesOf ls) : List (Int × Int))) c1), (10, .slice z.2.2.1.1 (List.length (z.2.2.2 : List Sm)) z.2.2.1.2), (11, .int .i64 ((z.2.1 : Nat) : Int)), (12, .int .i64 ((z.1 : Nat) : Int))]) (fun z => [.row z.2.2.1.1 z.2.2.1.2 24 9 (List.map smC z.2.2.2), .row A1 c1 73 2 (List.map edC (edgesOf ls))]) (fun z => z.1 ≤ ls.length ∧ z.2.2.2 = (List.filter (fun t => joinA ls (Sm.acc t) (Sm.acc x0)) (List.take z.1 ls)) ∧ ((pickN k ls.length) < z.1 → z.2.2.2[z.2.1]? = some x0) ∧ z.2.2.2.length ≤ z.1) (fun z => ls.length - z.1) (0, 0, (none, 0), []) ⟨Nat.zero_le _, rfl, (fun h => absurd h (Nat.not_lt_zero _)), Nat.le_refl _⟩ ⟨rfl, rfl, rfl, rfl, rfl, rfl, rfl, rfl, trivial⟩ rfl (fun z hI => ?_)
    obtain ⟨i, at1, ⟨A4, c4⟩, G⟩ := z
    dsimp only at hI ⊢
    obtain ⟨hi, hG, hat, hGn1⟩ := hI
    refine CX.seq ?_
    refine CX.seq ?_
    refine CX.region ?_
    refine RX.cons rfl rfl (op_w (yw_move rfl rfl) rfl rfl ?_)
    refine RX.cons rfl rfl (op_w (yw_move rfl rfl) rfl rfl ?_)
    refine RX.cons rfl rfl (op_w (yw_lenS rfl Try.underlying22 rfl) rfl rfl ?_)
    refine RX.cons rfl rfl (op_w (yw_lss rfl rfl rfl) rfl rfl ?_)
    refine RX.nil (XX.next (V' := [(0, _), (1, _), (7, _), (8, _), (9, _), (10, _), (11, _), (12, _), (33, _)]) ⟨rfl, rfl, rfl, rfl, rfl, rfl, rfl, rfl, rfl, trivial⟩ ?_)
    refine CX.condD (p := ((i : Nat) : Int) < ((ls.length : Nat) : Int)) rfl (fun c33 => ?_) (fun c33 => ?_)
    · obtain ⟨x1, hx1⟩ := get_some (l := ls) (k := i) (by omega)
      have hx1m := List.mem_of_getElem? hx1
      refine CX.skip (XX.next (V' := [(0, _), (1, _), (7, _), (8, _), (9, _), (10, _), (11, _), (12, _)]) ⟨rfl, rfl, rfl, rfl, rfl, rfl, rfl, rfl, trivial⟩ ?_)
      refine CX.seq ?_
      refine CX.block ?_
      refine CX.seq ?_
      refine CX.drawL 12 ([.row A4 c4 24 9 (List.map smC G), .row A1 c1 73 2 (List.map edC (edgesOf ls))]) [(0, 512, 68719476736), (0, 2, 137438953472), (0, 4096, 274877906944), (6, 412316860416, 549755813888), (8, 549755813888, 1099511627776), (16, 1099511627776, 2199023255552), (0, 2, 4398046511104), (0, 256, 8796093022208), (192, 13194139533312, 17592186044416), (256, 17592186044416, 35184372088832), (512, 35184372088832, 70368744177664), (1057, 72636486909952, 140737488355328)] (by kernel_rfl) (by kernel_rfl) (by kernel_rfl) ?_
      refine DX.takeW 0 1 (by kernel_rfl) rfl rfl rfl rfl rfl (yw_move rfl rfl) ?_
      refine DX.takeW 1 3 (by kernel_rfl) rfl rfl rfl rfl rfl (yw_move rfl rfl) ?_
      refine DX.takeW 2 7 (by kernel_rfl) rfl rfl rfl rfl rfl (yw_move rfl rfl) ?_
      refine DX.takeW 3 15 (by kernel_rfl) rfl rfl rfl rfl rfl (yw_index (k := i) rfl slt_22 rfl rfl (by omega) (by omega) hA) ?_
      refine DX.takeW 4 31 (by kernel_rfl) rfl rfl rfl rfl rfl (yw_fieldAddr rfl fld_24_2 rfl) ?_
      refine DX.take 5 63 (by kernel_rfl) rfl rfl rfl rfl rfl (List.Sublist.refl _) (y_elemF rfl rfl one_3 hr (by simp) (map_get hx1) rfl) ?_
      refine DX.takeW 6 127 (by kernel_rfl) rfl rfl rfl rfl rfl (yw_move rfl rfl) ?_
      refine DX.takeW 7 255 (by kernel_rfl) rfl rfl rfl rfl rfl (yw_move rfl rfl) ?_
      refine DX.takeW 8 511 (by kernel_rfl) rfl rfl rfl rfl rfl (yw_index (k := (pickN k ls.length)) rfl slt_22 rfl rfl (by omega) (by omega) hA) ?_
      refine DX.takeW 9 1023 (by kernel_rfl) rfl rfl rfl rfl rfl (yw_fieldAddr rfl fld_24_2 rfl) ?_
      refine DX.take 10 2047 (by kernel_rfl) rfl rfl rfl rfl rfl (List.Sublist.refl _) (y_elemF rfl rfl one_3 hr (by simp) (map_get hx0) rfl) ?_
      refine DX.step 11 4095 (by kernel_rfl) rfl rfl rfl (op_callV (v := .bool (joinA ls (Sm.acc x1) (Sm.acc x0))) rfl rfl rfl rfl rfl ent_26 (fun w hw => w_joined (edgesOf ls) (Ent.rd (hw.ents _ (List.mem_of_getElem? (i := 1) rfl))) hlE (Sm.acc x1) (Sm.acc x0)) (DXs.mk (List.Sublist.refl _) ?_))
      refine DX.done (by kernel_rfl) (XX.next (V' := [(0, _), (1, _), (7, _), (8, _), (9, _), (10, _), (11, _), (12, _), (47, _)]) ⟨rfl, rfl, rfl, rfl, rfl, rfl, rfl, rfl, rfl, trivial⟩ ?_)
      refine CX.cond (b := joinA ls (Sm.acc x1) (Sm.acc x0)) rfl (fun c47 => ?_) (fun c47 => ?_)
      · refine CX.seq ?_
        refine CX.seq ?_
        refine CX.region ?_
        refine RX.cons rfl rfl (op_w (yw_move rfl rfl) rfl rfl ?_)
        refine RX.cons rfl rfl (op_w (yw_move rfl rfl) rfl rfl ?_)
        refine RX.cons rfl rfl (op_w (yw_eql rfl rfl rfl) rfl rfl ?_)
        refine RX.nil (XX.next (V' := [(0, _), (1, _), (7, _), (8, _), (9, _), (10, _), (11, _), (12, _), (50, _)]) ⟨rfl, rfl, rfl, rfl, rfl, rfl, rfl, rfl, rfl, trivial⟩ ?_)
        refine CX.condD (p := ((i : Nat) : Int) = ((pickN k ls.length : Nat) : Int)) rfl (fun c50 => ?_) (fun c50 => ?_)
        · refine CX.region ?_
          refine RX.cons rfl rfl (op_w (yw_move rfl rfl) rfl rfl ?_)
          refine RX.cons rfl rfl (op_w (yw_lenS rfl Try.underlying22 rfl) rfl rfl ?_)
          refine RX.cons rfl rfl (op_w (yw_assign rfl rfl) rfl rfl ?_)
          refine RX.nil (XX.next (V' := [(0, _), (1, _), (7, _), (8, _), (9, _), (10, _), (11, _), (12, _)]) ⟨rfl, rfl, rfl, rfl, rfl, rfl, rfl, rfl, trivial⟩ ?_)
          refine CX.region ?_
          refine RX.cons rfl rfl (op_w (yw_move rfl rfl) rfl rfl ?_)
          refine RX.cons rfl rfl (op_w (yw_move rfl rfl) rfl rfl ?_)
          refine RX.cons rfl rfl (op_w (yw_move rfl rfl) rfl rfl ?_)
          refine RX.cons rfl rfl (op_w (yw_index (k := i) rfl slt_22 rfl rfl (by omega) (by omega) hA) rfl rfl ?_)
          refine RX.cons rfl rfl (op_yld (y_elem rfl rfl agg_24 hr (by simp) (map_get hx1)) rfl rfl ?_)
          refine RX.cons rfl rfl (op_buildSlice rfl rfl rfl slb_22 rfl rfl (by intro v hv; simp only [List.mem_cons, List.not_mem_nil, or_false] at hv; subst hv; exact ⟨rfl, (plain_of rfl)⟩) (by decide) fun g7 => ?_)
          refine RX.cons rfl rfl (op_appendM smC (i := 1) (j := 0) (xs := G) ([x1]) rfl rfl rfl slb_22 rfl rfl rfl rfl rfl rfl (by rw [List.length_singleton]; omega) (by rw [List.length_singleton]; omega) fun A5 c5 => ?_)
          refine RX.cons rfl rfl (op_w (yw_assign rfl rfl) rfl rfl ?_)
          refine RX.nil (XX.inBlock (V' := [(0, _), (1, _), (7, _), (8, _), (9, _), (10, _), (11, _), (12, _)]) ⟨rfl, rfl, rfl, rfl, rfl, rfl, rfl, rfl, trivial⟩ ?_)
          refine XX.next (V' := [(0, _), (1, _), (7, _), (8, _), (9, _), (10, _), (11, _), (12, _)]) ⟨rfl, rfl, rfl, rfl, rfl, rfl, rfl, rfl, trivial⟩ ?_
          refine CX.region ?_
          refine RX.cons rfl rfl (op_w (yw_move rfl rfl) rfl rfl ?_)
          refine RX.cons rfl rfl (op_w (yw_add rfl rfl rfl (by omega) (by omega)) rfl rfl ?_)
          refine RX.cons rfl rfl (op_w (yw_assign rfl rfl) rfl rfl ?_)
          refine RX.nil (XX.againP ([.row (some ⟨g7, 0, none⟩) 1 24 9 (List.map smC ([x1]))]) (i + 1, G.length, (A5, c5), G ++ [x1]) (by dsimp only; omega) ⟨by dsimp only; omega, by dsimp only; rw [filter_snocB hx1, show joinA ls (Sm.acc x1) (Sm.acc x0) = true from c47, if_pos rfl, hG], fun _ => by dsimp only; rw [List.getElem?_append_right (Nat.le_refl _), Nat.sub_self]; rw [show i = (pickN k ls.length) by omega, hx0] at hx1; rw [← Option.some.inj hx1]; rfl, by dsimp only; rw [List.length_append, List.length_singleton]; omega⟩ ⟨rfl, rfl, rfl, rfl, rfl, rfl, rfl, rfl, trivial⟩ ((perm_pick 1 rfl).trans (List.Perm.cons _ ((perm_pick 1 rfl).trans (List.Perm.cons _ (List.Perm.refl _))))))
        · refine CX.skip (XX.next (V' := [(0, _), (1, _), (7, _), (8, _), (9, _), (10, _), (11, _), (12, _)]) ⟨rfl, rfl, rfl, rfl, rfl, rfl, rfl, rfl, trivial⟩ ?_)
          refine CX.region ?_
          refine RX.cons rfl rfl (op_w (yw_move rfl rfl) rfl rfl ?_)
          refine RX.cons rfl rfl (op_w (yw_move rfl rfl) rfl rfl ?_)
          refine RX.cons rfl rfl (op_w (yw_move rfl rfl) rfl rfl ?_)
          refine RX.cons rfl rfl (op_w (yw_index (k := i) rfl slt_22 rfl rfl (by omega) (by omega) hA) rfl rfl ?_)
          refine RX.cons rfl rfl (op_yld (y_elem rfl rfl agg_24 hr (by simp) (map_get hx1)) rfl rfl ?_)
          refine RX.cons rfl rfl (op_buildSlice rfl rfl rfl slb_22 rfl rfl (by intro v hv; simp only [List.mem_cons, List.not_mem_nil, or_false] at hv; subst hv; exact ⟨rfl, (plain_of rfl)⟩) (by decide) fun g7 => ?_)
          refine RX.cons rfl rfl (op_appendM smC (i := 1) (j := 0) (xs := G) ([x1]) rfl rfl rfl slb_22 rfl rfl rfl rfl rfl rfl (by rw [List.length_singleton]; omega) (by rw [List.length_singleton]; omega) fun A5 c5 => ?_)
          refine RX.cons rfl rfl (op_w (yw_assign rfl rfl) rfl rfl ?_)
          refine RX.nil (XX.inBlock (V' := [(0, _), (1, _), (7, _), (8, _), (9, _), (10, _), (11, _), (12, _)]) ⟨rfl, rfl, rfl, rfl, rfl, rfl, rfl, rfl, trivial⟩ ?_)
          refine XX.next (V' := [(0, _), (1, _), (7, _), (8, _), (9, _), (10, _), (11, _), (12, _)]) ⟨rfl, rfl, rfl, rfl, rfl, rfl, rfl, rfl, trivial⟩ ?_
          refine CX.region ?_
          refine RX.cons rfl rfl (op_w (yw_move rfl rfl) rfl rfl ?_)
          refine RX.cons rfl rfl (op_w (yw_add rfl rfl rfl (by omega) (by omega)) rfl rfl ?_)
          refine RX.cons rfl rfl (op_w (yw_assign rfl rfl) rfl rfl ?_)
          refine RX.nil (XX.againP ([.row (some ⟨g7, 0, none⟩) 1 24 9 (List.map smC ([x1]))]) (i + 1, at1, (A5, c5), G ++ [x1]) (by dsimp only; omega) ⟨by dsimp only; omega, by dsimp only; rw [filter_snocB hx1, show joinA ls (Sm.acc x1) (Sm.acc x0) = true from c47, if_pos rfl, hG], fun h => by dsimp only at h ⊢; have h2 := hat (by omega); rw [List.getElem?_append_left (List.getElem?_eq_some_iff.1 h2).1]; exact h2, by dsimp only; rw [List.length_append, List.length_singleton]; omega⟩ ⟨rfl, rfl, rfl, rfl, rfl, rfl, rfl, rfl, trivial⟩ ((perm_pick 1 rfl).trans (List.Perm.cons _ ((perm_pick 1 rfl).trans (List.Perm.cons _ (List.Perm.refl _))))))
      · refine CX.skip (XX.inBlock (V' := [(0, _), (1, _), (7, _), (8, _), (9, _), (10, _), (11, _), (12, _)]) ⟨rfl, rfl, rfl, rfl, rfl, rfl, rfl, rfl, trivial⟩ ?_)
        refine XX.next (V' := [(0, _), (1, _), (7, _), (8, _), (9, _), (10, _), (11, _), (12, _)]) ⟨rfl, rfl, rfl, rfl, rfl, rfl, rfl, rfl, trivial⟩ ?_
        refine CX.region ?_
        refine RX.cons rfl rfl (op_w (yw_move rfl rfl) rfl rfl ?_)
        refine RX.cons rfl rfl (op_w (yw_add rfl rfl rfl (by omega) (by omega)) rfl rfl ?_)
        refine RX.cons rfl rfl (op_w (yw_assign rfl rfl) rfl rfl ?_)
        refine RX.nil (XX.againP ([]) (i + 1, at1, (A4, c4), G) (by dsimp only; omega) ⟨by dsimp only; omega, by dsimp only; rw [filter_snocB hx1, show joinA ls (Sm.acc x1) (Sm.acc x0) = false from by simpa using c47, if_neg (by decide), List.append_nil, hG], fun h => hat (by rcases Nat.lt_or_ge (pickN k ls.length) i with h2 | h2; exact h2; exact absurd (show i = (pickN k ls.length) by dsimp only at h; omega) (fun e => by rw [e, hx0] at hx1; rw [← Option.some.inj hx1, join_refl] at c47; simp at c47)), by dsimp only; omega⟩ ⟨rfl, rfl, rfl, rfl, rfl, rfl, rfl, rfl, trivial⟩ ((perm_pick 0 rfl).trans (List.Perm.cons _ ((perm_pick 0 rfl).trans (List.Perm.cons _ (List.Perm.refl _))))))
    · rw [List.take_of_length_le (by omega)] at hG
      have hG2 : G = near ls (Sm.acc x0) := hG
      have hat2 := hat (by omega)
      have hatl := (List.getElem?_eq_some_iff.1 hat2).1
      have hjn : jud rs G x0 = jud rs ls x0 := by rw [hG2]; exact jud_near hx0m
      refine CX.exit ?_
      refine XX.then_exit ?_
      refine XX.then_exit ?_
      refine XX.block_exit ?_
      refine XX.next (V' := [(0, _), (1, _), (7, _), (8, _), (10, _), (11, _)]) ⟨rfl, rfl, rfl, rfl, rfl, rfl, trivial⟩ ?_
      refine CX.seq ?_
      refine CX.region ?_
      refine RX.cons rfl rfl (op_w (yw_move rfl rfl) rfl rfl ?_)
      refine RX.cons rfl rfl (op_w (yw_move rfl rfl) rfl rfl ?_)
      refine RX.cons rfl rfl (op_callE rfl rfl rfl rfl rfl ent_19 (fun w hw => w_Judge rs ls (hw.rd hrR (by simp)) (hw.rd hr (by simp)) (by omega) (by omega)) (fun ⟨A8, c8⟩ _ => ?_))
      refine RX.cons rfl rfl (op_w (yw_assign rfl rfl) rfl rfl ?_)
      refine RX.nil (XX.next (V' := [(0, _), (1, _), (7, _), (8, _), (10, _), (11, _), (13, _)]) ⟨rfl, rfl, rfl, rfl, rfl, rfl, rfl, trivial⟩ ?_)
      refine CX.seq ?_
      refine CX.region ?_
      refine RX.cons rfl rfl (op_w (yw_move rfl rfl) rfl rfl ?_)
      refine RX.cons rfl rfl (op_w (yw_move rfl rfl) rfl rfl ?_)
      refine RX.cons rfl rfl (op_callE rfl rfl rfl rfl rfl ent_19 (fun w hw => w_Judge rs G (hw.rd hrR (by simp)) (Ent.rd (hw.ents _ (List.mem_of_getElem? (i := 1) rfl))) (by omega) (by omega)) (fun ⟨A9, c9⟩ _ => ?_))
      refine RX.cons rfl rfl (op_w (yw_assign rfl rfl) rfl rfl ?_)
      refine RX.nil (XX.next (V' := [(1, _), (7, _), (8, _), (10, _), (11, _), (13, _), (14, _)]) ⟨rfl, rfl, rfl, rfl, rfl, rfl, rfl, trivial⟩ ?_)
      refine CX.seq ?_
      refine CX.seq ?_
      refine CX.region ?_
      refine RX.cons rfl rfl (op_w (yw_move rfl rfl) rfl rfl ?_)
      refine RX.cons rfl rfl (op_w (yw_lenS rfl Try.underlying36 rfl) rfl rfl ?_)
      refine RX.cons rfl rfl (op_w (yw_move rfl rfl) rfl rfl ?_)
      refine RX.cons rfl rfl (op_w (yw_lenS rfl Try.underlying22 rfl) rfl rfl ?_)
      refine RX.cons rfl rfl (op_w (yw_neq rfl rfl rfl) rfl rfl ?_)
      refine RX.know (t := 70) (u := .bool false) rfl (congrArg Value.bool (decide_eq_false (by rw [List.length_map]; omega))) ?_
      refine RX.cons rfl rfl (op_w (yw_move rfl rfl) rfl rfl ?_)
      refine RX.consG rfl rfl rfl rfl rfl (op_w (yw_move rfl rfl) rfl rfl ?_)
      refine RX.consG rfl rfl rfl rfl rfl (op_w (yw_lenS rfl Try.underlying36 rfl) rfl rfl ?_)
      refine RX.consG rfl rfl rfl rfl rfl (op_w (yw_move rfl rfl) rfl rfl ?_)
      refine RX.consG rfl rfl rfl rfl rfl (op_w (yw_lenS rfl Try.underlying22 rfl) rfl rfl ?_)
      refine RX.consG rfl rfl rfl rfl rfl (op_w (yw_neq rfl rfl rfl) rfl rfl ?_)
      refine RX.know (t := 76) (u := .bool false) rfl (congrArg Value.bool (decide_eq_false (by rw [List.length_map]; omega))) ?_
      refine RX.cons rfl rfl (op_w (yw_pickF rfl rfl rfl) rfl rfl ?_)
      refine RX.cons rfl rfl (op_w (yw_move rfl rfl) rfl rfl ?_)
      refine RX.consG rfl rfl rfl rfl rfl (op_w (yw_move rfl rfl) rfl rfl ?_)
      refine RX.consG rfl rfl rfl rfl rfl (op_w (yw_move rfl rfl) rfl rfl ?_)
      refine RX.consG rfl rfl rfl rfl rfl (op_w (yw_lenS rfl Try.underlying36 rfl) rfl rfl ?_)
      refine RX.consG rfl rfl rfl rfl rfl (op_w (yw_geq rfl rfl rfl) rfl rfl ?_)
      refine RX.know (t := 82) (u := .bool false) rfl (congrArg Value.bool (decide_eq_false (by rw [List.length_map]; omega))) ?_
      refine RX.cons rfl rfl (op_w (yw_pickF rfl rfl rfl) rfl rfl ?_)
      refine RX.nil (XX.next (V' := [(7, _), (8, _), (11, _), (13, _), (14, _), (83, _)]) ⟨rfl, rfl, rfl, rfl, rfl, rfl, trivial⟩ ?_)
      refine CX.condF rfl ?_
      refine CX.skip (XX.next (V' := [(7, _), (8, _), (11, _), (13, _), (14, _)]) ⟨rfl, rfl, rfl, rfl, rfl, trivial⟩ ?_)
      refine CX.seq ?_
      refine CX.rowSome 1 rfl (by simp <;> omega) (fun hj8 => ?_)
      refine CX.rowSome 0 rfl (by simp <;> omega) (fun hj9 => ?_)
      refine CX.drawL 13 ([.row A9 c9 3 1 (List.map iR (List.map (jud rs G) G)), .row A8 c8 3 1 (List.map iR (List.map (jud rs ls) ls))]) [(0, 128, 19342813113834066795298816), (1, 19342813113834066795298816, 38685626227668133590597632), (2, 38685626227668133590605824, 77371252455336267181195264), (2, 38685626227668133590597888, 154742504910672534362390528), (14, 270799383593676935134183424, 309485009821345068724781056), (18, 348170636049013202315378688, 618970019642690137449562112), (2, 38685626227668133590614016, 1237940039285380274899124224), (2, 38685626227668133590599680, 2475880078570760549798248448), (194, 3752505744083808958287970304, 4951760157141521099596496896), (258, 4990445783369189233187094528, 9903520314283042199192993792), (546, 10561175960153400470233153536, 19807040628566084398385987584), (1026, 19845726254793752531976585216, 39614081257132168796771975168), (4095, 39614081257132168796771975168, 64)] (by kernel_rfl) (by kernel_rfl) (by kernel_rfl) ?_
      refine DX.takeW 0 1 (by kernel_rfl) rfl rfl rfl rfl rfl (yw_move rfl rfl) ?_
      refine DX.takeW 1 3 (by kernel_rfl) rfl rfl rfl rfl rfl (yw_move rfl rfl) ?_
      refine DX.takeWG 2 7 (by kernel_rfl) rfl rfl rfl rfl rfl rfl rfl rfl (yw_move rfl rfl) ?_
      refine DX.takeWG 3 15 (by kernel_rfl) rfl rfl rfl rfl rfl rfl rfl rfl (yw_move rfl rfl) ?_
      refine DX.takeWG 4 31 (by kernel_rfl) rfl rfl rfl rfl rfl rfl rfl rfl (yw_index (k := (pickN k ls.length)) rfl slt_36 rfl rfl (by omega) (by rw [List.length_map]; omega) hj8) ?_
      refine DX.takeG 5 63 (by kernel_rfl) rfl rfl rfl rfl rfl rfl rfl rfl (List.Sublist.cons_cons _ (List.Sublist.cons_cons _ (List.nil_sublist _))) (y_rowElem1 (i := 1) rfl rfl one_3 rfl (map_get (map_get hx0))) ?_
      refine DX.takeWG 6 127 (by kernel_rfl) rfl rfl rfl rfl rfl rfl rfl rfl (yw_move rfl rfl) ?_
      refine DX.takeWG 7 255 (by kernel_rfl) rfl rfl rfl rfl rfl rfl rfl rfl (yw_move rfl rfl) ?_
      refine DX.takeWG 8 511 (by kernel_rfl) rfl rfl rfl rfl rfl rfl rfl rfl (yw_index (k := at1) rfl slt_36 rfl rfl (by omega) (by rw [List.length_map]; omega) hj9) ?_
      refine DX.takeG 9 1023 (by kernel_rfl) rfl rfl rfl rfl rfl rfl rfl rfl (List.Sublist.cons_cons _ (List.Sublist.cons_cons _ (List.nil_sublist _))) (y_rowElem1 (i := 0) rfl rfl one_3 rfl (map_get (map_get hat2))) ?_
      refine DX.takeWG 10 2047 (by kernel_rfl) rfl rfl rfl rfl rfl rfl rfl rfl (yw_eql rfl rfl rfl) ?_
      refine DX.know (t := 94) (u := .bool true) rfl (congrArg Value.bool (decide_eq_true (by omega))) ?_
      refine DX.takeW 11 4095 (by kernel_rfl) rfl rfl rfl rfl rfl (yw_pickT rfl rfl rfl) ?_
      refine DX.takeW 12 8191 (by kernel_rfl) rfl rfl rfl rfl rfl (yw_assign rfl rfl) ?_
      refine DX.done (by kernel_rfl) (XX.next (V' := [(6, .bool true)]) ⟨rfl, trivial⟩ ?_)
      refine CX.ret ?_
      exact ret_tmp rfl rfl fun w1 hw => ⟨rfl, hw.sub (List.nil_sublist _)⟩

end Go.Proofs.Ytpcfgoadkfajfaa
