/- Walks, printed by a program. -/
import Derived.Test.YtpcfgoadkfajfaaKGN
import Derived.Test.YtpcfgoadkfajfaaKLaws11
namespace Go.Proofs.Ytpcfgoadkfajfaa
set_option linter.all false
open Go Go.RowKit
set_option maxRecDepth 100000
theorem ent_17 : ∀ args w, (callFunc 17 args).run Try.prog w = .ok (.enter 17 args) w := enters_of Try.func17 (by kernel_rfl) rfl
set_option maxRecDepth 100000 in
theorem w_lawKi {w : World} {A : Option Addr} {cap : Nat} (ls0 : List Sm) (hr0 : Rd w A 9 (ls0.map smC)) (hc0 : ls0.length ≤ cap) (h80 : ls0.length ≤ 9223372036854775807) (k : Int) (hk1 : -9223372036854775808 ≤ k) (hk2 : k ≤ 9223372036854775807) (q m : Int) {AR : Option Addr} {capR : Nat} (rs0 : List Ru) (hrR0 : Rd w AR 4 (rs0.map ruC)) (hcR : rs0.length ≤ capR) (h8R : rs0.length ≤ 9223372036854775807) (hgR : ∀ f ∈ rs0, -9223372036854775808 ≤ Ru.n f ∧ Ru.n f ≤ 9223372036854775807) :
    Calls Try.prog 10 #[.slice A ls0.length cap, .int .i64 k, .int .i64 q, .int .i64 m, .slice AR rs0.length capR] w (fun e w' => e = .returned (.bool true) ∧ SL w [] w' []) := by
  obtain ⟨ls, hls⟩ : ∃ ls, ls = ls0.take 40 := ⟨_, rfl⟩
  have hr : Rd w A 9 (ls.map smC) := by rw [hls]; exact hr0.takeM 40
  have hmin : min ls0.length 40 = ls.length := by rw [hls, List.length_take]; omega
  have hl40 : ls.length ≤ 40 := by omega
  have hl : ls.length ≤ 100000 := by omega
  obtain ⟨rs, hrs⟩ : ∃ rs, rs = rs0.take 12 := ⟨_, rfl⟩
  have hrR : Rd w AR 4 (rs.map ruC) := by rw [hrs]; exact hrR0.takeM 12
  have hminR : min rs0.length 12 = rs.length := by rw [hrs, List.length_take]; omega
  have hr12 : rs.length ≤ 12 := by omega
  have hlR : rs.length ≤ 1000000 := by omega
  refine calls_of_CX (O := []) (L := []) (args := [.slice A ls0.length cap, .int .i64 k, .int .i64 q, .int .i64 m, .slice AR rs0.length capR]) Try.func10 rfl (by simp [Try.ntmps10]) (SL.refl w) ?_
  refine CX.sub (V' := [(0, .slice A ls0.length cap), (1, .int .i64 k), (2, .int .i64 q), (3, .int .i64 m), (4, .slice AR rs0.length capR)]) ⟨rfl, rfl, rfl, rfl, rfl, trivial⟩ ?_
  refine CX.seq ?_
  refine CX.region ?_
  refine RX.cons rfl rfl (op_w (yw_assign rfl rfl) rfl rfl ?_)
  refine RX.nil (XX.next (V' := [(0, _), (1, _), (2, _), (3, _), (4, _)]) ⟨rfl, rfl, rfl, rfl, rfl, trivial⟩ ?_)
  refine CX.seq ?_
  refine CX.region ?_
  refine RX.cons rfl rfl (op_callV (v := .bool true) rfl rfl rfl rfl rfl ent_12 (fun w hw => w_sane) ?_)
  refine RX.cons rfl rfl (op_w (yw_assign rfl rfl) rfl rfl ?_)
  refine RX.nil (XX.next (V' := [(0, _), (1, _), (2, _), (3, _), (4, _), (11, _)]) ⟨rfl, rfl, rfl, rfl, rfl, rfl, trivial⟩ ?_)
  refine CX.seq ?_
  refine CX.region ?_
  refine RX.cons rfl rfl (op_w (yw_move rfl rfl) rfl rfl ?_)
  refine RX.cons rfl rfl (op_callV (v := .slice A ls.length cap) rfl rfl rfl rfl rfl ent_13 (fun w hw => w_fewE ls0.length hmin hc0 h80) ?_)
  refine RX.cons rfl rfl (op_w (yw_assign rfl rfl) rfl rfl ?_)
  refine RX.nil (XX.next (V' := [(0, _), (1, _), (2, _), (3, _), (4, _), (11, _)]) ⟨rfl, rfl, rfl, rfl, rfl, rfl, trivial⟩ ?_)
  refine CX.seq ?_
  refine CX.seq ?_
  refine CX.region ?_
  refine RX.cons rfl rfl (op_w (yw_move rfl rfl) rfl rfl ?_)
  refine RX.cons rfl rfl (op_w (yw_lenS rfl Try.underlying22 rfl) rfl rfl ?_)
  refine RX.cons rfl rfl (op_w (yw_eql rfl rfl rfl) rfl rfl ?_)
  refine RX.nil (XX.next (V' := [(0, _), (1, _), (2, _), (3, _), (4, _), (11, _), (25, _)]) ⟨rfl, rfl, rfl, rfl, rfl, rfl, rfl, trivial⟩ ?_)
  refine CX.condD (p := ((ls.length : Nat) : Int) = 0) rfl (fun c25 => ?_) (fun c25 => ?_)
  · refine CX.seq ?_
    refine CX.region ?_
    refine RX.cons rfl rfl (op_w (yw_move rfl rfl) rfl rfl ?_)
    refine RX.cons rfl rfl (op_w (yw_move rfl rfl) rfl rfl ?_)
    refine RX.consG rfl rfl rfl rfl rfl (op_w (yw_move rfl rfl) rfl rfl ?_)
    refine RX.consG rfl rfl rfl rfl rfl (op_callV (v := .slice AR rs.length capR) rfl rfl rfl rfl rfl ent_17 (fun w hw => w_shortE rs0.length hminR hcR h8R) ?_)
    refine RX.consG rfl rfl rfl rfl rfl (op_w (yw_move rfl rfl) rfl rfl ?_)
    refine RX.consG rfl rfl rfl rfl rfl (op_callE rfl rfl rfl rfl rfl ent_19 (fun w hw => w_Judge rs ls (hw.rd hrR (by simp)) (hw.rd hr (by simp)) (by omega) (by omega)) (fun ⟨A1, c1⟩ _ => ?_))
    refine RX.consG rfl rfl rfl rfl rfl (op_w (yw_lenS rfl Try.underlying36 rfl) rfl rfl ?_)
    refine RX.consG rfl rfl rfl rfl rfl (op_w (yw_eql rfl rfl rfl) rfl rfl ?_)
    refine RX.know (t := 33) (u := .bool true) rfl (congrArg Value.bool (decide_eq_true (by rw [List.length_map]; omega))) ?_
    refine RX.cons rfl rfl (op_w (yw_pickT rfl rfl rfl) rfl rfl ?_)
    refine RX.cons rfl rfl (op_w (yw_assign rfl rfl) rfl rfl ?_)
    refine RX.nil (XX.next (V' := [(10, .bool true)]) ⟨rfl, trivial⟩ ?_)
    refine CX.ret ?_
    refine XX.then_ret ?_
    exact ret_tmp rfl rfl fun w1 hw => ⟨rfl, hw.sub (List.nil_sublist _)⟩
  · have hp0 := pickN_lt k (n := ls.length) (by omega)
    obtain ⟨x0, hx0⟩ := get_some (l := ls) (k := pickN k ls.length) hp0
    have hx0m := List.mem_of_getElem? hx0
    have hA : ∃ b j, A = some ⟨b, j, none⟩ := hr.some (k := 0) (by simp; omega)
    have hM1 : (1 ≤ q ∧ q ≤ 3 ∧ 1 ≤ m ∧ m ≤ 4) → 1 ≤ (meas ls x0 q m) := fun h => meas_pos hx0m h.1 h.2.1 h.2.2.1 h.2.2.2
    have hM0 : ¬ (1 ≤ q ∧ q ≤ 3 ∧ 1 ≤ m ∧ m ≤ 4) → (meas ls x0 q m) = 0 := meas_none
    refine CX.skip (XX.next (V' := [(0, _), (1, _), (2, _), (3, _), (4, _), (11, _)]) ⟨rfl, rfl, rfl, rfl, rfl, rfl, trivial⟩ ?_)
    refine CX.seq ?_
    refine CX.region ?_
    refine RX.cons rfl rfl (op_w (yw_move rfl rfl) rfl rfl ?_)
    refine RX.cons rfl rfl (op_w (yw_move rfl rfl) rfl rfl ?_)
    refine RX.cons rfl rfl (op_w (yw_move rfl rfl) rfl rfl ?_)
    refine RX.cons rfl rfl (op_w (yw_lenS rfl Try.underlying22 rfl) rfl rfl ?_)
    refine RX.cons rfl rfl (op_callV (v := .int .i64 ((pickN k ls.length : Nat) : Int)) rfl rfl rfl rfl rfl ent_15 (fun w hw => w_pick k ls.length (by omega) (by omega) (by omega)) ?_)
    refine RX.cons rfl rfl (op_w (yw_index (k := (pickN k ls.length)) rfl slt_22 rfl rfl (by omega) (by omega) hA) rfl rfl ?_)
    refine RX.cons rfl rfl (op_yld (y_elem rfl rfl agg_24 hr (by simp) (map_get hx0)) rfl rfl ?_)
    refine RX.cons rfl rfl (op_alloc rfl rfl rfl zero_24 fun g12 => ?_)
    refine RX.cons rfl rfl (op_storeAll (i := 0) rfl rfl rfl rfl szt_24 rfl (plain_of rfl) rfl rfl ?_)
    refine RX.nil (XX.next (V' := [(0, _), (2, _), (3, _), (4, _), (11, _), (12, _)]) ⟨rfl, rfl, rfl, rfl, rfl, rfl, trivial⟩ ?_)
    refine CX.seq ?_
    refine CX.region ?_
    refine RX.cons rfl rfl (op_w (yw_move rfl rfl) rfl rfl ?_)
    refine RX.cons rfl rfl (op_w (yw_geq rfl rfl rfl) rfl rfl ?_)
    refine RX.cons rfl rfl (op_w (yw_move rfl rfl) rfl rfl ?_)
    refine RX.splitD (t := 44) (p := 1 ≤ q) rfl (fun d44 => ?_) (fun d44 => ?_)
    · refine RX.consG rfl rfl rfl rfl rfl (op_w (yw_move rfl rfl) rfl rfl ?_)
      refine RX.consG rfl rfl rfl rfl rfl (op_w (yw_leq rfl rfl rfl) rfl rfl ?_)
      refine RX.cons rfl rfl (op_w (yw_pickT rfl rfl rfl) rfl rfl ?_)
      refine RX.cons rfl rfl (op_w (yw_move rfl rfl) rfl rfl ?_)
      refine RX.splitD (t := 48) (p := q ≤ 3) rfl (fun d48 => ?_) (fun d48 => ?_)
      · refine RX.consG rfl rfl rfl rfl rfl (op_w (yw_move rfl rfl) rfl rfl ?_)
        refine RX.consG rfl rfl rfl rfl rfl (op_w (yw_geq rfl rfl rfl) rfl rfl ?_)
        refine RX.cons rfl rfl (op_w (yw_pickT rfl rfl rfl) rfl rfl ?_)
        refine RX.cons rfl rfl (op_w (yw_move rfl rfl) rfl rfl ?_)
        refine RX.splitD (t := 52) (p := 1 ≤ m) rfl (fun d52 => ?_) (fun d52 => ?_)
        · refine RX.consG rfl rfl rfl rfl rfl (op_w (yw_move rfl rfl) rfl rfl ?_)
          refine RX.consG rfl rfl rfl rfl rfl (op_w (yw_leq rfl rfl rfl) rfl rfl ?_)
          refine RX.cons rfl rfl (op_w (yw_pickT rfl rfl rfl) rfl rfl ?_)
          refine RX.cons rfl rfl (op_w (yw_assign rfl rfl) rfl rfl ?_)
          refine RX.nil (XX.next (V' := [(0, _), (2, _), (3, _), (4, _), (11, _), (12, _), (13, _)]) ⟨rfl, rfl, rfl, rfl, rfl, rfl, rfl, trivial⟩ ?_)
          refine CX.seq ?_
          refine CX.region ?_
          refine RX.cons rfl rfl (op_w (yw_move rfl rfl) rfl rfl ?_)
          refine RX.cons rfl rfl (op_yld (y_loadA (i := 0) rfl rfl agg_24 rfl rfl) rfl rfl ?_)
          refine RX.cons rfl rfl (op_callV (v := .int .i64 ((meas ls x0 1 2 : Nat) : Int)) rfl rfl rfl rfl rfl ent_14 (fun w hw => w_Measure ls (hw.rd hr (by simp)) hl x0 1 2) ?_)
          refine RX.know (t := 58) (u := .int .i64 1) rfl (by rw [meas_one_acc hx0m]; rfl) ?_
          refine RX.cons rfl rfl (op_w (yw_eql rfl rfl rfl) rfl rfl ?_)
          refine RX.know (t := 59) (u := .bool true) rfl (congrArg Value.bool (decide_eq_true rfl)) ?_
          refine RX.cons rfl rfl (op_w (yw_move rfl rfl) rfl rfl ?_)
          refine RX.consG rfl rfl rfl rfl rfl (op_w (yw_move rfl rfl) rfl rfl ?_)
          refine RX.consG rfl rfl rfl rfl rfl (op_yld (y_loadA (i := 0) rfl rfl agg_24 rfl rfl) rfl rfl ?_)
          refine RX.consG rfl rfl rfl rfl rfl (op_callV (v := .int .i64 ((meas ls x0 2 3 : Nat) : Int)) rfl rfl rfl rfl rfl ent_14 (fun w hw => w_Measure ls (hw.rd hr (by simp)) hl x0 2 3) ?_)
          refine RX.know (t := 63) (u := .int .i64 1) rfl (by rw [meas_one_dev hx0m]; rfl) ?_
          refine RX.consG rfl rfl rfl rfl rfl (op_w (yw_eql rfl rfl rfl) rfl rfl ?_)
          refine RX.know (t := 64) (u := .bool true) rfl (congrArg Value.bool (decide_eq_true rfl)) ?_
          refine RX.cons rfl rfl (op_w (yw_pickT rfl rfl rfl) rfl rfl ?_)
          refine RX.cons rfl rfl (op_w (yw_move rfl rfl) rfl rfl ?_)
          refine RX.consG rfl rfl rfl rfl rfl (op_w (yw_move rfl rfl) rfl rfl ?_)
          refine RX.consG rfl rfl rfl rfl rfl (op_yld (y_loadA (i := 0) rfl rfl agg_24 rfl rfl) rfl rfl ?_)
          refine RX.consG rfl rfl rfl rfl rfl (op_w (yw_move rfl rfl) rfl rfl ?_)
          refine RX.consG rfl rfl rfl rfl rfl (op_w (yw_move rfl rfl) rfl rfl ?_)
          refine RX.consG rfl rfl rfl rfl rfl (op_callV (v := .int .i64 ((meas ls x0 q m : Nat) : Int)) rfl rfl rfl rfl rfl ent_14 (fun w hw => w_Measure ls (hw.rd hr (by simp)) hl x0 q m) ?_)
          refine RX.consG rfl rfl rfl rfl rfl (op_w (yw_geq rfl rfl rfl) rfl rfl ?_)
          refine RX.consG rfl rfl rfl rfl rfl (op_w (yw_move rfl rfl) rfl rfl ?_)
          refine RX.consG rfl rfl rfl rfl rfl (op_w (yw_beql rfl Try.underlying4 rfl rfl) rfl rfl ?_)
          refine RX.know (t := 74) (u := .bool true) rfl (congrArg Value.bool (by rw [beq_iff_eq, decide_eq_decide]; omega)) ?_
          refine RX.cons rfl rfl (op_w (yw_pickT rfl rfl rfl) rfl rfl ?_)
          refine RX.cons rfl rfl (op_w (yw_assign rfl rfl) rfl rfl ?_)
          refine RX.nil (XX.next (V' := [(0, _), (4, _), (11, _), (14, _)]) ⟨rfl, rfl, rfl, rfl, trivial⟩ ?_)
          refine CX.seq ?_
          refine CX.region ?_
          refine RX.cons rfl rfl (op_w (yw_assign rfl rfl) rfl rfl ?_)
          refine RX.nil (XX.next (V' := [(0, _), (4, _), (11, _), (14, _), (15, _)]) ⟨rfl, rfl, rfl, rfl, rfl, trivial⟩ ?_)
          refine CX.seq ?_
          refine CX.seq ?_
          refine CX.region ?_
          refine RX.cons rfl rfl (op_w (yw_assign rfl rfl) rfl rfl ?_)
          refine RX.nil (XX.next (V' := [(0, _), (4, _), (11, _), (14, _), (15, _), (16, _)]) ⟨rfl, rfl, rfl, rfl, rfl, rfl, trivial⟩ ?_)
          refine CX.block ?_
          refine CX.drop (L' := []) (List.nil_sublist _) ?_
          refine CX.rowNil 44 4 ?_
          refine CX.loop (σ := Nat × (Option Addr × Nat) × List Ru) (fun z => [(0, .slice A ls.length cap), (4, .slice AR rs0.length capR), (11, .bool true), (14, .bool true), (15, .slice z.2.1.1 (List.length (z.2.2 : List Ru)) z.2.1.2), (16, .int .i64 ((z.1 : Nat) : Int))]) (fun z => [.row z.2.1.1 z.2.1.2 44 4 (List.map ruC z.2.2)]) (fun z => z.1 ≤ rs0.length ∧ z.1 ≤ 12 ∧ z.2.2 = (List.map badR (List.take z.1 rs0))) (fun z => 12 - z.1) (0, (none, 0), []) ⟨Nat.zero_le _, Nat.zero_le _, rfl⟩ ⟨rfl, rfl, rfl, rfl, rfl, rfl, trivial⟩ rfl (fun z hI => ?_)
          obtain ⟨i, ⟨A4, c4⟩, B⟩ := z
          dsimp only at hI ⊢
          obtain ⟨hi, hi12, hB⟩ := hI
          have hBn : B.length = i := by rw [hB, List.length_map, List.length_take]; omega
          refine CX.seq ?_
          refine CX.seq ?_
          refine CX.region ?_
          refine RX.cons rfl rfl (op_w (yw_move rfl rfl) rfl rfl ?_)
          refine RX.cons rfl rfl (op_w (yw_move rfl rfl) rfl rfl ?_)
          refine RX.cons rfl rfl (op_w (yw_lenS rfl Try.underlying30 rfl) rfl rfl ?_)
          refine RX.cons rfl rfl (op_w (yw_lss rfl rfl rfl) rfl rfl ?_)
          refine RX.cons rfl rfl (op_w (yw_move rfl rfl) rfl rfl ?_)
          refine RX.splitD (t := 80) (p := ((i : Nat) : Int) < ((rs0.length : Nat) : Int)) rfl (fun d80 => ?_) (fun d80 => ?_)
          · refine RX.consG rfl rfl rfl rfl rfl (op_w (yw_move rfl rfl) rfl rfl ?_)
            refine RX.consG rfl rfl rfl rfl rfl (op_w (yw_lss rfl rfl rfl) rfl rfl ?_)
            refine RX.cons rfl rfl (op_w (yw_pickT rfl rfl rfl) rfl rfl ?_)
            refine RX.nil (XX.next (V' := [(0, _), (4, _), (11, _), (14, _), (15, _), (16, _), (83, _)]) ⟨rfl, rfl, rfl, rfl, rfl, rfl, rfl, trivial⟩ ?_)
            refine CX.condD (p := ((i : Nat) : Int) < 12) rfl (fun c83 => ?_) (fun c83 => ?_)
            · obtain ⟨x1, hx1⟩ := get_some (l := rs0) (k := i) (by omega)
              have hx1m := List.mem_of_getElem? hx1
              have hAR : ∃ b j, AR = some ⟨b, j, none⟩ := hrR0.some (k := 0) (by simp; omega)
              have hgx := hgR x1 hx1m
              have hp5 := pickN_lt (Ru.n x1) (n := 5) (by decide)
              refine CX.skip (XX.next (V' := [(0, _), (4, _), (11, _), (14, _), (15, _), (16, _)]) ⟨rfl, rfl, rfl, rfl, rfl, rfl, trivial⟩ ?_)
              refine CX.seq ?_
              refine CX.block ?_
              refine CX.seq ?_
              refine CX.region ?_
              refine RX.cons rfl rfl (op_w (yw_move rfl rfl) rfl rfl ?_)
              refine RX.cons rfl rfl (op_w (yw_move rfl rfl) rfl rfl ?_)
              refine RX.cons rfl rfl (op_w (yw_index (k := i) rfl slt_30 rfl rfl (by omega) (by omega) hAR) rfl rfl ?_)
              refine RX.cons rfl rfl (op_yld (y_elem rfl rfl agg_44 hrR0 (by simp) (map_get hx1)) rfl rfl ?_)
              refine RX.cons rfl rfl (op_alloc rfl rfl rfl zero_44 fun g17 => ?_)
              refine RX.cons rfl rfl (op_storeAll (i := 0) rfl rfl rfl rfl szt_44 rfl (plain_of rfl) rfl rfl ?_)
              refine RX.nil (XX.next (V' := [(0, _), (4, _), (11, _), (14, _), (15, _), (16, _), (17, _)]) ⟨rfl, rfl, rfl, rfl, rfl, rfl, rfl, trivial⟩ ?_)
              refine CX.seq ?_
              refine CX.region ?_
              refine RX.cons rfl rfl (op_w (yw_fieldAddr rfl fld_44_3 rfl) rfl rfl ?_)
              refine RX.cons rfl rfl (op_yld (y_load (i := 0) rfl rfl one_3 rfl rfl) rfl rfl ?_)
              refine RX.cons rfl rfl (op_callV (v := .int .i64 ((pickN (Ru.n x1) 5 : Nat) : Int)) rfl rfl rfl rfl rfl ent_15 (fun w hw => w_pick (Ru.n x1) 5 hgx.1 hgx.2 (by decide)) ?_)
              refine RX.cons rfl rfl (op_w (yw_sub rfl rfl rfl (by omega) (by omega)) rfl rfl ?_)
              refine RX.cons rfl rfl (op_w (yw_fieldAddr rfl fld_44_3 rfl) rfl rfl ?_)
              refine RX.cons rfl rfl (op_store1 (i := 0) (cs' := #[.int .i64 (Ru.act x1), .int .i64 (Ru.sub x1), .int .i64 (Ru.mea x1), .int .i64 ((-1) - ((pickN (Ru.n x1) 5 : Nat) : Int))]) rfl rfl rfl rfl szt_3 rfl rfl rfl rfl ?_)
              refine RX.nil (XX.next (V' := [(0, _), (4, _), (11, _), (14, _), (15, _), (16, _), (17, _)]) ⟨rfl, rfl, rfl, rfl, rfl, rfl, rfl, trivial⟩ ?_)
              refine CX.region ?_
              refine RX.cons rfl rfl (op_w (yw_move rfl rfl) rfl rfl ?_)
              refine RX.cons rfl rfl (op_yld (y_loadA (i := 0) rfl rfl agg_44 rfl rfl) rfl rfl ?_)
              refine RX.cons rfl rfl (op_buildSlice rfl rfl rfl slb_30 rfl rfl (by intro v hv; simp only [List.mem_cons, List.not_mem_nil, or_false] at hv; subst hv; exact ⟨rfl, (plain_of rfl)⟩) (by decide) fun g18 => ?_)
              refine RX.cons rfl rfl (op_appendM ruC (i := 2) (j := 0) (xs := B) ([badR x1]) rfl rfl rfl slb_30 rfl rfl rfl rfl rfl rfl (by rw [List.length_singleton]; omega) (by rw [List.length_singleton]; omega) fun A5 c5 => ?_)
              refine RX.cons rfl rfl (op_w (yw_assign rfl rfl) rfl rfl ?_)
              refine RX.nil (XX.inBlock (V' := [(0, _), (4, _), (11, _), (14, _), (15, _), (16, _)]) ⟨rfl, rfl, rfl, rfl, rfl, rfl, trivial⟩ ?_)
              refine XX.next (V' := [(0, _), (4, _), (11, _), (14, _), (15, _), (16, _)]) ⟨rfl, rfl, rfl, rfl, rfl, rfl, trivial⟩ ?_
              refine CX.region ?_
              refine RX.cons rfl rfl (op_w (yw_move rfl rfl) rfl rfl ?_)
              refine RX.cons rfl rfl (op_w (yw_add rfl rfl rfl (by omega) (by omega)) rfl rfl ?_)
              refine RX.cons rfl rfl (op_w (yw_assign rfl rfl) rfl rfl ?_)
              refine RX.nil (XX.againP ([.row (some ⟨g18, 0, none⟩) 1 44 4 (List.map ruC ([badR x1])), .blk g17 (.cells (#[.int .i64 (Ru.act x1), .int .i64 (Ru.sub x1), .int .i64 (Ru.mea x1), .int .i64 ((-1) - ((pickN (Ru.n x1) 5 : Nat) : Int))]) 44 (0, 0))]) (i + 1, (A5, c5), B ++ [badR x1]) (by dsimp only; omega) ⟨by dsimp only; omega, by dsimp only; omega, by dsimp only; rw [take_map_succ hx1, ← hB]⟩ ⟨rfl, rfl, rfl, rfl, rfl, rfl, trivial⟩ ((perm_pick 2 rfl).trans (List.Perm.cons _ (List.Perm.refl _))))
            · refine CX.exit ?_
              refine XX.then_exit ?_
              refine XX.then_exit ?_
              refine XX.block_exit ?_
              refine XX.next (V' := [(0, _), (11, _), (14, _), (15, _)]) ⟨rfl, rfl, rfl, rfl, trivial⟩ ?_
              refine CX.seq ?_
              have hBj : ∀ s, jud B ls s = 1 := fun s => by rw [hB]; exact jud_bads _ ls s
              refine CX.region ?_
              refine RX.cons rfl rfl (op_w (yw_move rfl rfl) rfl rfl ?_)
              refine RX.cons rfl rfl (op_w (yw_move rfl rfl) rfl rfl ?_)
              refine RX.cons rfl rfl (op_callE rfl rfl rfl rfl rfl ent_19 (fun w hw => w_Judge B ls (Ent.rd (hw.ents _ (List.mem_of_getElem? (i := 0) rfl))) (hw.rd hr (by simp)) (by omega) (by omega)) (fun ⟨A2, c2⟩ _ => ?_))
              refine RX.cons rfl rfl (op_w (yw_assign rfl rfl) rfl rfl ?_)
              refine RX.nil (XX.next (V' := [(0, _), (11, _), (14, _), (18, _)]) ⟨rfl, rfl, rfl, rfl, trivial⟩ ?_)
              refine CX.seq ?_
              refine CX.seq ?_
              refine CX.region ?_
              refine RX.cons rfl rfl (op_w (yw_assign rfl rfl) rfl rfl ?_)
              refine RX.nil (XX.next (V' := [(0, _), (11, _), (14, _), (18, _), (19, _)]) ⟨rfl, rfl, rfl, rfl, rfl, trivial⟩ ?_)
              refine CX.block ?_
              refine CX.perm (L' := [.row A2 c2 3 1 (List.map iR (List.map (jud B ls) ls)), .row A4 c4 44 4 (List.map ruC B)]) ((perm_pick 0 rfl).trans (List.Perm.cons _ (List.Perm.refl _))) ?_
              refine CX.drop (L' := [.row A2 c2 3 1 (List.map iR (List.map (jud B ls) ls))]) (List.Sublist.cons_cons _ (List.nil_sublist _)) ?_
              refine CX.loop (σ := Nat) (fun j => [(0, .slice A ls.length cap), (11, .bool true), (14, .bool true), (18, .slice A2 (List.length ((List.map (jud B ls) ls) : List Int)) c2), (19, .int .i64 ((j : Nat) : Int))]) (fun j => [.row A2 c2 3 1 (List.map iR (List.map (jud B ls) ls))]) (fun j => j ≤ ls.length) (fun j => ls.length - j) 0 (Nat.zero_le _) ⟨rfl, rfl, rfl, rfl, rfl, trivial⟩ rfl (fun j hI => ?_)
              have hj := hI
              refine CX.seq ?_
              refine CX.seq ?_
              refine CX.region ?_
              refine RX.cons rfl rfl (op_w (yw_move rfl rfl) rfl rfl ?_)
              refine RX.cons rfl rfl (op_w (yw_move rfl rfl) rfl rfl ?_)
              refine RX.cons rfl rfl (op_w (yw_lenS rfl Try.underlying36 rfl) rfl rfl ?_)
              refine RX.cons rfl rfl (op_w (yw_lss rfl rfl rfl) rfl rfl ?_)
              refine RX.nil (XX.next (V' := [(0, _), (11, _), (14, _), (18, _), (19, _), (105, _)]) ⟨rfl, rfl, rfl, rfl, rfl, rfl, trivial⟩ ?_)
              refine CX.condD (p := ((j : Nat) : Int) < ((List.length ((List.map (jud B ls) ls) : List Int) : Nat) : Int)) rfl (fun c105 => ?_) (fun c105 => ?_)
              · rw [List.length_map] at c105
                obtain ⟨x2, hx2⟩ := get_some (l := ls) (k := j) (by omega)
                have hx2m := List.mem_of_getElem? hx2
                refine CX.rowSome 0 rfl (by rw [List.length_map, List.length_map]; omega) (fun hj2 => ?_)
                refine CX.skip (XX.next (V' := [(0, _), (11, _), (14, _), (18, _), (19, _)]) ⟨rfl, rfl, rfl, rfl, rfl, trivial⟩ ?_)
                refine CX.seq ?_
                refine CX.block ?_
                refine CX.region ?_
                refine RX.cons rfl rfl (op_w (yw_move rfl rfl) rfl rfl ?_)
                refine RX.cons rfl rfl (op_w (yw_move rfl rfl) rfl rfl ?_)
                refine RX.consG rfl rfl rfl rfl rfl (op_w (yw_move rfl rfl) rfl rfl ?_)
                refine RX.consG rfl rfl rfl rfl rfl (op_w (yw_move rfl rfl) rfl rfl ?_)
                refine RX.consG rfl rfl rfl rfl rfl (op_w (yw_index (k := j) rfl slt_36 rfl rfl (by omega) (by rw [List.length_map]; omega) hj2) rfl rfl ?_)
                refine RX.consG rfl rfl rfl rfl rfl (op_yld (y_rowElem1 (i := 0) rfl rfl one_3 rfl (map_get (map_get hx2))) rfl rfl ?_)
                refine RX.consG rfl rfl rfl rfl rfl (op_w (yw_eql rfl rfl rfl) rfl rfl ?_)
                refine RX.know (t := 114) (u := .bool true) rfl (congrArg Value.bool (decide_eq_true (hBj x2))) ?_
                refine RX.cons rfl rfl (op_w (yw_pickT rfl rfl rfl) rfl rfl ?_)
                refine RX.cons rfl rfl (op_w (yw_assign rfl rfl) rfl rfl ?_)
                refine RX.nil (XX.inBlock (V' := [(0, _), (11, _), (14, _), (18, _), (19, _)]) ⟨rfl, rfl, rfl, rfl, rfl, trivial⟩ ?_)
                refine XX.next (V' := [(0, _), (11, _), (14, _), (18, _), (19, _)]) ⟨rfl, rfl, rfl, rfl, rfl, trivial⟩ ?_
                refine CX.region ?_
                refine RX.cons rfl rfl (op_w (yw_move rfl rfl) rfl rfl ?_)
                refine RX.cons rfl rfl (op_w (yw_add rfl rfl rfl (by omega) (by omega)) rfl rfl ?_)
                refine RX.cons rfl rfl (op_w (yw_assign rfl rfl) rfl rfl ?_)
                refine RX.nil (XX.againP ([]) (j + 1) (by omega) (by omega) ⟨rfl, rfl, rfl, rfl, rfl, trivial⟩ ((perm_pick 0 rfl).trans (List.Perm.cons _ (List.Perm.refl _))))
              · rw [List.length_map] at c105
                refine CX.exit ?_
                refine XX.then_exit ?_
                refine XX.then_exit ?_
                refine XX.block_exit ?_
                refine XX.next (V' := [(0, _), (11, _), (14, _), (18, _)]) ⟨rfl, rfl, rfl, rfl, trivial⟩ ?_
                refine CX.seq ?_
                refine CX.region ?_
                refine RX.cons rfl rfl (op_w (yw_move rfl rfl) rfl rfl ?_)
                refine RX.cons rfl rfl (op_w (yw_move rfl rfl) rfl rfl ?_)
                refine RX.consG rfl rfl rfl rfl rfl (op_w (yw_move rfl rfl) rfl rfl ?_)
                refine RX.cons rfl rfl (op_w (yw_pickT rfl rfl rfl) rfl rfl ?_)
                refine RX.cons rfl rfl (op_w (yw_move rfl rfl) rfl rfl ?_)
                refine RX.consG rfl rfl rfl rfl rfl (op_w (yw_move rfl rfl) rfl rfl ?_)
                refine RX.consG rfl rfl rfl rfl rfl (op_w (yw_lenS rfl Try.underlying36 rfl) rfl rfl ?_)
                refine RX.consG rfl rfl rfl rfl rfl (op_w (yw_move rfl rfl) rfl rfl ?_)
                refine RX.consG rfl rfl rfl rfl rfl (op_w (yw_lenS rfl Try.underlying22 rfl) rfl rfl ?_)
                refine RX.consG rfl rfl rfl rfl rfl (op_w (yw_eql rfl rfl rfl) rfl rfl ?_)
                refine RX.know (t := 125) (u := .bool true) rfl (congrArg Value.bool (decide_eq_true (by rw [List.length_map]))) ?_
                refine RX.cons rfl rfl (op_w (yw_pickT rfl rfl rfl) rfl rfl ?_)
                refine RX.cons rfl rfl (op_w (yw_assign rfl rfl) rfl rfl ?_)
                refine RX.nil (XX.next (V' := [(10, .bool true)]) ⟨rfl, trivial⟩ ?_)
                refine CX.ret ?_
                exact ret_tmp rfl rfl fun w1 hw => ⟨rfl, hw.sub (List.nil_sublist _)⟩
          · refine RX.skip rfl rfl rfl rfl rfl rfl rfl ?_
            refine RX.skip rfl rfl rfl rfl rfl rfl rfl ?_
            refine RX.cons rfl rfl (op_w (yw_pickF rfl rfl rfl) rfl rfl ?_)
            refine RX.nil (XX.next (V' := [(0, _), (4, _), (11, _), (14, _), (15, _), (16, _), (83, _)]) ⟨rfl, rfl, rfl, rfl, rfl, rfl, rfl, trivial⟩ ?_)
            refine CX.condF rfl ?_
            refine CX.exit ?_
            refine XX.then_exit ?_
            refine XX.then_exit ?_
            refine XX.block_exit ?_
            refine XX.next (V' := [(0, _), (11, _), (14, _), (15, _)]) ⟨rfl, rfl, rfl, rfl, trivial⟩ ?_
            refine CX.seq ?_
            have hBj : ∀ s, jud B ls s = 1 := fun s => by rw [hB]; exact jud_bads _ ls s
            refine CX.region ?_
            refine RX.cons rfl rfl (op_w (yw_move rfl rfl) rfl rfl ?_)
            refine RX.cons rfl rfl (op_w (yw_move rfl rfl) rfl rfl ?_)
            refine RX.cons rfl rfl (op_callE rfl rfl rfl rfl rfl ent_19 (fun w hw => w_Judge B ls (Ent.rd (hw.ents _ (List.mem_of_getElem? (i := 0) rfl))) (hw.rd hr (by simp)) (by omega) (by omega)) (fun ⟨A2, c2⟩ _ => ?_))
            refine RX.cons rfl rfl (op_w (yw_assign rfl rfl) rfl rfl ?_)
            refine RX.nil (XX.next (V' := [(0, _), (11, _), (14, _), (18, _)]) ⟨rfl, rfl, rfl, rfl, trivial⟩ ?_)
            refine CX.seq ?_
            refine CX.seq ?_
            refine CX.region ?_
            refine RX.cons rfl rfl (op_w (yw_assign rfl rfl) rfl rfl ?_)
            refine RX.nil (XX.next (V' := [(0, _), (11, _), (14, _), (18, _), (19, _)]) ⟨rfl, rfl, rfl, rfl, rfl, trivial⟩ ?_)
            refine CX.block ?_
            refine CX.perm (L' := [.row A2 c2 3 1 (List.map iR (List.map (jud B ls) ls)), .row A4 c4 44 4 (List.map ruC B)]) ((perm_pick 0 rfl).trans (List.Perm.cons _ (List.Perm.refl _))) ?_
            refine CX.drop (L' := [.row A2 c2 3 1 (List.map iR (List.map (jud B ls) ls))]) (List.Sublist.cons_cons _ (List.nil_sublist _)) ?_
            refine CX.loop (σ := Nat) (fun j => [(0, .slice A ls.length cap), (11, .bool true), (14, .bool true), (18, .slice A2 (List.length ((List.map (jud B ls) ls) : List Int)) c2), (19, .int .i64 ((j : Nat) : Int))]) (fun j => [.row A2 c2 3 1 (List.map iR (List.map (jud B ls) ls))]) (fun j => j ≤ ls.length) (fun j => ls.length - j) 0 (Nat.zero_le _) ⟨rfl, rfl, rfl, rfl, rfl, trivial⟩ rfl (fun j hI => ?_)
            have hj := hI
            refine CX.seq ?_
            refine CX.seq ?_
            refine CX.region ?_
            refine RX.cons rfl rfl (op_w (yw_move rfl rfl) rfl rfl ?_)
            refine RX.cons rfl rfl (op_w (yw_move rfl rfl) rfl rfl ?_)
            refine RX.cons rfl rfl (op_w (yw_lenS rfl Try.underlying36 rfl) rfl rfl ?_)
            refine RX.cons rfl rfl (op_w (yw_lss rfl rfl rfl) rfl rfl ?_)
            refine RX.nil (XX.next (V' := [(0, _), (11, _), (14, _), (18, _), (19, _), (105, _)]) ⟨rfl, rfl, rfl, rfl, rfl, rfl, trivial⟩ ?_)
            refine CX.condD (p := ((j : Nat) : Int) < ((List.length ((List.map (jud B ls) ls) : List Int) : Nat) : Int)) rfl (fun c105 => ?_) (fun c105 => ?_)
            · rw [List.length_map] at c105
              obtain ⟨x2, hx2⟩ := get_some (l := ls) (k := j) (by omega)
              have hx2m := List.mem_of_getElem? hx2
              refine CX.rowSome 0 rfl (by rw [List.length_map, List.length_map]; omega) (fun hj2 => ?_)
              refine CX.skip (XX.next (V' := [(0, _), (11, _), (14, _), (18, _), (19, _)]) ⟨rfl, rfl, rfl, rfl, rfl, trivial⟩ ?_)
              refine CX.seq ?_
              refine CX.block ?_
              refine CX.region ?_
              refine RX.cons rfl rfl (op_w (yw_move rfl rfl) rfl rfl ?_)
              refine RX.cons rfl rfl (op_w (yw_move rfl rfl) rfl rfl ?_)
              refine RX.consG rfl rfl rfl rfl rfl (op_w (yw_move rfl rfl) rfl rfl ?_)
              refine RX.consG rfl rfl rfl rfl rfl (op_w (yw_move rfl rfl) rfl rfl ?_)
              refine RX.consG rfl rfl rfl rfl rfl (op_w (yw_index (k := j) rfl slt_36 rfl rfl (by omega) (by rw [List.length_map]; omega) hj2) rfl rfl ?_)
              refine RX.consG rfl rfl rfl rfl rfl (op_yld (y_rowElem1 (i := 0) rfl rfl one_3 rfl (map_get (map_get hx2))) rfl rfl ?_)
              refine RX.consG rfl rfl rfl rfl rfl (op_w (yw_eql rfl rfl rfl) rfl rfl ?_)
              refine RX.know (t := 114) (u := .bool true) rfl (congrArg Value.bool (decide_eq_true (hBj x2))) ?_
              refine RX.cons rfl rfl (op_w (yw_pickT rfl rfl rfl) rfl rfl ?_)
              refine RX.cons rfl rfl (op_w (yw_assign rfl rfl) rfl rfl ?_)
              refine RX.nil (XX.inBlock (V' := [(0, _), (11, _), (14, _), (18, _), (19, _)]) ⟨rfl, rfl, rfl, rfl, rfl, trivial⟩ ?_)
              refine XX.next (V' := [(0, _), (11, _), (14, _), (18, _), (19, _)]) ⟨rfl, rfl, rfl, rfl, rfl, trivial⟩ ?_
              refine CX.region ?_
              refine RX.cons rfl rfl (op_w (yw_move rfl rfl) rfl rfl ?_)
              refine RX.cons rfl rfl (op_w (yw_add rfl rfl rfl (by omega) (by omega)) rfl rfl ?_)
              refine RX.cons rfl rfl (op_w (yw_assign rfl rfl) rfl rfl ?_)
              refine RX.nil (XX.againP ([]) (j + 1) (by omega) (by omega) ⟨rfl, rfl, rfl, rfl, rfl, trivial⟩ ((perm_pick 0 rfl).trans (List.Perm.cons _ (List.Perm.refl _))))
            · rw [List.length_map] at c105
              refine CX.exit ?_
              refine XX.then_exit ?_
              refine XX.then_exit ?_
              refine XX.block_exit ?_
              refine XX.next (V' := [(0, _), (11, _), (14, _), (18, _)]) ⟨rfl, rfl, rfl, rfl, trivial⟩ ?_
              refine CX.seq ?_
              refine CX.region ?_
              refine RX.cons rfl rfl (op_w (yw_move rfl rfl) rfl rfl ?_)
              refine RX.cons rfl rfl (op_w (yw_move rfl rfl) rfl rfl ?_)
              refine RX.consG rfl rfl rfl rfl rfl (op_w (yw_move rfl rfl) rfl rfl ?_)
              refine RX.cons rfl rfl (op_w (yw_pickT rfl rfl rfl) rfl rfl ?_)
              refine RX.cons rfl rfl (op_w (yw_move rfl rfl) rfl rfl ?_)
              refine RX.consG rfl rfl rfl rfl rfl (op_w (yw_move rfl rfl) rfl rfl ?_)
              refine RX.consG rfl rfl rfl rfl rfl (op_w (yw_lenS rfl Try.underlying36 rfl) rfl rfl ?_)
              refine RX.consG rfl rfl rfl rfl rfl (op_w (yw_move rfl rfl) rfl rfl ?_)
              refine RX.consG rfl rfl rfl rfl rfl (op_w (yw_lenS rfl Try.underlying22 rfl) rfl rfl ?_)
              refine RX.consG rfl rfl rfl rfl rfl (op_w (yw_eql rfl rfl rfl) rfl rfl ?_)
              refine RX.know (t := 125) (u := .bool true) rfl (congrArg Value.bool (decide_eq_true (by rw [List.length_map]))) ?_
              refine RX.cons rfl rfl (op_w (yw_pickT rfl rfl rfl) rfl rfl ?_)
              refine RX.cons rfl rfl (op_w (yw_assign rfl rfl) rfl rfl ?_)
              refine RX.nil (XX.next (V' := [(10, .bool true)]) ⟨rfl, trivial⟩ ?_)
              refine CX.ret ?_
              exact ret_tmp rfl rfl fun w1 hw => ⟨rfl, hw.sub (List.nil_sublist _)⟩
        · refine RX.skip rfl rfl rfl rfl rfl rfl rfl ?_
          refine RX.skip rfl rfl rfl rfl rfl rfl rfl ?_
          refine RX.cons rfl rfl (op_w (yw_pickF rfl rfl rfl) rfl rfl ?_)
          refine RX.cons rfl rfl (op_w (yw_assign rfl rfl) rfl rfl ?_)
          refine RX.nil (XX.next (V' := [(0, _), (2, _), (3, _), (4, _), (11, _), (12, _), (13, _)]) ⟨rfl, rfl, rfl, rfl, rfl, rfl, rfl, trivial⟩ ?_)
          refine CX.seq ?_
          refine CX.region ?_
          refine RX.cons rfl rfl (op_w (yw_move rfl rfl) rfl rfl ?_)
          refine RX.cons rfl rfl (op_yld (y_loadA (i := 0) rfl rfl agg_24 rfl rfl) rfl rfl ?_)
          refine RX.cons rfl rfl (op_callV (v := .int .i64 ((meas ls x0 1 2 : Nat) : Int)) rfl rfl rfl rfl rfl ent_14 (fun w hw => w_Measure ls (hw.rd hr (by simp)) hl x0 1 2) ?_)
          refine RX.know (t := 58) (u := .int .i64 1) rfl (by rw [meas_one_acc hx0m]; rfl) ?_
          refine RX.cons rfl rfl (op_w (yw_eql rfl rfl rfl) rfl rfl ?_)
          refine RX.know (t := 59) (u := .bool true) rfl (congrArg Value.bool (decide_eq_true rfl)) ?_
          refine RX.cons rfl rfl (op_w (yw_move rfl rfl) rfl rfl ?_)
          refine RX.consG rfl rfl rfl rfl rfl (op_w (yw_move rfl rfl) rfl rfl ?_)
          refine RX.consG rfl rfl rfl rfl rfl (op_yld (y_loadA (i := 0) rfl rfl agg_24 rfl rfl) rfl rfl ?_)
          refine RX.consG rfl rfl rfl rfl rfl (op_callV (v := .int .i64 ((meas ls x0 2 3 : Nat) : Int)) rfl rfl rfl rfl rfl ent_14 (fun w hw => w_Measure ls (hw.rd hr (by simp)) hl x0 2 3) ?_)
          refine RX.know (t := 63) (u := .int .i64 1) rfl (by rw [meas_one_dev hx0m]; rfl) ?_
          refine RX.consG rfl rfl rfl rfl rfl (op_w (yw_eql rfl rfl rfl) rfl rfl ?_)
          refine RX.know (t := 64) (u := .bool true) rfl (congrArg Value.bool (decide_eq_true rfl)) ?_
          refine RX.cons rfl rfl (op_w (yw_pickT rfl rfl rfl) rfl rfl ?_)
          refine RX.cons rfl rfl (op_w (yw_move rfl rfl) rfl rfl ?_)
          refine RX.consG rfl rfl rfl rfl rfl (op_w (yw_move rfl rfl) rfl rfl ?_)
          refine RX.consG rfl rfl rfl rfl rfl (op_yld (y_loadA (i := 0) rfl rfl agg_24 rfl rfl) rfl rfl ?_)
          refine RX.consG rfl rfl rfl rfl rfl (op_w (yw_move rfl rfl) rfl rfl ?_)
          refine RX.consG rfl rfl rfl rfl rfl (op_w (yw_move rfl rfl) rfl rfl ?_)
          refine RX.consG rfl rfl rfl rfl rfl (op_callV (v := .int .i64 ((meas ls x0 q m : Nat) : Int)) rfl rfl rfl rfl rfl ent_14 (fun w hw => w_Measure ls (hw.rd hr (by simp)) hl x0 q m) ?_)
          refine RX.consG rfl rfl rfl rfl rfl (op_w (yw_geq rfl rfl rfl) rfl rfl ?_)
          refine RX.consG rfl rfl rfl rfl rfl (op_w (yw_move rfl rfl) rfl rfl ?_)
          refine RX.consG rfl rfl rfl rfl rfl (op_w (yw_beql rfl Try.underlying4 rfl rfl) rfl rfl ?_)
          refine RX.know (t := 74) (u := .bool true) rfl (congrArg Value.bool (by rw [decide_eq_false (by omega)]; rfl)) ?_
          refine RX.cons rfl rfl (op_w (yw_pickT rfl rfl rfl) rfl rfl ?_)
          refine RX.cons rfl rfl (op_w (yw_assign rfl rfl) rfl rfl ?_)
          refine RX.nil (XX.next (V' := [(0, _), (4, _), (11, _), (14, _)]) ⟨rfl, rfl, rfl, rfl, trivial⟩ ?_)
          refine CX.seq ?_
          refine CX.region ?_
          refine RX.cons rfl rfl (op_w (yw_assign rfl rfl) rfl rfl ?_)
          refine RX.nil (XX.next (V' := [(0, _), (4, _), (11, _), (14, _), (15, _)]) ⟨rfl, rfl, rfl, rfl, rfl, trivial⟩ ?_)
          refine CX.seq ?_
          refine CX.seq ?_
          refine CX.region ?_
          refine RX.cons rfl rfl (op_w (yw_assign rfl rfl) rfl rfl ?_)
          refine RX.nil (XX.next (V' := [(0, _), (4, _), (11, _), (14, _), (15, _), (16, _)]) ⟨rfl, rfl, rfl, rfl, rfl, rfl, trivial⟩ ?_)
          refine CX.block ?_
          refine CX.drop (L' := []) (List.nil_sublist _) ?_
          refine CX.rowNil 44 4 ?_
          refine CX.loop (σ := Nat × (Option Addr × Nat) × List Ru) (fun z => [(0, .slice A ls.length cap), (4, .slice AR rs0.length capR), (11, .bool true), (14, .bool true), (15, .slice z.2.1.1 (List.length (z.2.2 : List Ru)) z.2.1.2), (16, .int .i64 ((z.1 : Nat) : Int))]) (fun z => [.row z.2.1.1 z.2.1.2 44 4 (List.map ruC z.2.2)]) (fun z => z.1 ≤ rs0.length ∧ z.1 ≤ 12 ∧ z.2.2 = (List.map badR (List.take z.1 rs0))) (fun z => 12 - z.1) (0, (none, 0), []) ⟨Nat.zero_le _, Nat.zero_le _, rfl⟩ ⟨rfl, rfl, rfl, rfl, rfl, rfl, trivial⟩ rfl (fun z hI => ?_)
          obtain ⟨i, ⟨A4, c4⟩, B⟩ := z
          dsimp only at hI ⊢
          obtain ⟨hi, hi12, hB⟩ := hI
          have hBn : B.length = i := by rw [hB, List.length_map, List.length_take]; omega
          refine CX.seq ?_
          refine CX.seq ?_
          refine CX.region ?_
          refine RX.cons rfl rfl (op_w (yw_move rfl rfl) rfl rfl ?_)
          refine RX.cons rfl rfl (op_w (yw_move rfl rfl) rfl rfl ?_)
          refine RX.cons rfl rfl (op_w (yw_lenS rfl Try.underlying30 rfl) rfl rfl ?_)
          refine RX.cons rfl rfl (op_w (yw_lss rfl rfl rfl) rfl rfl ?_)
          refine RX.cons rfl rfl (op_w (yw_move rfl rfl) rfl rfl ?_)
          refine RX.splitD (t := 80) (p := ((i : Nat) : Int) < ((rs0.length : Nat) : Int)) rfl (fun d80 => ?_) (fun d80 => ?_)
          · refine RX.consG rfl rfl rfl rfl rfl (op_w (yw_move rfl rfl) rfl rfl ?_)
            refine RX.consG rfl rfl rfl rfl rfl (op_w (yw_lss rfl rfl rfl) rfl rfl ?_)
            refine RX.cons rfl rfl (op_w (yw_pickT rfl rfl rfl) rfl rfl ?_)
            refine RX.nil (XX.next (V' := [(0, _), (4, _), (11, _), (14, _), (15, _), (16, _), (83, _)]) ⟨rfl, rfl, rfl, rfl, rfl, rfl, rfl, trivial⟩ ?_)
            refine CX.condD (p := ((i : Nat) : Int) < 12) rfl (fun c83 => ?_) (fun c83 => ?_)
            · obtain ⟨x1, hx1⟩ := get_some (l := rs0) (k := i) (by omega)
              have hx1m := List.mem_of_getElem? hx1
              have hAR : ∃ b j, AR = some ⟨b, j, none⟩ := hrR0.some (k := 0) (by simp; omega)
              have hgx := hgR x1 hx1m
              have hp5 := pickN_lt (Ru.n x1) (n := 5) (by decide)
              refine CX.skip (XX.next (V' := [(0, _), (4, _), (11, _), (14, _), (15, _), (16, _)]) ⟨rfl, rfl, rfl, rfl, rfl, rfl, trivial⟩ ?_)
              refine CX.seq ?_
              refine CX.block ?_
              refine CX.seq ?_
              refine CX.region ?_
              refine RX.cons rfl rfl (op_w (yw_move rfl rfl) rfl rfl ?_)
              refine RX.cons rfl rfl (op_w (yw_move rfl rfl) rfl rfl ?_)
              refine RX.cons rfl rfl (op_w (yw_index (k := i) rfl slt_30 rfl rfl (by omega) (by omega) hAR) rfl rfl ?_)
              refine RX.cons rfl rfl (op_yld (y_elem rfl rfl agg_44 hrR0 (by simp) (map_get hx1)) rfl rfl ?_)
              refine RX.cons rfl rfl (op_alloc rfl rfl rfl zero_44 fun g17 => ?_)
              refine RX.cons rfl rfl (op_storeAll (i := 0) rfl rfl rfl rfl szt_44 rfl (plain_of rfl) rfl rfl ?_)
              refine RX.nil (XX.next (V' := [(0, _), (4, _), (11, _), (14, _), (15, _), (16, _), (17, _)]) ⟨rfl, rfl, rfl, rfl, rfl, rfl, rfl, trivial⟩ ?_)
              refine CX.seq ?_
              refine CX.region ?_
              refine RX.cons rfl rfl (op_w (yw_fieldAddr rfl fld_44_3 rfl) rfl rfl ?_)
              refine RX.cons rfl rfl (op_yld (y_load (i := 0) rfl rfl one_3 rfl rfl) rfl rfl ?_)
              refine RX.cons rfl rfl (op_callV (v := .int .i64 ((pickN (Ru.n x1) 5 : Nat) : Int)) rfl rfl rfl rfl rfl ent_15 (fun w hw => w_pick (Ru.n x1) 5 hgx.1 hgx.2 (by decide)) ?_)
              refine RX.cons rfl rfl (op_w (yw_sub rfl rfl rfl (by omega) (by omega)) rfl rfl ?_)
              refine RX.cons rfl rfl (op_w (yw_fieldAddr rfl fld_44_3 rfl) rfl rfl ?_)
              refine RX.cons rfl rfl (op_store1 (i := 0) (cs' := #[.int .i64 (Ru.act x1), .int .i64 (Ru.sub x1), .int .i64 (Ru.mea x1), .int .i64 ((-1) - ((pickN (Ru.n x1) 5 : Nat) : Int))]) rfl rfl rfl rfl szt_3 rfl rfl rfl rfl ?_)
              refine RX.nil (XX.next (V' := [(0, _), (4, _), (11, _), (14, _), (15, _), (16, _), (17, _)]) ⟨rfl, rfl, rfl, rfl, rfl, rfl, rfl, trivial⟩ ?_)
              refine CX.region ?_
              refine RX.cons rfl rfl (op_w (yw_move rfl rfl) rfl rfl ?_)
              refine RX.cons rfl rfl (op_yld (y_loadA (i := 0) rfl rfl agg_44 rfl rfl) rfl rfl ?_)
              refine RX.cons rfl rfl (op_buildSlice rfl rfl rfl slb_30 rfl rfl (by intro v hv; simp only [List.mem_cons, List.not_mem_nil, or_false] at hv; subst hv; exact ⟨rfl, (plain_of rfl)⟩) (by decide) fun g18 => ?_)
              refine RX.cons rfl rfl (op_appendM ruC (i := 2) (j := 0) (xs := B) ([badR x1]) rfl rfl rfl slb_30 rfl rfl rfl rfl rfl rfl (by rw [List.length_singleton]; omega) (by rw [List.length_singleton]; omega) fun A5 c5 => ?_)
              refine RX.cons rfl rfl (op_w (yw_assign rfl rfl) rfl rfl ?_)
              refine RX.nil (XX.inBlock (V' := [(0, _), (4, _), (11, _), (14, _), (15, _), (16, _)]) ⟨rfl, rfl, rfl, rfl, rfl, rfl, trivial⟩ ?_)
              refine XX.next (V' := [(0, _), (4, _), (11, _), (14, _), (15, _), (16, _)]) ⟨rfl, rfl, rfl, rfl, rfl, rfl, trivial⟩ ?_
              refine CX.region ?_
              refine RX.cons rfl rfl (op_w (yw_move rfl rfl) rfl rfl ?_)
              refine RX.cons rfl rfl (op_w (yw_add rfl rfl rfl (by omega) (by omega)) rfl rfl ?_)
              refine RX.cons rfl rfl (op_w (yw_assign rfl rfl) rfl rfl ?_)
              refine RX.nil (XX.againP ([.row (some ⟨g18, 0, none⟩) 1 44 4 (List.map ruC ([badR x1])), .blk g17 (.cells (#[.int .i64 (Ru.act x1), .int .i64 (Ru.sub x1), .int .i64 (Ru.mea x1), .int .i64 ((-1) - ((pickN (Ru.n x1) 5 : Nat) : Int))]) 44 (0, 0))]) (i + 1, (A5, c5), B ++ [badR x1]) (by dsimp only; omega) ⟨by dsimp only; omega, by dsimp only; omega, by dsimp only; rw [take_map_succ hx1, ← hB]⟩ ⟨rfl, rfl, rfl, rfl, rfl, rfl, trivial⟩ ((perm_pick 2 rfl).trans (List.Perm.cons _ (List.Perm.refl _))))
            · refine CX.exit ?_
              refine XX.then_exit ?_
              refine XX.then_exit ?_
              refine XX.block_exit ?_
              refine XX.next (V' := [(0, _), (11, _), (14, _), (15, _)]) ⟨rfl, rfl, rfl, rfl, trivial⟩ ?_
              refine CX.seq ?_
              have hBj : ∀ s, jud B ls s = 1 := fun s => by rw [hB]; exact jud_bads _ ls s
              refine CX.region ?_
              refine RX.cons rfl rfl (op_w (yw_move rfl rfl) rfl rfl ?_)
              refine RX.cons rfl rfl (op_w (yw_move rfl rfl) rfl rfl ?_)
              refine RX.cons rfl rfl (op_callE rfl rfl rfl rfl rfl ent_19 (fun w hw => w_Judge B ls (Ent.rd (hw.ents _ (List.mem_of_getElem? (i := 0) rfl))) (hw.rd hr (by simp)) (by omega) (by omega)) (fun ⟨A2, c2⟩ _ => ?_))
              refine RX.cons rfl rfl (op_w (yw_assign rfl rfl) rfl rfl ?_)
              refine RX.nil (XX.next (V' := [(0, _), (11, _), (14, _), (18, _)]) ⟨rfl, rfl, rfl, rfl, trivial⟩ ?_)
              refine CX.seq ?_
              refine CX.seq ?_
              refine CX.region ?_
              refine RX.cons rfl rfl (op_w (yw_assign rfl rfl) rfl rfl ?_)
              refine RX.nil (XX.next (V' := [(0, _), (11, _), (14, _), (18, _), (19, _)]) ⟨rfl, rfl, rfl, rfl, rfl, trivial⟩ ?_)
              refine CX.block ?_
              refine CX.perm (L' := [.row A2 c2 3 1 (List.map iR (List.map (jud B ls) ls)), .row A4 c4 44 4 (List.map ruC B)]) ((perm_pick 0 rfl).trans (List.Perm.cons _ (List.Perm.refl _))) ?_
              refine CX.drop (L' := [.row A2 c2 3 1 (List.map iR (List.map (jud B ls) ls))]) (List.Sublist.cons_cons _ (List.nil_sublist _)) ?_
              refine CX.loop (σ := Nat) (fun j => [(0, .slice A ls.length cap), (11, .bool true), (14, .bool true), (18, .slice A2 (List.length ((List.map (jud B ls) ls) : List Int)) c2), (19, .int .i64 ((j : Nat) : Int))]) (fun j => [.row A2 c2 3 1 (List.map iR (List.map (jud B ls) ls))]) (fun j => j ≤ ls.length) (fun j => ls.length - j) 0 (Nat.zero_le _) ⟨rfl, rfl, rfl, rfl, rfl, trivial⟩ rfl (fun j hI => ?_)
              have hj := hI
              refine CX.seq ?_
              refine CX.seq ?_
              refine CX.region ?_
              refine RX.cons rfl rfl (op_w (yw_move rfl rfl) rfl rfl ?_)
              refine RX.cons rfl rfl (op_w (yw_move rfl rfl) rfl rfl ?_)
              refine RX.cons rfl rfl (op_w (yw_lenS rfl Try.underlying36 rfl) rfl rfl ?_)
              refine RX.cons rfl rfl (op_w (yw_lss rfl rfl rfl) rfl rfl ?_)
              refine RX.nil (XX.next (V' := [(0, _), (11, _), (14, _), (18, _), (19, _), (105, _)]) ⟨rfl, rfl, rfl, rfl, rfl, rfl, trivial⟩ ?_)
              refine CX.condD (p := ((j : Nat) : Int) < ((List.length ((List.map (jud B ls) ls) : List Int) : Nat) : Int)) rfl (fun c105 => ?_) (fun c105 => ?_)
              · rw [List.length_map] at c105
                obtain ⟨x2, hx2⟩ := get_some (l := ls) (k := j) (by omega)
                have hx2m := List.mem_of_getElem? hx2
                refine CX.rowSome 0 rfl (by rw [List.length_map, List.length_map]; omega) (fun hj2 => ?_)
                refine CX.skip (XX.next (V' := [(0, _), (11, _), (14, _), (18, _), (19, _)]) ⟨rfl, rfl, rfl, rfl, rfl, trivial⟩ ?_)
                refine CX.seq ?_
                refine CX.block ?_
                refine CX.region ?_
                refine RX.cons rfl rfl (op_w (yw_move rfl rfl) rfl rfl ?_)
                refine RX.cons rfl rfl (op_w (yw_move rfl rfl) rfl rfl ?_)
                refine RX.consG rfl rfl rfl rfl rfl (op_w (yw_move rfl rfl) rfl rfl ?_)
                refine RX.consG rfl rfl rfl rfl rfl (op_w (yw_move rfl rfl) rfl rfl ?_)
                refine RX.consG rfl rfl rfl rfl rfl (op_w (yw_index (k := j) rfl slt_36 rfl rfl (by omega) (by rw [List.length_map]; omega) hj2) rfl rfl ?_)
                refine RX.consG rfl rfl rfl rfl rfl (op_yld (y_rowElem1 (i := 0) rfl rfl one_3 rfl (map_get (map_get hx2))) rfl rfl ?_)
                refine RX.consG rfl rfl rfl rfl rfl (op_w (yw_eql rfl rfl rfl) rfl rfl ?_)
                refine RX.know (t := 114) (u := .bool true) rfl (congrArg Value.bool (decide_eq_true (hBj x2))) ?_
                refine RX.cons rfl rfl (op_w (yw_pickT rfl rfl rfl) rfl rfl ?_)
                refine RX.cons rfl rfl (op_w (yw_assign rfl rfl) rfl rfl ?_)
                refine RX.nil (XX.inBlock (V' := [(0, _), (11, _), (14, _), (18, _), (19, _)]) ⟨rfl, rfl, rfl, rfl, rfl, trivial⟩ ?_)
                refine XX.next (V' := [(0, _), (11, _), (14, _), (18, _), (19, _)]) ⟨rfl, rfl, rfl, rfl, rfl, trivial⟩ ?_
                refine CX.region ?_
                refine RX.cons rfl rfl (op_w (yw_move rfl rfl) rfl rfl ?_)
                refine RX.cons rfl rfl (op_w (yw_add rfl rfl rfl (by omega) (by omega)) rfl rfl ?_)
                refine RX.cons rfl rfl (op_w (yw_assign rfl rfl) rfl rfl ?_)
                refine RX.nil (XX.againP ([]) (j + 1) (by omega) (by omega) ⟨rfl, rfl, rfl, rfl, rfl, trivial⟩ ((perm_pick 0 rfl).trans (List.Perm.cons _ (List.Perm.refl _))))
              · rw [List.length_map] at c105
                refine CX.exit ?_
                refine XX.then_exit ?_
                refine XX.then_exit ?_
                refine XX.block_exit ?_
                refine XX.next (V' := [(0, _), (11, _), (14, _), (18, _)]) ⟨rfl, rfl, rfl, rfl, trivial⟩ ?_
                refine CX.seq ?_
                refine CX.region ?_
                refine RX.cons rfl rfl (op_w (yw_move rfl rfl) rfl rfl ?_)
                refine RX.cons rfl rfl (op_w (yw_move rfl rfl) rfl rfl ?_)
                refine RX.consG rfl rfl rfl rfl rfl (op_w (yw_move rfl rfl) rfl rfl ?_)
                refine RX.cons rfl rfl (op_w (yw_pickT rfl rfl rfl) rfl rfl ?_)
                refine RX.cons rfl rfl (op_w (yw_move rfl rfl) rfl rfl ?_)
                refine RX.consG rfl rfl rfl rfl rfl (op_w (yw_move rfl rfl) rfl rfl ?_)
                refine RX.consG rfl rfl rfl rfl rfl (op_w (yw_lenS rfl Try.underlying36 rfl) rfl rfl ?_)
                refine RX.consG rfl rfl rfl rfl rfl (op_w (yw_move rfl rfl) rfl rfl ?_)
                refine RX.consG rfl rfl rfl rfl rfl (op_w (yw_lenS rfl Try.underlying22 rfl) rfl rfl ?_)
                refine RX.consG rfl rfl rfl rfl rfl (op_w (yw_eql rfl rfl rfl) rfl rfl ?_)
                refine RX.know (t := 125) (u := .bool true) rfl (congrArg Value.bool (decide_eq_true (by rw [List.length_map]))) ?_
                refine RX.cons rfl rfl (op_w (yw_pickT rfl rfl rfl) rfl rfl ?_)
                refine RX.cons rfl rfl (op_w (yw_assign rfl rfl) rfl rfl ?_)
                refine RX.nil (XX.next (V' := [(10, .bool true)]) ⟨rfl, trivial⟩ ?_)
                refine CX.ret ?_
                exact ret_tmp rfl rfl fun w1 hw => ⟨rfl, hw.sub (List.nil_sublist _)⟩
          · refine RX.skip rfl rfl rfl rfl rfl rfl rfl ?_
            refine RX.skip rfl rfl rfl rfl rfl rfl rfl ?_
            refine RX.cons rfl rfl (op_w (yw_pickF rfl rfl rfl) rfl rfl ?_)
            refine RX.nil (XX.next (V' := [(0, _), (4, _), (11, _), (14, _), (15, _), (16, _), (83, _)]) ⟨rfl, rfl, rfl, rfl, rfl, rfl, rfl, trivial⟩ ?_)
            refine CX.condF rfl ?_
            refine CX.exit ?_
            refine XX.then_exit ?_
            refine XX.then_exit ?_
            refine XX.block_exit ?_
            refine XX.next (V' := [(0, _), (11, _), (14, _), (15, _)]) ⟨rfl, rfl, rfl, rfl, trivial⟩ ?_
            refine CX.seq ?_
            have hBj : ∀ s, jud B ls s = 1 := fun s => by rw [hB]; exact jud_bads _ ls s
            refine CX.region ?_
            refine RX.cons rfl rfl (op_w (yw_move rfl rfl) rfl rfl ?_)
            refine RX.cons rfl rfl (op_w (yw_move rfl rfl) rfl rfl ?_)
            refine RX.cons rfl rfl (op_callE rfl rfl rfl rfl rfl ent_19 (fun w hw => w_Judge B ls (Ent.rd (hw.ents _ (List.mem_of_getElem? (i := 0) rfl))) (hw.rd hr (by simp)) (by omega) (by omega)) (fun ⟨A2, c2⟩ _ => ?_))
            refine RX.cons rfl rfl (op_w (yw_assign rfl rfl) rfl rfl ?_)
            refine RX.nil (XX.next (V' := [(0, _), (11, _), (14, _), (18, _)]) ⟨rfl, rfl, rfl, rfl, trivial⟩ ?_)
            refine CX.seq ?_
            refine CX.seq ?_
            refine CX.region ?_
            refine RX.cons rfl rfl (op_w (yw_assign rfl rfl) rfl rfl ?_)
            refine RX.nil (XX.next (V' := [(0, _), (11, _), (14, _), (18, _), (19, _)]) ⟨rfl, rfl, rfl, rfl, rfl, trivial⟩ ?_)
            refine CX.block ?_
            refine CX.perm (L' := [.row A2 c2 3 1 (List.map iR (List.map (jud B ls) ls)), .row A4 c4 44 4 (List.map ruC B)]) ((perm_pick 0 rfl).trans (List.Perm.cons _ (List.Perm.refl _))) ?_
            refine CX.drop (L' := [.row A2 c2 3 1 (List.map iR (List.map (jud B ls) ls))]) (List.Sublist.cons_cons _ (List.nil_sublist _)) ?_
            refine CX.loop (σ := Nat) (fun j => [(0, .slice A ls.length cap), (11, .bool true), (14, .bool true), (18, .slice A2 (List.length ((List.map (jud B ls) ls) : List Int)) c2), (19, .int .i64 ((j : Nat) : Int))]) (fun j => [.row A2 c2 3 1 (List.map iR (List.map (jud B ls) ls))]) (fun j => j ≤ ls.length) (fun j => ls.length - j) 0 (Nat.zero_le _) ⟨rfl, rfl, rfl, rfl, rfl, trivial⟩ rfl (fun j hI => ?_)
            have hj := hI
            refine CX.seq ?_
            refine CX.seq ?_
            refine CX.region ?_
            refine RX.cons rfl rfl (op_w (yw_move rfl rfl) rfl rfl ?_)
            refine RX.cons rfl rfl (op_w (yw_move rfl rfl) rfl rfl ?_)
            refine RX.cons rfl rfl (op_w (yw_lenS rfl Try.underlying36 rfl) rfl rfl ?_)
            refine RX.cons rfl rfl (op_w (yw_lss rfl rfl rfl) rfl rfl ?_)
            refine RX.nil (XX.next (V' := [(0, _), (11, _), (14, _), (18, _), (19, _), (105, _)]) ⟨rfl, rfl, rfl, rfl, rfl, rfl, trivial⟩ ?_)
            refine CX.condD (p := ((j : Nat) : Int) < ((List.length ((List.map (jud B ls) ls) : List Int) : Nat) : Int)) rfl (fun c105 => ?_) (fun c105 => ?_)
            · rw [List.length_map] at c105
              obtain ⟨x2, hx2⟩ := get_some (l := ls) (k := j) (by omega)
              have hx2m := List.mem_of_getElem? hx2
              refine CX.rowSome 0 rfl (by rw [List.length_map, List.length_map]; omega) (fun hj2 => ?_)
              refine CX.skip (XX.next (V' := [(0, _), (11, _), (14, _), (18, _), (19, _)]) ⟨rfl, rfl, rfl, rfl, rfl, trivial⟩ ?_)
              refine CX.seq ?_
              refine CX.block ?_
              refine CX.region ?_
              refine RX.cons rfl rfl (op_w (yw_move rfl rfl) rfl rfl ?_)
              refine RX.cons rfl rfl (op_w (yw_move rfl rfl) rfl rfl ?_)
              refine RX.consG rfl rfl rfl rfl rfl (op_w (yw_move rfl rfl) rfl rfl ?_)
              refine RX.consG rfl rfl rfl rfl rfl (op_w (yw_move rfl rfl) rfl rfl ?_)
              refine RX.consG rfl rfl rfl rfl rfl (op_w (yw_index (k := j) rfl slt_36 rfl rfl (by omega) (by rw [List.length_map]; omega) hj2) rfl rfl ?_)
              refine RX.consG rfl rfl rfl rfl rfl (op_yld (y_rowElem1 (i := 0) rfl rfl one_3 rfl (map_get (map_get hx2))) rfl rfl ?_)
              refine RX.consG rfl rfl rfl rfl rfl (op_w (yw_eql rfl rfl rfl) rfl rfl ?_)
              refine RX.know (t := 114) (u := .bool true) rfl (congrArg Value.bool (decide_eq_true (hBj x2))) ?_
              refine RX.cons rfl rfl (op_w (yw_pickT rfl rfl rfl) rfl rfl ?_)
              refine RX.cons rfl rfl (op_w (yw_assign rfl rfl) rfl rfl ?_)
              refine RX.nil (XX.inBlock (V' := [(0, _), (11, _), (14, _), (18, _), (19, _)]) ⟨rfl, rfl, rfl, rfl, rfl, trivial⟩ ?_)
              refine XX.next (V' := [(0, _), (11, _), (14, _), (18, _), (19, _)]) ⟨rfl, rfl, rfl, rfl, rfl, trivial⟩ ?_
              refine CX.region ?_
              refine RX.cons rfl rfl (op_w (yw_move rfl rfl) rfl rfl ?_)
              refine RX.cons rfl rfl (op_w (yw_add rfl rfl rfl (by omega) (by omega)) rfl rfl ?_)
              refine RX.cons rfl rfl (op_w (yw_assign rfl rfl) rfl rfl ?_)
              refine RX.nil (XX.againP ([]) (j + 1) (by omega) (by omega) ⟨rfl, rfl, rfl, rfl, rfl, trivial⟩ ((perm_pick 0 rfl).trans (List.Perm.cons _ (List.Perm.refl _))))
            · rw [List.length_map] at c105
              refine CX.exit ?_
              refine XX.then_exit ?_
              refine XX.then_exit ?_
              refine XX.block_exit ?_
              refine XX.next (V' := [(0, _), (11, _), (14, _), (18, _)]) ⟨rfl, rfl, rfl, rfl, trivial⟩ ?_
              refine CX.seq ?_
              refine CX.region ?_
              refine RX.cons rfl rfl (op_w (yw_move rfl rfl) rfl rfl ?_)
              refine RX.cons rfl rfl (op_w (yw_move rfl rfl) rfl rfl ?_)
              refine RX.consG rfl rfl rfl rfl rfl (op_w (yw_move rfl rfl) rfl rfl ?_)
              refine RX.cons rfl rfl (op_w (yw_pickT rfl rfl rfl) rfl rfl ?_)
              refine RX.cons rfl rfl (op_w (yw_move rfl rfl) rfl rfl ?_)
              refine RX.consG rfl rfl rfl rfl rfl (op_w (yw_move rfl rfl) rfl rfl ?_)
              refine RX.consG rfl rfl rfl rfl rfl (op_w (yw_lenS rfl Try.underlying36 rfl) rfl rfl ?_)
              refine RX.consG rfl rfl rfl rfl rfl (op_w (yw_move rfl rfl) rfl rfl ?_)
              refine RX.consG rfl rfl rfl rfl rfl (op_w (yw_lenS rfl Try.underlying22 rfl) rfl rfl ?_)
              refine RX.consG rfl rfl rfl rfl rfl (op_w (yw_eql rfl rfl rfl) rfl rfl ?_)
              refine RX.know (t := 125) (u := .bool true) rfl (congrArg Value.bool (decide_eq_true (by rw [List.length_map]))) ?_
              refine RX.cons rfl rfl (op_w (yw_pickT rfl rfl rfl) rfl rfl ?_)
              refine RX.cons rfl rfl (op_w (yw_assign rfl rfl) rfl rfl ?_)
              refine RX.nil (XX.next (V' := [(10, .bool true)]) ⟨rfl, trivial⟩ ?_)
              refine CX.ret ?_
              exact ret_tmp rfl rfl fun w1 hw => ⟨rfl, hw.sub (List.nil_sublist _)⟩
      · refine RX.skip rfl rfl rfl rfl rfl rfl rfl ?_
        refine RX.skip rfl rfl rfl rfl rfl rfl rfl ?_
        refine RX.cons rfl rfl (op_w (yw_pickF rfl rfl rfl) rfl rfl ?_)
        refine RX.cons rfl rfl (op_w (yw_move rfl rfl) rfl rfl ?_)
        refine RX.skip rfl rfl rfl rfl rfl rfl rfl ?_
        refine RX.skip rfl rfl rfl rfl rfl rfl rfl ?_
        refine RX.cons rfl rfl (op_w (yw_pickF rfl rfl rfl) rfl rfl ?_)
        refine RX.cons rfl rfl (op_w (yw_assign rfl rfl) rfl rfl ?_)
        refine RX.nil (XX.next (V' := [(0, _), (2, _), (3, _), (4, _), (11, _), (12, _), (13, _)]) ⟨rfl, rfl, rfl, rfl, rfl, rfl, rfl, trivial⟩ ?_)
        refine CX.seq ?_
        refine CX.region ?_
        refine RX.cons rfl rfl (op_w (yw_move rfl rfl) rfl rfl ?_)
        refine RX.cons rfl rfl (op_yld (y_loadA (i := 0) rfl rfl agg_24 rfl rfl) rfl rfl ?_)
        refine RX.cons rfl rfl (op_callV (v := .int .i64 ((meas ls x0 1 2 : Nat) : Int)) rfl rfl rfl rfl rfl ent_14 (fun w hw => w_Measure ls (hw.rd hr (by simp)) hl x0 1 2) ?_)
        refine RX.know (t := 58) (u := .int .i64 1) rfl (by rw [meas_one_acc hx0m]; rfl) ?_
        refine RX.cons rfl rfl (op_w (yw_eql rfl rfl rfl) rfl rfl ?_)
        refine RX.know (t := 59) (u := .bool true) rfl (congrArg Value.bool (decide_eq_true rfl)) ?_
        refine RX.cons rfl rfl (op_w (yw_move rfl rfl) rfl rfl ?_)
        refine RX.consG rfl rfl rfl rfl rfl (op_w (yw_move rfl rfl) rfl rfl ?_)
        refine RX.consG rfl rfl rfl rfl rfl (op_yld (y_loadA (i := 0) rfl rfl agg_24 rfl rfl) rfl rfl ?_)
        refine RX.consG rfl rfl rfl rfl rfl (op_callV (v := .int .i64 ((meas ls x0 2 3 : Nat) : Int)) rfl rfl rfl rfl rfl ent_14 (fun w hw => w_Measure ls (hw.rd hr (by simp)) hl x0 2 3) ?_)
        refine RX.know (t := 63) (u := .int .i64 1) rfl (by rw [meas_one_dev hx0m]; rfl) ?_
        refine RX.consG rfl rfl rfl rfl rfl (op_w (yw_eql rfl rfl rfl) rfl rfl ?_)
        refine RX.know (t := 64) (u := .bool true) rfl (congrArg Value.bool (decide_eq_true rfl)) ?_
        refine RX.cons rfl rfl (op_w (yw_pickT rfl rfl rfl) rfl rfl ?_)
        refine RX.cons rfl rfl (op_w (yw_move rfl rfl) rfl rfl ?_)
        refine RX.consG rfl rfl rfl rfl rfl (op_w (yw_move rfl rfl) rfl rfl ?_)
        refine RX.consG rfl rfl rfl rfl rfl (op_yld (y_loadA (i := 0) rfl rfl agg_24 rfl rfl) rfl rfl ?_)
        refine RX.consG rfl rfl rfl rfl rfl (op_w (yw_move rfl rfl) rfl rfl ?_)
        refine RX.consG rfl rfl rfl rfl rfl (op_w (yw_move rfl rfl) rfl rfl ?_)
        refine RX.consG rfl rfl rfl rfl rfl (op_callV (v := .int .i64 ((meas ls x0 q m : Nat) : Int)) rfl rfl rfl rfl rfl ent_14 (fun w hw => w_Measure ls (hw.rd hr (by simp)) hl x0 q m) ?_)
        refine RX.consG rfl rfl rfl rfl rfl (op_w (yw_geq rfl rfl rfl) rfl rfl ?_)
        refine RX.consG rfl rfl rfl rfl rfl (op_w (yw_move rfl rfl) rfl rfl ?_)
        refine RX.consG rfl rfl rfl rfl rfl (op_w (yw_beql rfl Try.underlying4 rfl rfl) rfl rfl ?_)
        refine RX.know (t := 74) (u := .bool true) rfl (congrArg Value.bool (by rw [decide_eq_false (by omega)]; rfl)) ?_
        refine RX.cons rfl rfl (op_w (yw_pickT rfl rfl rfl) rfl rfl ?_)
        refine RX.cons rfl rfl (op_w (yw_assign rfl rfl) rfl rfl ?_)
        refine RX.nil (XX.next (V' := [(0, _), (4, _), (11, _), (14, _)]) ⟨rfl, rfl, rfl, rfl, trivial⟩ ?_)
        refine CX.seq ?_
        refine CX.region ?_
        refine RX.cons rfl rfl (op_w (yw_assign rfl rfl) rfl rfl ?_)
        refine RX.nil (XX.next (V' := [(0, _), (4, _), (11, _), (14, _), (15, _)]) ⟨rfl, rfl, rfl, rfl, rfl, trivial⟩ ?_)
        refine CX.seq ?_
        refine CX.seq ?_
        refine CX.region ?_
        refine RX.cons rfl rfl (op_w (yw_assign rfl rfl) rfl rfl ?_)
        refine RX.nil (XX.next (V' := [(0, _), (4, _), (11, _), (14, _), (15, _), (16, _)]) ⟨rfl, rfl, rfl, rfl, rfl, rfl, trivial⟩ ?_)
        refine CX.block ?_
        refine CX.drop (L' := []) (List.nil_sublist _) ?_
        refine CX.rowNil 44 4 ?_
        refine CX.loop (σ := Nat × (Option Addr × Nat) × List Ru) (fun z => [(0, .slice A ls.length cap), (4, .slice AR rs0.length capR), (11, .bool true), (14, .bool true), (15, .slice z.2.1.1 (List.length (z.2.2 : List Ru)) z.2.1.2), (16, .int .i64 ((z.1 : Nat) : Int))]) (fun z => [.row z.2.1.1 z.2.1.2 44 4 (List.map ruC z.2.2)]) (fun z => z.1 ≤ rs0.length ∧ z.1 ≤ 12 ∧ z.2.2 = (List.map badR (List.take z.1 rs0))) (fun z => 12 - z.1) (0, (none, 0), []) ⟨Nat.zero_le _, Nat.zero_le _, rfl⟩ ⟨rfl, rfl, rfl, rfl, rfl, rfl, trivial⟩ rfl (fun z hI => ?_)
        obtain ⟨i, ⟨A4, c4⟩, B⟩ := z
        dsimp only at hI ⊢
        obtain ⟨hi, hi12, hB⟩ := hI
        have hBn : B.length = i := by rw [hB, List.length_map, List.length_take]; omega
        refine CX.seq ?_
        refine CX.seq ?_
        refine CX.region ?_
        refine RX.cons rfl rfl (op_w (yw_move rfl rfl) rfl rfl ?_)
        refine RX.cons rfl rfl (op_w (yw_move rfl rfl) rfl rfl ?_)
        refine RX.cons rfl rfl (op_w (yw_lenS rfl Try.underlying30 rfl) rfl rfl ?_)
        refine RX.cons rfl rfl (op_w (yw_lss rfl rfl rfl) rfl rfl ?_)
        refine RX.cons rfl rfl (op_w (yw_move rfl rfl) rfl rfl ?_)
        refine RX.splitD (t := 80) (p := ((i : Nat) : Int) < ((rs0.length : Nat) : Int)) rfl (fun d80 => ?_) (fun d80 => ?_)
        · refine RX.consG rfl rfl rfl rfl rfl (op_w (yw_move rfl rfl) rfl rfl ?_)
          refine RX.consG rfl rfl rfl rfl rfl (op_w (yw_lss rfl rfl rfl) rfl rfl ?_)
          refine RX.cons rfl rfl (op_w (yw_pickT rfl rfl rfl) rfl rfl ?_)
          refine RX.nil (XX.next (V' := [(0, _), (4, _), (11, _), (14, _), (15, _), (16, _), (83, _)]) ⟨rfl, rfl, rfl, rfl, rfl, rfl, rfl, trivial⟩ ?_)
          refine CX.condD (p := ((i : Nat) : Int) < 12) rfl (fun c83 => ?_) (fun c83 => ?_)
          · obtain ⟨x1, hx1⟩ := get_some (l := rs0) (k := i) (by omega)
            have hx1m := List.mem_of_getElem? hx1
            have hAR : ∃ b j, AR = some ⟨b, j, none⟩ := hrR0.some (k := 0) (by simp; omega)
            have hgx := hgR x1 hx1m
            have hp5 := pickN_lt (Ru.n x1) (n := 5) (by decide)
            refine CX.skip (XX.next (V' := [(0, _), (4, _), (11, _), (14, _), (15, _), (16, _)]) ⟨rfl, rfl, rfl, rfl, rfl, rfl, trivial⟩ ?_)
            refine CX.seq ?_
            refine CX.block ?_
            refine CX.seq ?_
            refine CX.region ?_
            refine RX.cons rfl rfl (op_w (yw_move rfl rfl) rfl rfl ?_)
            refine RX.cons rfl rfl (op_w (yw_move rfl rfl) rfl rfl ?_)
            refine RX.cons rfl rfl (op_w (yw_index (k := i) rfl slt_30 rfl rfl (by omega) (by omega) hAR) rfl rfl ?_)
            refine RX.cons rfl rfl (op_yld (y_elem rfl rfl agg_44 hrR0 (by simp) (map_get hx1)) rfl rfl ?_)
            refine RX.cons rfl rfl (op_alloc rfl rfl rfl zero_44 fun g17 => ?_)
            refine RX.cons rfl rfl (op_storeAll (i := 0) rfl rfl rfl rfl szt_44 rfl (plain_of rfl) rfl rfl ?_)
            refine RX.nil (XX.next (V' := [(0, _), (4, _), (11, _), (14, _), (15, _), (16, _), (17, _)]) ⟨rfl, rfl, rfl, rfl, rfl, rfl, rfl, trivial⟩ ?_)
            refine CX.seq ?_
            refine CX.region ?_
            refine RX.cons rfl rfl (op_w (yw_fieldAddr rfl fld_44_3 rfl) rfl rfl ?_)
            refine RX.cons rfl rfl (op_yld (y_load (i := 0) rfl rfl one_3 rfl rfl) rfl rfl ?_)
            refine RX.cons rfl rfl (op_callV (v := .int .i64 ((pickN (Ru.n x1) 5 : Nat) : Int)) rfl rfl rfl rfl rfl ent_15 (fun w hw => w_pick (Ru.n x1) 5 hgx.1 hgx.2 (by decide)) ?_)
            refine RX.cons rfl rfl (op_w (yw_sub rfl rfl rfl (by omega) (by omega)) rfl rfl ?_)
            refine RX.cons rfl rfl (op_w (yw_fieldAddr rfl fld_44_3 rfl) rfl rfl ?_)
            refine RX.cons rfl rfl (op_store1 (i := 0) (cs' := #[.int .i64 (Ru.act x1), .int .i64 (Ru.sub x1), .int .i64 (Ru.mea x1), .int .i64 ((-1) - ((pickN (Ru.n x1) 5 : Nat) : Int))]) rfl rfl rfl rfl szt_3 rfl rfl rfl rfl ?_)
            refine RX.nil (XX.next (V' := [(0, _), (4, _), (11, _), (14, _), (15, _), (16, _), (17, _)]) ⟨rfl, rfl, rfl, rfl, rfl, rfl, rfl, trivial⟩ ?_)
            refine CX.region ?_
            refine RX.cons rfl rfl (op_w (yw_move rfl rfl) rfl rfl ?_)
            refine RX.cons rfl rfl (op_yld (y_loadA (i := 0) rfl rfl agg_44 rfl rfl) rfl rfl ?_)
            refine RX.cons rfl rfl (op_buildSlice rfl rfl rfl slb_30 rfl rfl (by intro v hv; simp only [List.mem_cons, List.not_mem_nil, or_false] at hv; subst hv; exact ⟨rfl, (plain_of rfl)⟩) (by decide) fun g18 => ?_)
            refine RX.cons rfl rfl (op_appendM ruC (i := 2) (j := 0) (xs := B) ([badR x1]) rfl rfl rfl slb_30 rfl rfl rfl rfl rfl rfl (by rw [List.length_singleton]; omega) (by rw [List.length_singleton]; omega) fun A5 c5 => ?_)
            refine RX.cons rfl rfl (op_w (yw_assign rfl rfl) rfl rfl ?_)
            refine RX.nil (XX.inBlock (V' := [(0, _), (4, _), (11, _), (14, _), (15, _), (16, _)]) ⟨rfl, rfl, rfl, rfl, rfl, rfl, trivial⟩ ?_)
            refine XX.next (V' := [(0, _), (4, _), (11, _), (14, _), (15, _), (16, _)]) ⟨rfl, rfl, rfl, rfl, rfl, rfl, trivial⟩ ?_
            refine CX.region ?_
            refine RX.cons rfl rfl (op_w (yw_move rfl rfl) rfl rfl ?_)
            refine RX.cons rfl rfl (op_w (yw_add rfl rfl rfl (by omega) (by omega)) rfl rfl ?_)
            refine RX.cons rfl rfl (op_w (yw_assign rfl rfl) rfl rfl ?_)
            refine RX.nil (XX.againP ([.row (some ⟨g18, 0, none⟩) 1 44 4 (List.map ruC ([badR x1])), .blk g17 (.cells (#[.int .i64 (Ru.act x1), .int .i64 (Ru.sub x1), .int .i64 (Ru.mea x1), .int .i64 ((-1) - ((pickN (Ru.n x1) 5 : Nat) : Int))]) 44 (0, 0))]) (i + 1, (A5, c5), B ++ [badR x1]) (by dsimp only; omega) ⟨by dsimp only; omega, by dsimp only; omega, by dsimp only; rw [take_map_succ hx1, ← hB]⟩ ⟨rfl, rfl, rfl, rfl, rfl, rfl, trivial⟩ ((perm_pick 2 rfl).trans (List.Perm.cons _ (List.Perm.refl _))))
          · refine CX.exit ?_
            refine XX.then_exit ?_
            refine XX.then_exit ?_
            refine XX.block_exit ?_
            refine XX.next (V' := [(0, _), (11, _), (14, _), (15, _)]) ⟨rfl, rfl, rfl, rfl, trivial⟩ ?_
            refine CX.seq ?_
            have hBj : ∀ s, jud B ls s = 1 := fun s => by rw [hB]; exact jud_bads _ ls s
            refine CX.region ?_
            refine RX.cons rfl rfl (op_w (yw_move rfl rfl) rfl rfl ?_)
            refine RX.cons rfl rfl (op_w (yw_move rfl rfl) rfl rfl ?_)
            refine RX.cons rfl rfl (op_callE rfl rfl rfl rfl rfl ent_19 (fun w hw => w_Judge B ls (Ent.rd (hw.ents _ (List.mem_of_getElem? (i := 0) rfl))) (hw.rd hr (by simp)) (by omega) (by omega)) (fun ⟨A2, c2⟩ _ => ?_))
            refine RX.cons rfl rfl (op_w (yw_assign rfl rfl) rfl rfl ?_)
            refine RX.nil (XX.next (V' := [(0, _), (11, _), (14, _), (18, _)]) ⟨rfl, rfl, rfl, rfl, trivial⟩ ?_)
            refine CX.seq ?_
            refine CX.seq ?_
            refine CX.region ?_
            refine RX.cons rfl rfl (op_w (yw_assign rfl rfl) rfl rfl ?_)
            refine RX.nil (XX.next (V' := [(0, _), (11, _), (14, _), (18, _), (19, _)]) ⟨rfl, rfl, rfl, rfl, rfl, trivial⟩ ?_)
            refine CX.block ?_
            refine CX.perm (L' := [.row A2 c2 3 1 (List.map iR (List.map (jud B ls) ls)), .row A4 c4 44 4 (List.map ruC B)]) ((perm_pick 0 rfl).trans (List.Perm.cons _ (List.Perm.refl _))) ?_
            refine CX.drop (L' := [.row A2 c2 3 1 (List.map iR (List.map (jud B ls) ls))]) (List.Sublist.cons_cons _ (List.nil_sublist _)) ?_
            refine CX.loop (σ := Nat) (fun j => [(0, .slice A ls.length cap), (11, .bool true), (14, .bool true), (18, .slice A2 (List.length ((List.map (jud B ls) ls) : List Int)) c2), (19, .int .i64 ((j : Nat) : Int))]) (fun j => [.row A2 c2 3 1 (List.map iR (List.map (jud B ls) ls))]) (fun j => j ≤ ls.length) (fun j => ls.length - j) 0 (Nat.zero_le _) ⟨rfl, rfl, rfl, rfl, rfl, trivial⟩ rfl (fun j hI => ?_)
            have hj := hI
            refine CX.seq ?_
            refine CX.seq ?_
            refine CX.region ?_
            refine RX.cons rfl rfl (op_w (yw_move rfl rfl) rfl rfl ?_)
            refine RX.cons rfl rfl (op_w (yw_move rfl rfl) rfl rfl ?_)
            refine RX.cons rfl rfl (op_w (yw_lenS rfl Try.underlying36 rfl) rfl rfl ?_)
            refine RX.cons rfl rfl (op_w (yw_lss rfl rfl rfl) rfl rfl ?_)
            refine RX.nil (XX.next (V' := [(0, _), (11, _), (14, _), (18, _), (19, _), (105, _)]) ⟨rfl, rfl, rfl, rfl, rfl, rfl, trivial⟩ ?_)
            refine CX.condD (p := ((j : Nat) : Int) < ((List.length ((List.map (jud B ls) ls) : List Int) : Nat) : Int)) rfl (fun c105 => ?_) (fun c105 => ?_)
            · rw [List.length_map] at c105
              obtain ⟨x2, hx2⟩ := get_some (l := ls) (k := j) (by omega)
              have hx2m := List.mem_of_getElem? hx2
              refine CX.rowSome 0 rfl (by rw [List.length_map, List.length_map]; omega) (fun hj2 => ?_)
              refine CX.skip (XX.next (V' := [(0, _), (11, _), (14, _), (18, _), (19, _)]) ⟨rfl, rfl, rfl, rfl, rfl, trivial⟩ ?_)
              refine CX.seq ?_
              refine CX.block ?_
              refine CX.region ?_
              refine RX.cons rfl rfl (op_w (yw_move rfl rfl) rfl rfl ?_)
              refine RX.cons rfl rfl (op_w (yw_move rfl rfl) rfl rfl ?_)
              refine RX.consG rfl rfl rfl rfl rfl (op_w (yw_move rfl rfl) rfl rfl ?_)
              refine RX.consG rfl rfl rfl rfl rfl (op_w (yw_move rfl rfl) rfl rfl ?_)
              refine RX.consG rfl rfl rfl rfl rfl (op_w (yw_index (k := j) rfl slt_36 rfl rfl (by omega) (by rw [List.length_map]; omega) hj2) rfl rfl ?_)
              refine RX.consG rfl rfl rfl rfl rfl (op_yld (y_rowElem1 (i := 0) rfl rfl one_3 rfl (map_get (map_get hx2))) rfl rfl ?_)
              refine RX.consG rfl rfl rfl rfl rfl (op_w (yw_eql rfl rfl rfl) rfl rfl ?_)
              refine RX.know (t := 114) (u := .bool true) rfl (congrArg Value.bool (decide_eq_true (hBj x2))) ?_
              refine RX.cons rfl rfl (op_w (yw_pickT rfl rfl rfl) rfl rfl ?_)
              refine RX.cons rfl rfl (op_w (yw_assign rfl rfl) rfl rfl ?_)
              refine RX.nil (XX.inBlock (V' := [(0, _), (11, _), (14, _), (18, _), (19, _)]) ⟨rfl, rfl, rfl, rfl, rfl, trivial⟩ ?_)
              refine XX.next (V' := [(0, _), (11, _), (14, _), (18, _), (19, _)]) ⟨rfl, rfl, rfl, rfl, rfl, trivial⟩ ?_
              refine CX.region ?_
              refine RX.cons rfl rfl (op_w (yw_move rfl rfl) rfl rfl ?_)
              refine RX.cons rfl rfl (op_w (yw_add rfl rfl rfl (by omega) (by omega)) rfl rfl ?_)
              refine RX.cons rfl rfl (op_w (yw_assign rfl rfl) rfl rfl ?_)
              refine RX.nil (XX.againP ([]) (j + 1) (by omega) (by omega) ⟨rfl, rfl, rfl, rfl, rfl, trivial⟩ ((perm_pick 0 rfl).trans (List.Perm.cons _ (List.Perm.refl _))))
            · rw [List.length_map] at c105
              refine CX.exit ?_
              refine XX.then_exit ?_
              refine XX.then_exit ?_
              refine XX.block_exit ?_
              refine XX.next (V' := [(0, _), (11, _), (14, _), (18, _)]) ⟨rfl, rfl, rfl, rfl, trivial⟩ ?_
              refine CX.seq ?_
              refine CX.region ?_
              refine RX.cons rfl rfl (op_w (yw_move rfl rfl) rfl rfl ?_)
              refine RX.cons rfl rfl (op_w (yw_move rfl rfl) rfl rfl ?_)
              refine RX.consG rfl rfl rfl rfl rfl (op_w (yw_move rfl rfl) rfl rfl ?_)
              refine RX.cons rfl rfl (op_w (yw_pickT rfl rfl rfl) rfl rfl ?_)
              refine RX.cons rfl rfl (op_w (yw_move rfl rfl) rfl rfl ?_)
              refine RX.consG rfl rfl rfl rfl rfl (op_w (yw_move rfl rfl) rfl rfl ?_)
              refine RX.consG rfl rfl rfl rfl rfl (op_w (yw_lenS rfl Try.underlying36 rfl) rfl rfl ?_)
              refine RX.consG rfl rfl rfl rfl rfl (op_w (yw_move rfl rfl) rfl rfl ?_)
              refine RX.consG rfl rfl rfl rfl rfl (op_w (yw_lenS rfl Try.underlying22 rfl) rfl rfl ?_)
              refine RX.consG rfl rfl rfl rfl rfl (op_w (yw_eql rfl rfl rfl) rfl rfl ?_)
              refine RX.know (t := 125) (u := .bool true) rfl (congrArg Value.bool (decide_eq_true (by rw [List.length_map]))) ?_
              refine RX.cons rfl rfl (op_w (yw_pickT rfl rfl rfl) rfl rfl ?_)
              refine RX.cons rfl rfl (op_w (yw_assign rfl rfl) rfl rfl ?_)
              refine RX.nil (XX.next (V' := [(10, .bool true)]) ⟨rfl, trivial⟩ ?_)
              refine CX.ret ?_
              exact ret_tmp rfl rfl fun w1 hw => ⟨rfl, hw.sub (List.nil_sublist _)⟩
        · refine RX.skip rfl rfl rfl rfl rfl rfl rfl ?_
          refine RX.skip rfl rfl rfl rfl rfl rfl rfl ?_
          refine RX.cons rfl rfl (op_w (yw_pickF rfl rfl rfl) rfl rfl ?_)
          refine RX.nil (XX.next (V' := [(0, _), (4, _), (11, _), (14, _), (15, _), (16, _), (83, _)]) ⟨rfl, rfl, rfl, rfl, rfl, rfl, rfl, trivial⟩ ?_)
          refine CX.condF rfl ?_
          refine CX.exit ?_
          refine XX.then_exit ?_
          refine XX.then_exit ?_
          refine XX.block_exit ?_
          refine XX.next (V' := [(0, _), (11, _), (14, _), (15, _)]) ⟨rfl, rfl, rfl, rfl, trivial⟩ ?_
          refine CX.seq ?_
          have hBj : ∀ s, jud B ls s = 1 := fun s => by rw [hB]; exact jud_bads _ ls s
          refine CX.region ?_
          refine RX.cons rfl rfl (op_w (yw_move rfl rfl) rfl rfl ?_)
          refine RX.cons rfl rfl (op_w (yw_move rfl rfl) rfl rfl ?_)
          refine RX.cons rfl rfl (op_callE rfl rfl rfl rfl rfl ent_19 (fun w hw => w_Judge B ls (Ent.rd (hw.ents _ (List.mem_of_getElem? (i := 0) rfl))) (hw.rd hr (by simp)) (by omega) (by omega)) (fun ⟨A2, c2⟩ _ => ?_))
          refine RX.cons rfl rfl (op_w (yw_assign rfl rfl) rfl rfl ?_)
          refine RX.nil (XX.next (V' := [(0, _), (11, _), (14, _), (18, _)]) ⟨rfl, rfl, rfl, rfl, trivial⟩ ?_)
          refine CX.seq ?_
          refine CX.seq ?_
          refine CX.region ?_
          refine RX.cons rfl rfl (op_w (yw_assign rfl rfl) rfl rfl ?_)
          refine RX.nil (XX.next (V' := [(0, _), (11, _), (14, _), (18, _), (19, _)]) ⟨rfl, rfl, rfl, rfl, rfl, trivial⟩ ?_)
          refine CX.block ?_
          refine CX.perm (L' := [.row A2 c2 3 1 (List.map iR (List.map (jud B ls) ls)), .row A4 c4 44 4 (List.map ruC B)]) ((perm_pick 0 rfl).trans (List.Perm.cons _ (List.Perm.refl _))) ?_
          refine CX.drop (L' := [.row A2 c2 3 1 (List.map iR (List.map (jud B ls) ls))]) (List.Sublist.cons_cons _ (List.nil_sublist _)) ?_
          refine CX.loop (σ := Nat) (fun j => [(0, .slice A ls.length cap), (11, .bool true), (14, .bool true), (18, .slice A2 (List.length ((List.map (jud B ls) ls) : List Int)) c2), (19, .int .i64 ((j : Nat) : Int))]) (fun j => [.row A2 c2 3 1 (List.map iR (List.map (jud B ls) ls))]) (fun j => j ≤ ls.length) (fun j => ls.length - j) 0 (Nat.zero_le _) ⟨rfl, rfl, rfl, rfl, rfl, trivial⟩ rfl (fun j hI => ?_)
          have hj := hI
          refine CX.seq ?_
          refine CX.seq ?_
          refine CX.region ?_
          refine RX.cons rfl rfl (op_w (yw_move rfl rfl) rfl rfl ?_)
          refine RX.cons rfl rfl (op_w (yw_move rfl rfl) rfl rfl ?_)
          refine RX.cons rfl rfl (op_w (yw_lenS rfl Try.underlying36 rfl) rfl rfl ?_)
          refine RX.cons rfl rfl (op_w (yw_lss rfl rfl rfl) rfl rfl ?_)
          refine RX.nil (XX.next (V' := [(0, _), (11, _), (14, _), (18, _), (19, _), (105, _)]) ⟨rfl, rfl, rfl, rfl, rfl, rfl, trivial⟩ ?_)
          refine CX.condD (p := ((j : Nat) : Int) < ((List.length ((List.map (jud B ls) ls) : List Int) : Nat) : Int)) rfl (fun c105 => ?_) (fun c105 => ?_)
          · rw [List.length_map] at c105
            obtain ⟨x2, hx2⟩ := get_some (l := ls) (k := j) (by omega)
            have hx2m := List.mem_of_getElem? hx2
            refine CX.rowSome 0 rfl (by rw [List.length_map, List.length_map]; omega) (fun hj2 => ?_)
            refine CX.skip (XX.next (V' := [(0, _), (11, _), (14, _), (18, _), (19, _)]) ⟨rfl, rfl, rfl, rfl, rfl, trivial⟩ ?_)
            refine CX.seq ?_
            refine CX.block ?_
            refine CX.region ?_
            refine RX.cons rfl rfl (op_w (yw_move rfl rfl) rfl rfl ?_)
            refine RX.cons rfl rfl (op_w (yw_move rfl rfl) rfl rfl ?_)
            refine RX.consG rfl rfl rfl rfl rfl (op_w (yw_move rfl rfl) rfl rfl ?_)
            refine RX.consG rfl rfl rfl rfl rfl (op_w (yw_move rfl rfl) rfl rfl ?_)
            refine RX.consG rfl rfl rfl rfl rfl (op_w (yw_index (k := j) rfl slt_36 rfl rfl (by omega) (by rw [List.length_map]; omega) hj2) rfl rfl ?_)
            refine RX.consG rfl rfl rfl rfl rfl (op_yld (y_rowElem1 (i := 0) rfl rfl one_3 rfl (map_get (map_get hx2))) rfl rfl ?_)
            refine RX.consG rfl rfl rfl rfl rfl (op_w (yw_eql rfl rfl rfl) rfl rfl ?_)
            refine RX.know (t := 114) (u := .bool true) rfl (congrArg Value.bool (decide_eq_true (hBj x2))) ?_
            refine RX.cons rfl rfl (op_w (yw_pickT rfl rfl rfl) rfl rfl ?_)
            refine RX.cons rfl rfl (op_w (yw_assign rfl rfl) rfl rfl ?_)
            refine RX.nil (XX.inBlock (V' := [(0, _), (11, _), (14, _), (18, _), (19, _)]) ⟨rfl, rfl, rfl, rfl, rfl, trivial⟩ ?_)
            refine XX.next (V' := [(0, _), (11, _), (14, _), (18, _), (19, _)]) ⟨rfl, rfl, rfl, rfl, rfl, trivial⟩ ?_
            refine CX.region ?_
            refine RX.cons rfl rfl (op_w (yw_move rfl rfl) rfl rfl ?_)
            refine RX.cons rfl rfl (op_w (yw_add rfl rfl rfl (by omega) (by omega)) rfl rfl ?_)
            refine RX.cons rfl rfl (op_w (yw_assign rfl rfl) rfl rfl ?_)
            refine RX.nil (XX.againP ([]) (j + 1) (by omega) (by omega) ⟨rfl, rfl, rfl, rfl, rfl, trivial⟩ ((perm_pick 0 rfl).trans (List.Perm.cons _ (List.Perm.refl _))))
          · rw [List.length_map] at c105
            refine CX.exit ?_
            refine XX.then_exit ?_
            refine XX.then_exit ?_
            refine XX.block_exit ?_
            refine XX.next (V' := [(0, _), (11, _), (14, _), (18, _)]) ⟨rfl, rfl, rfl, rfl, trivial⟩ ?_
            refine CX.seq ?_
            refine CX.region ?_
            refine RX.cons rfl rfl (op_w (yw_move rfl rfl) rfl rfl ?_)
            refine RX.cons rfl rfl (op_w (yw_move rfl rfl) rfl rfl ?_)
            refine RX.consG rfl rfl rfl rfl rfl (op_w (yw_move rfl rfl) rfl rfl ?_)
            refine RX.cons rfl rfl (op_w (yw_pickT rfl rfl rfl) rfl rfl ?_)
            refine RX.cons rfl rfl (op_w (yw_move rfl rfl) rfl rfl ?_)
            refine RX.consG rfl rfl rfl rfl rfl (op_w (yw_move rfl rfl) rfl rfl ?_)
            refine RX.consG rfl rfl rfl rfl rfl (op_w (yw_lenS rfl Try.underlying36 rfl) rfl rfl ?_)
            refine RX.consG rfl rfl rfl rfl rfl (op_w (yw_move rfl rfl) rfl rfl ?_)
            refine RX.consG rfl rfl rfl rfl rfl (op_w (yw_lenS rfl Try.underlying22 rfl) rfl rfl ?_)
            refine RX.consG rfl rfl rfl rfl rfl (op_w (yw_eql rfl rfl rfl) rfl rfl ?_)
            refine RX.know (t := 125) (u := .bool true) rfl (congrArg Value.bool (decide_eq_true (by rw [List.length_map]))) ?_
            refine RX.cons rfl rfl (op_w (yw_pickT rfl rfl rfl) rfl rfl ?_)
            refine RX.cons rfl rfl (op_w (yw_assign rfl rfl) rfl rfl ?_)
            refine RX.nil (XX.next (V' := [(10, .bool true)]) ⟨rfl, trivial⟩ ?_)
            refine CX.ret ?_
            exact ret_tmp rfl rfl fun w1 hw => ⟨rfl, hw.sub (List.nil_sublist _)⟩
    · refine RX.skip rfl rfl rfl rfl rfl rfl rfl ?_
      refine RX.skip rfl rfl rfl rfl rfl rfl rfl ?_
      refine RX.cons rfl rfl (op_w (yw_pickF rfl rfl rfl) rfl rfl ?_)
      refine RX.cons rfl rfl (op_w (yw_move rfl rfl) rfl rfl ?_)
      refine RX.skip rfl rfl rfl rfl rfl rfl rfl ?_
      refine RX.skip rfl rfl rfl rfl rfl rfl rfl ?_
      refine RX.cons rfl rfl (op_w (yw_pickF rfl rfl rfl) rfl rfl ?_)
      refine RX.cons rfl rfl (op_w (yw_move rfl rfl) rfl rfl ?_)
      refine RX.skip rfl rfl rfl rfl rfl rfl rfl ?_
      refine RX.skip rfl rfl rfl rfl rfl rfl rfl ?_
      refine RX.cons rfl rfl (op_w (yw_pickF rfl rfl rfl) rfl rfl ?_)
      refine RX.cons rfl rfl (op_w (yw_assign rfl rfl) rfl rfl ?_)
      refine RX.nil (XX.next (V' := [(0, _), (2, _), (3, _), (4, _), (11, _), (12, _), (13, _)]) ⟨rfl, rfl, rfl, rfl, rfl, rfl, rfl, trivial⟩ ?_)
      refine CX.seq ?_
      refine CX.region ?_
      refine RX.cons rfl rfl (op_w (yw_move rfl rfl) rfl rfl ?_)
      refine RX.cons rfl rfl (op_yld (y_loadA (i := 0) rfl rfl agg_24 rfl rfl) rfl rfl ?_)
      refine RX.cons rfl rfl (op_callV (v := .int .i64 ((meas ls x0 1 2 : Nat) : Int)) rfl rfl rfl rfl rfl ent_14 (fun w hw => w_Measure ls (hw.rd hr (by simp)) hl x0 1 2) ?_)
      refine RX.know (t := 58) (u := .int .i64 1) rfl (by rw [meas_one_acc hx0m]; rfl) ?_
      refine RX.cons rfl rfl (op_w (yw_eql rfl rfl rfl) rfl rfl ?_)
      refine RX.know (t := 59) (u := .bool true) rfl (congrArg Value.bool (decide_eq_true rfl)) ?_
      refine RX.cons rfl rfl (op_w (yw_move rfl rfl) rfl rfl ?_)
      refine RX.consG rfl rfl rfl rfl rfl (op_w (yw_move rfl rfl) rfl rfl ?_)
      refine RX.consG rfl rfl rfl rfl rfl (op_yld (y_loadA (i := 0) rfl rfl agg_24 rfl rfl) rfl rfl ?_)
      refine RX.consG rfl rfl rfl rfl rfl (op_callV (v := .int .i64 ((meas ls x0 2 3 : Nat) : Int)) rfl rfl rfl rfl rfl ent_14 (fun w hw => w_Measure ls (hw.rd hr (by simp)) hl x0 2 3) ?_)
      refine RX.know (t := 63) (u := .int .i64 1) rfl (by rw [meas_one_dev hx0m]; rfl) ?_
      refine RX.consG rfl rfl rfl rfl rfl (op_w (yw_eql rfl rfl rfl) rfl rfl ?_)
      refine RX.know (t := 64) (u := .bool true) rfl (congrArg Value.bool (decide_eq_true rfl)) ?_
      refine RX.cons rfl rfl (op_w (yw_pickT rfl rfl rfl) rfl rfl ?_)
      refine RX.cons rfl rfl (op_w (yw_move rfl rfl) rfl rfl ?_)
      refine RX.consG rfl rfl rfl rfl rfl (op_w (yw_move rfl rfl) rfl rfl ?_)
      refine RX.consG rfl rfl rfl rfl rfl (op_yld (y_loadA (i := 0) rfl rfl agg_24 rfl rfl) rfl rfl ?_)
      refine RX.consG rfl rfl rfl rfl rfl (op_w (yw_move rfl rfl) rfl rfl ?_)
      refine RX.consG rfl rfl rfl rfl rfl (op_w (yw_move rfl rfl) rfl rfl ?_)
      refine RX.consG rfl rfl rfl rfl rfl (op_callV (v := .int .i64 ((meas ls x0 q m : Nat) : Int)) rfl rfl rfl rfl rfl ent_14 (fun w hw => w_Measure ls (hw.rd hr (by simp)) hl x0 q m) ?_)
      refine RX.consG rfl rfl rfl rfl rfl (op_w (yw_geq rfl rfl rfl) rfl rfl ?_)
      refine RX.consG rfl rfl rfl rfl rfl (op_w (yw_move rfl rfl) rfl rfl ?_)
      refine RX.consG rfl rfl rfl rfl rfl (op_w (yw_beql rfl Try.underlying4 rfl rfl) rfl rfl ?_)
      refine RX.know (t := 74) (u := .bool true) rfl (congrArg Value.bool (by rw [decide_eq_false (by omega)]; rfl)) ?_
      refine RX.cons rfl rfl (op_w (yw_pickT rfl rfl rfl) rfl rfl ?_)
      refine RX.cons rfl rfl (op_w (yw_assign rfl rfl) rfl rfl ?_)
      refine RX.nil (XX.next (V' := [(0, _), (4, _), (11, _), (14, _)]) ⟨rfl, rfl, rfl, rfl, trivial⟩ ?_)
      refine CX.seq ?_
      refine CX.region ?_
      refine RX.cons rfl rfl (op_w (yw_assign rfl rfl) rfl rfl ?_)
      refine RX.nil (XX.next (V' := [(0, _), (4, _), (11, _), (14, _), (15, _)]) ⟨rfl, rfl, rfl, rfl, rfl, trivial⟩ ?_)
      refine CX.seq ?_
      refine CX.seq ?_
      refine CX.region ?_
      refine RX.cons rfl rfl (op_w (yw_assign rfl rfl) rfl rfl ?_)
      refine RX.nil (XX.next (V' := [(0, _), (4, _), (11, _), (14, _), (15, _), (16, _)]) ⟨rfl, rfl, rfl, rfl, rfl, rfl, trivial⟩ ?_)
      refine CX.block ?_
      refine CX.drop (L' := []) (List.nil_sublist _) ?_
      refine CX.rowNil 44 4 ?_
      refine CX.loop (σ := Nat × (Option Addr × Nat) × List Ru) (fun z => [(0, .slice A ls.length cap), (4, .slice AR rs0.length capR), (11, .bool true), (14, .bool true), (15, .slice z.2.1.1 (List.length (z.2.2 : List Ru)) z.2.1.2), (16, .int .i64 ((z.1 : Nat) : Int))]) (fun z => [.row z.2.1.1 z.2.1.2 44 4 (List.map ruC z.2.2)]) (fun z => z.1 ≤ rs0.length ∧ z.1 ≤ 12 ∧ z.2.2 = (List.map badR (List.take z.1 rs0))) (fun z => 12 - z.1) (0, (none, 0), []) ⟨Nat.zero_le _, Nat.zero_le _, rfl⟩ ⟨rfl, rfl, rfl, rfl, rfl, rfl, trivial⟩ rfl (fun z hI => ?_)
      obtain ⟨i, ⟨A4, c4⟩, B⟩ := z
      dsimp only at hI ⊢
      obtain ⟨hi, hi12, hB⟩ := hI
      have hBn : B.length = i := by rw [hB, List.length_map, List.length_take]; omega
      refine CX.seq ?_
      refine CX.seq ?_
      refine CX.region ?_
      refine RX.cons rfl rfl (op_w (yw_move rfl rfl) rfl rfl ?_)
      refine RX.cons rfl rfl (op_w (yw_move rfl rfl) rfl rfl ?_)
      refine RX.cons rfl rfl (op_w (yw_lenS rfl Try.underlying30 rfl) rfl rfl ?_)
      refine RX.cons rfl rfl (op_w (yw_lss rfl rfl rfl) rfl rfl ?_)
      refine RX.cons rfl rfl (op_w (yw_move rfl rfl) rfl rfl ?_)
      refine RX.splitD (t := 80) (p := ((i : Nat) : Int) < ((rs0.length : Nat) : Int)) rfl (fun d80 => ?_) (fun d80 => ?_)
      · refine RX.consG rfl rfl rfl rfl rfl (op_w (yw_move rfl rfl) rfl rfl ?_)
        refine RX.consG rfl rfl rfl rfl rfl (op_w (yw_lss rfl rfl rfl) rfl rfl ?_)
        refine RX.cons rfl rfl (op_w (yw_pickT rfl rfl rfl) rfl rfl ?_)
        refine RX.nil (XX.next (V' := [(0, _), (4, _), (11, _), (14, _), (15, _), (16, _), (83, _)]) ⟨rfl, rfl, rfl, rfl, rfl, rfl, rfl, trivial⟩ ?_)
        refine CX.condD (p := ((i : Nat) : Int) < 12) rfl (fun c83 => ?_) (fun c83 => ?_)
        · obtain ⟨x1, hx1⟩ := get_some (l := rs0) (k := i) (by omega)
          have hx1m := List.mem_of_getElem? hx1
          have hAR : ∃ b j, AR = some ⟨b, j, none⟩ := hrR0.some (k := 0) (by simp; omega)
          have hgx := hgR x1 hx1m
          have hp5 := pickN_lt (Ru.n x1) (n := 5) (by decide)
          refine CX.skip (XX.next (V' := [(0, _), (4, _), (11, _), (14, _), (15, _), (16, _)]) ⟨rfl, rfl, rfl, rfl, rfl, rfl, trivial⟩ ?_)
          refine CX.seq ?_
          refine CX.block ?_
          refine CX.seq ?_
          refine CX.region ?_
          refine RX.cons rfl rfl (op_w (yw_move rfl rfl) rfl rfl ?_)
          refine RX.cons rfl rfl (op_w (yw_move rfl rfl) rfl rfl ?_)
          refine RX.cons rfl rfl (op_w (yw_index (k := i) rfl slt_30 rfl rfl (by omega) (by omega) hAR) rfl rfl ?_)
          refine RX.cons rfl rfl (op_yld (y_elem rfl rfl agg_44 hrR0 (by simp) (map_get hx1)) rfl rfl ?_)
          refine RX.cons rfl rfl (op_alloc rfl rfl rfl zero_44 fun g17 => ?_)
          refine RX.cons rfl rfl (op_storeAll (i := 0) rfl rfl rfl rfl szt_44 rfl (plain_of rfl) rfl rfl ?_)
          refine RX.nil (XX.next (V' := [(0, _), (4, _), (11, _), (14, _), (15, _), (16, _), (17, _)]) ⟨rfl, rfl, rfl, rfl, rfl, rfl, rfl, trivial⟩ ?_)
          refine CX.seq ?_
          refine CX.region ?_
          refine RX.cons rfl rfl (op_w (yw_fieldAddr rfl fld_44_3 rfl) rfl rfl ?_)
          refine RX.cons rfl rfl (op_yld (y_load (i := 0) rfl rfl one_3 rfl rfl) rfl rfl ?_)
          refine RX.cons rfl rfl (op_callV (v := .int .i64 ((pickN (Ru.n x1) 5 : Nat) : Int)) rfl rfl rfl rfl rfl ent_15 (fun w hw => w_pick (Ru.n x1) 5 hgx.1 hgx.2 (by decide)) ?_)
          refine RX.cons rfl rfl (op_w (yw_sub rfl rfl rfl (by omega) (by omega)) rfl rfl ?_)
          refine RX.cons rfl rfl (op_w (yw_fieldAddr rfl fld_44_3 rfl) rfl rfl ?_)
          refine RX.cons rfl rfl (op_store1 (i := 0) (cs' := #[.int .i64 (Ru.act x1), .int .i64 (Ru.sub x1), .int .i64 (Ru.mea x1), .int .i64 ((-1) - ((pickN (Ru.n x1) 5 : Nat) : Int))]) rfl rfl rfl rfl szt_3 rfl rfl rfl rfl ?_)
          refine RX.nil (XX.next (V' := [(0, _), (4, _), (11, _), (14, _), (15, _), (16, _), (17, _)]) ⟨rfl, rfl, rfl, rfl, rfl, rfl, rfl, trivial⟩ ?_)
          refine CX.region ?_
          refine RX.cons rfl rfl (op_w (yw_move rfl rfl) rfl rfl ?_)
          refine RX.cons rfl rfl (op_yld (y_loadA (i := 0) rfl rfl agg_44 rfl rfl) rfl rfl ?_)
          refine RX.cons rfl rfl (op_buildSlice rfl rfl rfl slb_30 rfl rfl (by intro v hv; simp only [List.mem_cons, List.not_mem_nil, or_false] at hv; subst hv; exact ⟨rfl, (plain_of rfl)⟩) (by decide) fun g18 => ?_)
          refine RX.cons rfl rfl (op_appendM ruC (i := 2) (j := 0) (xs := B) ([badR x1]) rfl rfl rfl slb_30 rfl rfl rfl rfl rfl rfl (by rw [List.length_singleton]; omega) (by rw [List.length_singleton]; omega) fun A5 c5 => ?_)
          refine RX.cons rfl rfl (op_w (yw_assign rfl rfl) rfl rfl ?_)
          refine RX.nil (XX.inBlock (V' := [(0, _), (4, _), (11, _), (14, _), (15, _), (16, _)]) ⟨rfl, rfl, rfl, rfl, rfl, rfl, trivial⟩ ?_)
          refine XX.next (V' := [(0, _), (4, _), (11, _), (14, _), (15, _), (16, _)]) ⟨rfl, rfl, rfl, rfl, rfl, rfl, trivial⟩ ?_
          refine CX.region ?_
          refine RX.cons rfl rfl (op_w (yw_move rfl rfl) rfl rfl ?_)
          refine RX.cons rfl rfl (op_w (yw_add rfl rfl rfl (by omega) (by omega)) rfl rfl ?_)
          refine RX.cons rfl rfl (op_w (yw_assign rfl rfl) rfl rfl ?_)
          refine RX.nil (XX.againP ([.row (some ⟨g18, 0, none⟩) 1 44 4 (List.map ruC ([badR x1])), .blk g17 (.cells (#[.int .i64 (Ru.act x1), .int .i64 (Ru.sub x1), .int .i64 (Ru.mea x1), .int .i64 ((-1) - ((pickN (Ru.n x1) 5 : Nat) : Int))]) 44 (0, 0))]) (i + 1, (A5, c5), B ++ [badR x1]) (by dsimp only; omega) ⟨by dsimp only; omega, by dsimp only; omega, by dsimp only; rw [take_map_succ hx1, ← hB]⟩ ⟨rfl, rfl, rfl, rfl, rfl, rfl, trivial⟩ ((perm_pick 2 rfl).trans (List.Perm.cons _ (List.Perm.refl _))))
        · refine CX.exit ?_
          refine XX.then_exit ?_
          refine XX.then_exit ?_
          refine XX.block_exit ?_
          refine XX.next (V' := [(0, _), (11, _), (14, _), (15, _)]) ⟨rfl, rfl, rfl, rfl, trivial⟩ ?_
          refine CX.seq ?_
          have hBj : ∀ s, jud B ls s = 1 := fun s => by rw [hB]; exact jud_bads _ ls s
          refine CX.region ?_
          refine RX.cons rfl rfl (op_w (yw_move rfl rfl) rfl rfl ?_)
          refine RX.cons rfl rfl (op_w (yw_move rfl rfl) rfl rfl ?_)
          refine RX.cons rfl rfl (op_callE rfl rfl rfl rfl rfl ent_19 (fun w hw => w_Judge B ls (Ent.rd (hw.ents _ (List.mem_of_getElem? (i := 0) rfl))) (hw.rd hr (by simp)) (by omega) (by omega)) (fun ⟨A2, c2⟩ _ => ?_))
          refine RX.cons rfl rfl (op_w (yw_assign rfl rfl) rfl rfl ?_)
          refine RX.nil (XX.next (V' := [(0, _), (11, _), (14, _), (18, _)]) ⟨rfl, rfl, rfl, rfl, trivial⟩ ?_)
          refine CX.seq ?_
          refine CX.seq ?_
          refine CX.region ?_
          refine RX.cons rfl rfl (op_w (yw_assign rfl rfl) rfl rfl ?_)
          refine RX.nil (XX.next (V' := [(0, _), (11, _), (14, _), (18, _), (19, _)]) ⟨rfl, rfl, rfl, rfl, rfl, trivial⟩ ?_)
          refine CX.block ?_
          refine CX.perm (L' := [.row A2 c2 3 1 (List.map iR (List.map (jud B ls) ls)), .row A4 c4 44 4 (List.map ruC B)]) ((perm_pick 0 rfl).trans (List.Perm.cons _ (List.Perm.refl _))) ?_
          refine CX.drop (L' := [.row A2 c2 3 1 (List.map iR (List.map (jud B ls) ls))]) (List.Sublist.cons_cons _ (List.nil_sublist _)) ?_
          refine CX.loop (σ := Nat) (fun j => [(0, .slice A ls.length cap), (11, .bool true), (14, .bool true), (18, .slice A2 (List.length ((List.map (jud B ls) ls) : List Int)) c2), (19, .int .i64 ((j : Nat) : Int))]) (fun j => [.row A2 c2 3 1 (List.map iR (List.map (jud B ls) ls))]) (fun j => j ≤ ls.length) (fun j => ls.length - j) 0 (Nat.zero_le _) ⟨rfl, rfl, rfl, rfl, rfl, trivial⟩ rfl (fun j hI => ?_)
          have hj := hI
          refine CX.seq ?_
          refine CX.seq ?_
          refine CX.region ?_
          refine RX.cons rfl rfl (op_w (yw_move rfl rfl) rfl rfl ?_)
          refine RX.cons rfl rfl (op_w (yw_move rfl rfl) rfl rfl ?_)
          refine RX.cons rfl rfl (op_w (yw_lenS rfl Try.underlying36 rfl) rfl rfl ?_)
          refine RX.cons rfl rfl (op_w (yw_lss rfl rfl rfl) rfl rfl ?_)
          refine RX.nil (XX.next (V' := [(0, _), (11, _), (14, _), (18, _), (19, _), (105, _)]) ⟨rfl, rfl, rfl, rfl, rfl, rfl, trivial⟩ ?_)
          refine CX.condD (p := ((j : Nat) : Int) < ((List.length ((List.map (jud B ls) ls) : List Int) : Nat) : Int)) rfl (fun c105 => ?_) (fun c105 => ?_)
          · rw [List.length_map] at c105
            obtain ⟨x2, hx2⟩ := get_some (l := ls) (k := j) (by omega)
            have hx2m := List.mem_of_getElem? hx2
            refine CX.rowSome 0 rfl (by rw [List.length_map, List.length_map]; omega) (fun hj2 => ?_)
            refine CX.skip (XX.next (V' := [(0, _), (11, _), (14, _), (18, _), (19, _)]) ⟨rfl, rfl, rfl, rfl, rfl, trivial⟩ ?_)
            refine CX.seq ?_
            refine CX.block ?_
            refine CX.region ?_
            refine RX.cons rfl rfl (op_w (yw_move rfl rfl) rfl rfl ?_)
            refine RX.cons rfl rfl (op_w (yw_move rfl rfl) rfl rfl ?_)
            refine RX.consG rfl rfl rfl rfl rfl (op_w (yw_move rfl rfl) rfl rfl ?_)
            refine RX.consG rfl rfl rfl rfl rfl (op_w (yw_move rfl rfl) rfl rfl ?_)
            refine RX.consG rfl rfl rfl rfl rfl (op_w (yw_index (k := j) rfl slt_36 rfl rfl (by omega) (by rw [List.length_map]; omega) hj2) rfl rfl ?_)
            refine RX.consG rfl rfl rfl rfl rfl (op_yld (y_rowElem1 (i := 0) rfl rfl one_3 rfl (map_get (map_get hx2))) rfl rfl ?_)
            refine RX.consG rfl rfl rfl rfl rfl (op_w (yw_eql rfl rfl rfl) rfl rfl ?_)
            refine RX.know (t := 114) (u := .bool true) rfl (congrArg Value.bool (decide_eq_true (hBj x2))) ?_
            refine RX.cons rfl rfl (op_w (yw_pickT rfl rfl rfl) rfl rfl ?_)
            refine RX.cons rfl rfl (op_w (yw_assign rfl rfl) rfl rfl ?_)
            refine RX.nil (XX.inBlock (V' := [(0, _), (11, _), (14, _), (18, _), (19, _)]) ⟨rfl, rfl, rfl, rfl, rfl, trivial⟩ ?_)
            refine XX.next (V' := [(0, _), (11, _), (14, _), (18, _), (19, _)]) ⟨rfl, rfl, rfl, rfl, rfl, trivial⟩ ?_
            refine CX.region ?_
            refine RX.cons rfl rfl (op_w (yw_move rfl rfl) rfl rfl ?_)
            refine RX.cons rfl rfl (op_w (yw_add rfl rfl rfl (by omega) (by omega)) rfl rfl ?_)
            refine RX.cons rfl rfl (op_w (yw_assign rfl rfl) rfl rfl ?_)
            refine RX.nil (XX.againP ([]) (j + 1) (by omega) (by omega) ⟨rfl, rfl, rfl, rfl, rfl, trivial⟩ ((perm_pick 0 rfl).trans (List.Perm.cons _ (List.Perm.refl _))))
          · rw [List.length_map] at c105
            refine CX.exit ?_
            refine XX.then_exit ?_
            refine XX.then_exit ?_
            refine XX.block_exit ?_
            refine XX.next (V' := [(0, _), (11, _), (14, _), (18, _)]) ⟨rfl, rfl, rfl, rfl, trivial⟩ ?_
            refine CX.seq ?_
            refine CX.region ?_
            refine RX.cons rfl rfl (op_w (yw_move rfl rfl) rfl rfl ?_)
            refine RX.cons rfl rfl (op_w (yw_move rfl rfl) rfl rfl ?_)
            refine RX.consG rfl rfl rfl rfl rfl (op_w (yw_move rfl rfl) rfl rfl ?_)
            refine RX.cons rfl rfl (op_w (yw_pickT rfl rfl rfl) rfl rfl ?_)
            refine RX.cons rfl rfl (op_w (yw_move rfl rfl) rfl rfl ?_)
            refine RX.consG rfl rfl rfl rfl rfl (op_w (yw_move rfl rfl) rfl rfl ?_)
            refine RX.consG rfl rfl rfl rfl rfl (op_w (yw_lenS rfl Try.underlying36 rfl) rfl rfl ?_)
            refine RX.consG rfl rfl rfl rfl rfl (op_w (yw_move rfl rfl) rfl rfl ?_)
            refine RX.consG rfl rfl rfl rfl rfl (op_w (yw_lenS rfl Try.underlying22 rfl) rfl rfl ?_)
            refine RX.consG rfl rfl rfl rfl rfl (op_w (yw_eql rfl rfl rfl) rfl rfl ?_)
            refine RX.know (t := 125) (u := .bool true) rfl (congrArg Value.bool (decide_eq_true (by rw [List.length_map]))) ?_
            refine RX.cons rfl rfl (op_w (yw_pickT rfl rfl rfl) rfl rfl ?_)
            refine RX.cons rfl rfl (op_w (yw_assign rfl rfl) rfl rfl ?_)
            refine RX.nil (XX.next (V' := [(10, .bool true)]) ⟨rfl, trivial⟩ ?_)
            refine CX.ret ?_
            exact ret_tmp rfl rfl fun w1 hw => ⟨rfl, hw.sub (List.nil_sublist _)⟩
      · refine RX.skip rfl rfl rfl rfl rfl rfl rfl ?_
        refine RX.skip rfl rfl rfl rfl rfl rfl rfl ?_
        refine RX.cons rfl rfl (op_w (yw_pickF rfl rfl rfl) rfl rfl ?_)
        refine RX.nil (XX.next (V' := [(0, _), (4, _), (11, _), (14, _), (15, _), (16, _), (83, _)]) ⟨rfl, rfl, rfl, rfl, rfl, rfl, rfl, trivial⟩ ?_)
        refine CX.condF rfl ?_
        refine CX.exit ?_
        refine XX.then_exit ?_
        refine XX.then_exit ?_
        refine XX.block_exit ?_
        refine XX.next (V' := [(0, _), (11, _), (14, _), (15, _)]) ⟨rfl, rfl, rfl, rfl, trivial⟩ ?_
        refine CX.seq ?_
        have hBj : ∀ s, jud B ls s = 1 := fun s => by rw [hB]; exact jud_bads _ ls s
        refine CX.region ?_
        refine RX.cons rfl rfl (op_w (yw_move rfl rfl) rfl rfl ?_)
        refine RX.cons rfl rfl (op_w (yw_move rfl rfl) rfl rfl ?_)
        refine RX.cons rfl rfl (op_callE rfl rfl rfl rfl rfl ent_19 (fun w hw => w_Judge B ls (Ent.rd (hw.ents _ (List.mem_of_getElem? (i := 0) rfl))) (hw.rd hr (by simp)) (by omega) (by omega)) (fun ⟨A2, c2⟩ _ => ?_))
        refine RX.cons rfl rfl (op_w (yw_assign rfl rfl) rfl rfl ?_)
        refine RX.nil (XX.next (V' := [(0, _), (11, _), (14, _), (18, _)]) ⟨rfl, rfl, rfl, rfl, trivial⟩ ?_)
        refine CX.seq ?_
        refine CX.seq ?_
        refine CX.region ?_
        refine RX.cons rfl rfl (op_w (yw_assign rfl rfl) rfl rfl ?_)
        refine RX.nil (XX.next (V' := [(0, _), (11, _), (14, _), (18, _), (19, _)]) ⟨rfl, rfl, rfl, rfl, rfl, trivial⟩ ?_)
        refine CX.block ?_
        refine CX.perm (L' := [.row A2 c2 3 1 (List.map iR (List.map (jud B ls) ls)), .row A4 c4 44 4 (List.map ruC B)]) ((perm_pick 0 rfl).trans (List.Perm.cons _ (List.Perm.refl _))) ?_
        refine CX.drop (L' := [.row A2 c2 3 1 (List.map iR (List.map (jud B ls) ls))]) (List.Sublist.cons_cons _ (List.nil_sublist _)) ?_
        refine CX.loop (σ := Nat) (fun j => [(0, .slice A ls.length cap), (11, .bool true), (14, .bool true), (18, .slice A2 (List.length ((List.map (jud B ls) ls) : List Int)) c2), (19, .int .i64 ((j : Nat) : Int))]) (fun j => [.row A2 c2 3 1 (List.map iR (List.map (jud B ls) ls))]) (fun j => j ≤ ls.length) (fun j => ls.length - j) 0 (Nat.zero_le _) ⟨rfl, rfl, rfl, rfl, rfl, trivial⟩ rfl (fun j hI => ?_)
        have hj := hI
        refine CX.seq ?_
        refine CX.seq ?_
        refine CX.region ?_
        refine RX.cons rfl rfl (op_w (yw_move rfl rfl) rfl rfl ?_)
        refine RX.cons rfl rfl (op_w (yw_move rfl rfl) rfl rfl ?_)
        refine RX.cons rfl rfl (op_w (yw_lenS rfl Try.underlying36 rfl) rfl rfl ?_)
        refine RX.cons rfl rfl (op_w (yw_lss rfl rfl rfl) rfl rfl ?_)
        refine RX.nil (XX.next (V' := [(0, _), (11, _), (14, _), (18, _), (19, _), (105, _)]) ⟨rfl, rfl, rfl, rfl, rfl, rfl, trivial⟩ ?_)
        refine CX.condD (p := ((j : Nat) : Int) < ((List.length ((List.map (jud B ls) ls) : List Int) : Nat) : Int)) rfl (fun c105 => ?_) (fun c105 => ?_)
        · rw [List.length_map] at c105
          obtain ⟨x2, hx2⟩ := get_some (l := ls) (k := j) (by omega)
          have hx2m := List.mem_of_getElem? hx2
          refine CX.rowSome 0 rfl (by rw [List.length_map, List.length_map]; omega) (fun hj2 => ?_)
          refine CX.skip (XX.next (V' := [(0, _), (11, _), (14, _), (18, _), (19, _)]) ⟨rfl, rfl, rfl, rfl, rfl, trivial⟩ ?_)
          refine CX.seq ?_
          refine CX.block ?_
          refine CX.region ?_
          refine RX.cons rfl rfl (op_w (yw_move rfl rfl) rfl rfl ?_)
          refine RX.cons rfl rfl (op_w (yw_move rfl rfl) rfl rfl ?_)
          refine RX.consG rfl rfl rfl rfl rfl (op_w (yw_move rfl rfl) rfl rfl ?_)
          refine RX.consG rfl rfl rfl rfl rfl (op_w (yw_move rfl rfl) rfl rfl ?_)
          refine RX.consG rfl rfl rfl rfl rfl (op_w (yw_index (k := j) rfl slt_36 rfl rfl (by omega) (by rw [List.length_map]; omega) hj2) rfl rfl ?_)
          refine RX.consG rfl rfl rfl rfl rfl (op_yld (y_rowElem1 (i := 0) rfl rfl one_3 rfl (map_get (map_get hx2))) rfl rfl ?_)
          refine RX.consG rfl rfl rfl rfl rfl (op_w (yw_eql rfl rfl rfl) rfl rfl ?_)
          refine RX.know (t := 114) (u := .bool true) rfl (congrArg Value.bool (decide_eq_true (hBj x2))) ?_
          refine RX.cons rfl rfl (op_w (yw_pickT rfl rfl rfl) rfl rfl ?_)
          refine RX.cons rfl rfl (op_w (yw_assign rfl rfl) rfl rfl ?_)
          refine RX.nil (XX.inBlock (V' := [(0, _), (11, _), (14, _), (18, _), (19, _)]) ⟨rfl, rfl, rfl, rfl, rfl, trivial⟩ ?_)
          refine XX.next (V' := [(0, _), (11, _), (14, _), (18, _), (19, _)]) ⟨rfl, rfl, rfl, rfl, rfl, trivial⟩ ?_
          refine CX.region ?_
          refine RX.cons rfl rfl (op_w (yw_move rfl rfl) rfl rfl ?_)
          refine RX.cons rfl rfl (op_w (yw_add rfl rfl rfl (by omega) (by omega)) rfl rfl ?_)
          refine RX.cons rfl rfl (op_w (yw_assign rfl rfl) rfl rfl ?_)
          refine RX.nil (XX.againP ([]) (j + 1) (by omega) (by omega) ⟨rfl, rfl, rfl, rfl, rfl, trivial⟩ ((perm_pick 0 rfl).trans (List.Perm.cons _ (List.Perm.refl _))))
        · rw [List.length_map] at c105
          refine CX.exit ?_
          refine XX.then_exit ?_
          refine XX.then_exit ?_
          refine XX.block_exit ?_
          refine XX.next (V' := [(0, _), (11, _), (14, _), (18, _)]) ⟨rfl, rfl, rfl, rfl, trivial⟩ ?_
          refine CX.seq ?_
          refine CX.region ?_
          refine RX.cons rfl rfl (op_w (yw_move rfl rfl) rfl rfl ?_)
          refine RX.cons rfl rfl (op_w (yw_move rfl rfl) rfl rfl ?_)
          refine RX.consG rfl rfl rfl rfl rfl (op_w (yw_move rfl rfl) rfl rfl ?_)
          refine RX.cons rfl rfl (op_w (yw_pickT rfl rfl rfl) rfl rfl ?_)
          refine RX.cons rfl rfl (op_w (yw_move rfl rfl) rfl rfl ?_)
          refine RX.consG rfl rfl rfl rfl rfl (op_w (yw_move rfl rfl) rfl rfl ?_)
          refine RX.consG rfl rfl rfl rfl rfl (op_w (yw_lenS rfl Try.underlying36 rfl) rfl rfl ?_)
          refine RX.consG rfl rfl rfl rfl rfl (op_w (yw_move rfl rfl) rfl rfl ?_)
          refine RX.consG rfl rfl rfl rfl rfl (op_w (yw_lenS rfl Try.underlying22 rfl) rfl rfl ?_)
          refine RX.consG rfl rfl rfl rfl rfl (op_w (yw_eql rfl rfl rfl) rfl rfl ?_)
          refine RX.know (t := 125) (u := .bool true) rfl (congrArg Value.bool (decide_eq_true (by rw [List.length_map]))) ?_
          refine RX.cons rfl rfl (op_w (yw_pickT rfl rfl rfl) rfl rfl ?_)
          refine RX.cons rfl rfl (op_w (yw_assign rfl rfl) rfl rfl ?_)
          refine RX.nil (XX.next (V' := [(10, .bool true)]) ⟨rfl, trivial⟩ ?_)
          refine CX.ret ?_
          exact ret_tmp rfl rfl fun w1 hw => ⟨rfl, hw.sub (List.nil_sublist _)⟩

end Go.Proofs.Ytpcfgoadkfajfaa
