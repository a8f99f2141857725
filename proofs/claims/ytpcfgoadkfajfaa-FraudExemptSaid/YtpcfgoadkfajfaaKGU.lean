/- Walks, printed by a program. -/
import Derived.Test.YtpcfgoadkfajfaaKGN
import Derived.Test.YtpcfgoadkfajfaaKLaws11
namespace Go.Proofs.Ytpcfgoadkfajfaa
set_option linter.all false
open Go Go.RowKit
set_option maxRecDepth 100000
theorem ent_17 : ∀ args w, (callFunc 17 args).run Try.prog w = .ok (.enter 17 args) w := enters_of Try.func17 (by kernel_rfl) rfl
theorem zero_34 : Zero Try.prog 34 (.agg (#[.slice none 0 0, .slice none 0 0, .slice none 0 0, .slice none 0 0, .slice none 0 0, .slice none 0 0, .slice none 0 0, .slice none 0 0, .slice none 0 0, .slice none 0 0])) := ⟨(Try.prog.info? 34).get!, by kernel_rfl, by kernel_rfl⟩
theorem szt_34 : SzT Try.prog 34 10 := ⟨(Try.prog.info? 34).get!, by kernel_rfl, by kernel_rfl⟩
set_option maxRecDepth 100000 in
set_option maxHeartbeats 400000 in
theorem w_lawEx {w : World} {AR : Option Addr} {capR : Nat} (rs0 : List Ru) (hrR0 : Rd w AR 4 (rs0.map ruC)) (hcR : rs0.length ≤ capR) (h8R : rs0.length ≤ 9223372036854775807) {A : Option Addr} {cap : Nat} (ls0 : List Sm) (hr0 : Rd w A 9 (ls0.map smC)) (hc0 : ls0.length ≤ cap) (h80 : ls0.length ≤ 9223372036854775807) (k : Int) (hk1 : -9223372036854775808 ≤ k) (hk2 : k ≤ 9223372036854775807) {AM : Option Addr} {capM : Nat} (fs0 : List Fc) (hrM0 : Rd w AM 18 (fs0.map fcC)) (hcM : fs0.length ≤ capM) (h8M : fs0.length ≤ 9223372036854775807) :
    Calls Try.prog 8 #[.slice AR rs0.length capR, .slice A ls0.length cap, .int .i64 k, .slice AM fs0.length capM] w (fun e w' => e = .returned (.bool true) ∧ SL w [] w' []) := by
  obtain ⟨rs, hrs⟩ : ∃ rs, rs = rs0.take 12 := ⟨_, rfl⟩
  have hrR : Rd w AR 4 (rs.map ruC) := by rw [hrs]; exact hrR0.takeM 12
  have hminR : min rs0.length 12 = rs.length := by rw [hrs, List.length_take]; omega
  have hr12 : rs.length ≤ 12 := by omega
  have hlR : rs.length ≤ 1000000 := by omega
  obtain ⟨ls, hls⟩ : ∃ ls, ls = ls0.take 40 := ⟨_, rfl⟩
  have hr : Rd w A 9 (ls.map smC) := by rw [hls]; exact hr0.takeM 40
  have hmin : min ls0.length 40 = ls.length := by rw [hls, List.length_take]; omega
  have hl40 : ls.length ≤ 40 := by omega
  have hl : ls.length ≤ 100000 := by omega
  obtain ⟨fs, hfs⟩ : ∃ fs, fs = fs0.take 40 := ⟨_, rfl⟩
  have hrM : Rd w AM 18 (fs.map fcC) := by rw [hfs]; exact hrM0.takeM 40
  have hminM : min fs0.length 40 = fs.length := by rw [hfs, List.length_take]; omega
  have hlM : fs.length ≤ 1000000 := by omega
  have hp6 := pickN_lt k (n := 1000000) (by decide)
  obtain ⟨ac, hac⟩ : ∃ ac : Int, ac = 1 + ((pickN k 1000000 : Nat) : Int) := ⟨_, rfl⟩
  refine calls_of_CX (O := []) (L := []) (args := [.slice AR rs0.length capR, .slice A ls0.length cap, .int .i64 k, .slice AM fs0.length capM]) Try.func8 rfl (by simp [Try.ntmps8]) (SL.refl w) ?_
  refine CX.sub (V' := [(0, .slice AR rs0.length capR), (1, .slice A ls0.length cap), (2, .int .i64 k), (3, .slice AM fs0.length capM)]) ⟨rfl, rfl, rfl, rfl, trivial⟩ ?_
  refine CX.seq ?_
  refine CX.region ?_
  refine RX.cons rfl rfl (op_w (yw_assign rfl rfl) rfl rfl ?_)
  refine RX.nil (XX.next (V' := [(0, _), (1, _), (2, _), (3, _)]) ⟨rfl, rfl, rfl, rfl, trivial⟩ ?_)
  refine CX.seq ?_
  refine CX.region ?_
  refine RX.cons rfl rfl (op_callV (v := .bool true) rfl rfl rfl rfl rfl ent_12 (fun w hw => w_sane) ?_)
  refine RX.cons rfl rfl (op_w (yw_assign rfl rfl) rfl rfl ?_)
  refine RX.nil (XX.next (V' := [(0, _), (1, _), (2, _), (3, _), (9, _)]) ⟨rfl, rfl, rfl, rfl, rfl, trivial⟩ ?_)
  refine CX.seq ?_
  refine CX.region ?_
  refine RX.cons rfl rfl (op_w (yw_move rfl rfl) rfl rfl ?_)
  refine RX.cons rfl rfl (op_callV (v := .int .i64 ((pickN k 1000000 : Nat) : Int)) rfl rfl rfl rfl rfl ent_15 (fun w hw => w_pick k 1000000 hk1 hk2 (by decide)) ?_)
  refine RX.cons rfl rfl (op_w (yw_add rfl rfl rfl (by omega) (by omega)) rfl rfl ?_)
  refine RX.know (t := 19) (u := .int .i64 ac) rfl (congrArg (Value.int .i64) hac.symm) ?_
  refine RX.cons rfl rfl (op_w (yw_assign rfl rfl) rfl rfl ?_)
  refine RX.nil (XX.next (V' := [(0, _), (1, _), (2, _), (3, _), (9, _)]) ⟨rfl, rfl, rfl, rfl, rfl, trivial⟩ ?_)
  refine CX.seq ?_
  refine CX.region ?_
  refine RX.cons rfl rfl (op_buildSlice rfl rfl rfl slb_30 rfl rfl (by intro v hv; simp at hv) (by decide) fun rr => ?_)
  refine RX.cons rfl rfl (op_w (yw_move rfl rfl) rfl rfl ?_)
  refine RX.cons rfl rfl (op_callV (v := .slice AR rs.length capR) rfl rfl rfl rfl rfl ent_17 (fun w hw => w_shortE rs0.length hminR hcR h8R) ?_)
  refine RX.cons rfl rfl (op_appendM0 ruC (i := 0) (xs := []) rs rfl rfl rfl slb_30 rfl rfl rfl rfl hrR (by simp) (by simp; omega) (by simp; omega) fun A5 c5 => ?_)
  refine RX.cons rfl rfl (op_w (yw_move rfl rfl) rfl rfl ?_)
  refine RX.cons rfl rfl (op_w (yw_build (v := .agg (ruC (exR ac))) rfl rfl (fun _ => by kernel_rfl)) rfl rfl ?_)
  refine RX.cons rfl rfl (op_buildSlice rfl rfl rfl slb_30 rfl rfl (by intro v hv; simp only [List.mem_cons, List.not_mem_nil, or_false] at hv; subst hv; exact ⟨rfl, (plain_of rfl)⟩) (by decide) fun g6 => ?_)
  refine RX.cons rfl rfl (op_appendM ruC (i := 1) (j := 0) (xs := ([] ++ rs)) ([(exR ac)]) rfl rfl rfl slb_30 rfl rfl rfl rfl rfl rfl (by simp; omega) (by simp; omega) fun A6 c6 => ?_)
  refine RX.cons rfl rfl (op_w (yw_assign rfl rfl) rfl rfl ?_)
  refine RX.nil (XX.next (V' := [(0, _), (1, _), (2, _), (3, _), (9, _)]) ⟨rfl, rfl, rfl, rfl, rfl, trivial⟩ ?_)
  refine CX.seq ?_
  refine CX.region ?_
  refine RX.cons rfl rfl (op_w (yw_move rfl rfl) rfl rfl ?_)
  refine RX.cons rfl rfl (op_callV (v := .slice A ls.length cap) rfl rfl rfl rfl rfl ent_13 (fun w hw => w_fewE ls0.length hmin hc0 h80) ?_)
  refine RX.cons rfl rfl (op_w (yw_assign rfl rfl) rfl rfl ?_)
  refine RX.nil (XX.next (V' := [(0, _), (1, _), (2, _), (3, _), (9, _)]) ⟨rfl, rfl, rfl, rfl, rfl, trivial⟩ ?_)
  refine CX.seq ?_
  refine CX.region ?_
  refine RX.cons rfl rfl (op_w (yw_move rfl rfl) rfl rfl ?_)
  refine RX.cons rfl rfl (op_w (yw_move rfl rfl) rfl rfl ?_)
  refine RX.cons rfl rfl (op_w (yw_lenS rfl Try.underlying31 rfl) rfl rfl ?_)
  refine RX.cons rfl rfl (op_w (yw_min rfl rfl rfl) rfl rfl ?_)
  refine RX.know (t := 33) (u := .int .i64 ((fs.length : Nat) : Int)) rfl (congrArg (Value.int .i64) (by omega)) ?_
  refine RX.cons rfl rfl (op_w (yw_sliceTo (k := fs.length) rfl slt_31 rfl rfl (by omega) (by omega)) rfl rfl ?_)
  refine RX.cons rfl rfl (op_w (yw_build (v := .agg (#[.slice none 0 0, .slice AM fs.length capM, .slice none 0 0, .slice none 0 0, .slice none 0 0, .slice none 0 0, .slice none 0 0, .slice none 0 0, .slice none 0 0, .slice none 0 0])) rfl rfl (fun _ => by kernel_rfl)) rfl rfl ?_)
  refine RX.cons rfl rfl (op_alloc rfl rfl rfl zero_34 fun g10 => ?_)
  refine RX.cons rfl rfl (op_storeAll (i := 0) rfl rfl rfl rfl szt_34 rfl (plain_of rfl) rfl rfl ?_)
  refine RX.nil (XX.next (V' := [(0, _), (1, _), (2, _), (9, _), (10, _)]) ⟨rfl, rfl, rfl, rfl, rfl, trivial⟩ ?_)
  refine CX.seq ?_
  refine CX.region ?_
  refine RX.cons rfl rfl (op_yld (y_loadA (i := 0) rfl rfl agg_34 rfl rfl) rfl rfl ?_)
  refine RX.cons rfl rfl (op_w (yw_move rfl rfl) rfl rfl ?_)
  refine RX.cons rfl rfl (op_w (yw_move rfl rfl) rfl rfl ?_)
  refine RX.cons rfl rfl (op_callE rfl rfl rfl rfl rfl ent_22 (fun w hw => w_Apply fs (([] ++ rs) ++ [(exR ac)]) ls (hw.rd hrM (by simp)) (Ent.rd (hw.ents _ (List.mem_of_getElem? (i := 2) rfl))) (hw.rd hr (by simp)) hlM (by simp; omega) hl) (fun ⟨A1, c1⟩ _ => ?_))
  refine RX.cons rfl rfl (op_w (yw_assign rfl rfl) rfl rfl ?_)
  refine RX.nil (XX.next (V' := [(1, _), (2, _), (9, _), (10, _), (11, _)]) ⟨rfl, rfl, rfl, rfl, rfl, trivial⟩ ?_)
  refine CX.seq ?_
  refine CX.seq ?_
  refine CX.region ?_
  refine RX.cons rfl rfl (op_w (yw_move rfl rfl) rfl rfl ?_)
  refine RX.cons rfl rfl (op_w (yw_lenS rfl Try.underlying22 rfl) rfl rfl ?_)
  refine RX.cons rfl rfl (op_w (yw_move rfl rfl) rfl rfl ?_)
  refine RX.cons rfl rfl (op_w (yw_lenS rfl Try.underlying22 rfl) rfl rfl ?_)
  refine RX.cons rfl rfl (op_w (yw_neq rfl rfl rfl) rfl rfl ?_)
  refine RX.know (t := 44) (u := .bool false) rfl (congrArg Value.bool (decide_eq_false (by rw [applyS, List.length_map]; omega))) ?_
  refine RX.nil (XX.next (V' := [(1, _), (2, _), (9, _), (10, _), (11, _), (44, _)]) ⟨rfl, rfl, rfl, rfl, rfl, rfl, trivial⟩ ?_)
  refine CX.condF rfl ?_
  refine CX.skip (XX.next (V' := [(1, _), (2, _), (9, _), (10, _), (11, _)]) ⟨rfl, rfl, rfl, rfl, rfl, trivial⟩ ?_)
  refine CX.seq ?_
  refine CX.seq ?_
  refine CX.region ?_
  refine RX.cons rfl rfl (op_w (yw_assign rfl rfl) rfl rfl ?_)
  refine RX.nil (XX.next (V' := [(1, _), (2, _), (9, _), (10, _), (11, _), (12, _)]) ⟨rfl, rfl, rfl, rfl, rfl, rfl, trivial⟩ ?_)
  refine CX.block ?_
  refine CX.perm (L' := [.row A1 c1 24 9 (List.map smC (applyS fs (([] ++ rs) ++ [(exR ac)]) ls)), .blk g10 (.cells (#[.slice none 0 0, .slice AM fs.length capM, .slice none 0 0, .slice none 0 0, .slice none 0 0, .slice none 0 0, .slice none 0 0, .slice none 0 0, .slice none 0 0, .slice none 0 0]) 34 (0, 0)), .row (some ⟨g6, 0, none⟩) 1 44 4 (List.map ruC ([(exR ac)])), .row A6 c6 44 4 (List.map ruC (([] ++ rs) ++ [(exR ac)]))]) ((perm_pick 0 rfl).trans (List.Perm.cons _ ((perm_pick 0 rfl).trans (List.Perm.cons _ (List.Perm.refl _))))) ?_
  refine CX.drop (L' := [.row A1 c1 24 9 (List.map smC (applyS fs (([] ++ rs) ++ [(exR ac)]) ls)), .blk g10 (.cells (#[.slice none 0 0, .slice AM fs.length capM, .slice none 0 0, .slice none 0 0, .slice none 0 0, .slice none 0 0, .slice none 0 0, .slice none 0 0, .slice none 0 0, .slice none 0 0]) 34 (0, 0))]) (List.Sublist.cons_cons _ (List.Sublist.cons_cons _ (List.nil_sublist _))) ?_
  refine CX.loop (σ := Nat) (fun i => [(1, .slice A ls.length cap), (2, .int .i64 ac), (9, .bool true), (10, .pointer (some ⟨g10, 0, none⟩)), (11, .slice A1 (List.length ((applyS fs (([] ++ rs) ++ [(exR ac)]) ls) : List Sm)) c1), (12, .int .i64 ((i : Nat) : Int))]) (fun i => [.row A1 c1 24 9 (List.map smC (applyS fs (([] ++ rs) ++ [(exR ac)]) ls)), .blk g10 (.cells (#[.slice none 0 0, .slice AM fs.length capM, .slice none 0 0, .slice none 0 0, .slice none 0 0, .slice none 0 0, .slice none 0 0, .slice none 0 0, .slice none 0 0, .slice none 0 0]) 34 (0, 0))]) (fun i => i ≤ ls.length) (fun i => ls.length - i) 0 (Nat.zero_le _) ⟨rfl, rfl, rfl, rfl, rfl, rfl, trivial⟩ rfl (fun i hI => ?_)
  have hi := hI
  refine CX.seq ?_
  refine CX.seq ?_
  refine CX.region ?_
  refine RX.cons rfl rfl (op_w (yw_move rfl rfl) rfl rfl ?_)
  refine RX.cons rfl rfl (op_w (yw_move rfl rfl) rfl rfl ?_)
  refine RX.cons rfl rfl (op_w (yw_lenS rfl Try.underlying22 rfl) rfl rfl ?_)
  refine RX.cons rfl rfl (op_w (yw_lss rfl rfl rfl) rfl rfl ?_)
  refine RX.nil (XX.next (V' := [(1, _), (2, _), (9, _), (10, _), (11, _), (12, _), (48, _)]) ⟨rfl, rfl, rfl, rfl, rfl, rfl, rfl, trivial⟩ ?_)
  refine CX.condD (p := ((i : Nat) : Int) < ((ls.length : Nat) : Int)) rfl (fun c48 => ?_) (fun c48 => ?_)
  · obtain ⟨x0, hx0⟩ := get_some (l := ls) (k := i) (by omega)
    have hx0m := List.mem_of_getElem? hx0
    have hA : ∃ b j, A = some ⟨b, j, none⟩ := hr.some (k := 0) (by simp; omega)
    have hox : (applyS fs (([] ++ rs) ++ [(exR ac)]) ls)[i]? = some (mkS x0 (handM fs x0 (jud (([] ++ rs) ++ [(exR ac)]) ls x0))) := map_get hx0
    have q1 : (1 ≤ (markOf fs (Sm.dev x0) (Sm.id x0)) ∧ (markOf fs (Sm.dev x0) (Sm.id x0)) ≤ 3) → handM fs x0 (jud (([] ++ rs) ++ [(exR ac)]) ls x0) = (markOf fs (Sm.dev x0) (Sm.id x0)) := fun h => if_pos h
    have q2 : ¬ (1 ≤ (markOf fs (Sm.dev x0) (Sm.id x0)) ∧ (markOf fs (Sm.dev x0) (Sm.id x0)) ≤ 3) → handM fs x0 (jud (([] ++ rs) ++ [(exR ac)]) ls x0) = (jud (([] ++ rs) ++ [(exR ac)]) ls x0) := fun h => if_neg h
    have q3 : Sm.acc x0 = ac → (jud (([] ++ rs) ++ [(exR ac)]) ls x0) = 1 := fun h => jud_exempt (rs := rs) (by omega) (by omega) h
    refine CX.rowSome 0 rfl (by rw [List.length_map, applyS, List.length_map]; omega) (fun hs1 => ?_)
    refine CX.skip (XX.next (V' := [(1, _), (2, _), (9, _), (10, _), (11, _), (12, _)]) ⟨rfl, rfl, rfl, rfl, rfl, rfl, trivial⟩ ?_)
    refine CX.seq ?_
    refine CX.block ?_
    refine CX.seq ?_
    refine CX.drawL 12 ([.row A1 c1 24 9 (List.map smC (applyS fs (([] ++ rs) ++ [(exR ac)]) ls)), .blk g10 (.cells (#[.slice none 0 0, .slice AM fs.length capM, .slice none 0 0, .slice none 0 0, .slice none 0 0, .slice none 0 0, .slice none 0 0, .slice none 0 0, .slice none 0 0, .slice none 0 0]) 34 (0, 0))]) [(0, 1024, 2251799813685248), (0, 2, 4503599627370496), (0, 4096, 9007199254740992), (6, 13510798882111488, 18014398509481984), (8, 18014398509481984, 36028797018963968), (16, 36028797018963968, 72057594037927936), (0, 2, 144115188075855872), (0, 4096, 288230376151711744), (192, 432345564227567616, 576460752303423488), (256, 576460752303423488, 1152921504606846976), (512, 1152921504606846976, 2305843009213693952), (1057, 2380152403065307136, 4611686018427387904), (4095, 4611686018427387904, 8192)] (by kernel_rfl) (by kernel_rfl) (by kernel_rfl) ?_
    refine DX.take 0 1 (by kernel_rfl) rfl rfl rfl rfl rfl (List.Sublist.refl _) (y_loadA (i := 1) rfl rfl agg_34 rfl rfl) ?_
    refine DX.takeW 1 3 (by kernel_rfl) rfl rfl rfl rfl rfl (yw_move rfl rfl) ?_
    refine DX.takeW 2 7 (by kernel_rfl) rfl rfl rfl rfl rfl (yw_move rfl rfl) ?_
    refine DX.takeW 3 15 (by kernel_rfl) rfl rfl rfl rfl rfl (yw_index (k := i) rfl slt_22 rfl rfl (by omega) (by omega) hA) ?_
    refine DX.takeW 4 31 (by kernel_rfl) rfl rfl rfl rfl rfl (yw_field0 rfl fld_24_0 rfl) ?_
    refine DX.take 5 63 (by kernel_rfl) rfl rfl rfl rfl rfl (List.Sublist.refl _) (y_elemF (j := 0) rfl rfl one_3 hr (by simp) (map_get hx0) rfl) ?_
    refine DX.takeW 6 127 (by kernel_rfl) rfl rfl rfl rfl rfl (yw_move rfl rfl) ?_
    refine DX.takeW 7 255 (by kernel_rfl) rfl rfl rfl rfl rfl (yw_move rfl rfl) ?_
    refine DX.takeW 8 511 (by kernel_rfl) rfl rfl rfl rfl rfl (yw_index (k := i) rfl slt_22 rfl rfl (by omega) (by omega) hA) ?_
    refine DX.takeW 9 1023 (by kernel_rfl) rfl rfl rfl rfl rfl (yw_fieldAddr rfl fld_24_1 rfl) ?_
    refine DX.take 10 2047 (by kernel_rfl) rfl rfl rfl rfl rfl (List.Sublist.refl _) (y_elemF rfl rfl one_3 hr (by simp) (map_get hx0) rfl) ?_
    refine DX.step 11 4095 (by kernel_rfl) rfl rfl rfl (op_callV (v := .int .i64 (markOf fs (Sm.dev x0) (Sm.id x0))) rfl rfl rfl rfl rfl ent_24 (fun w hw => w_Mark fs (hw.rd hrM (by simp)) hlM (Sm.dev x0) (Sm.id x0)) (DXs.mk (List.Sublist.refl _) ?_))
    refine DX.takeW 12 8191 (by kernel_rfl) rfl rfl rfl rfl rfl (yw_assign rfl rfl) ?_
    refine DX.done (by kernel_rfl) (XX.next (V' := [(1, _), (2, _), (9, _), (10, _), (11, _), (12, _), (13, _)]) ⟨rfl, rfl, rfl, rfl, rfl, rfl, rfl, trivial⟩ ?_)
    refine CX.seq ?_
    refine CX.region ?_
    refine RX.cons rfl rfl (op_w (yw_move rfl rfl) rfl rfl ?_)
    refine RX.cons rfl rfl (op_w (yw_geq rfl rfl rfl) rfl rfl ?_)
    refine RX.cons rfl rfl (op_w (yw_move rfl rfl) rfl rfl ?_)
    refine RX.splitD (t := 65) (p := 1 ≤ markOf fs (Sm.dev x0) (Sm.id x0)) rfl (fun d65 => ?_) (fun d65 => ?_)
    · refine RX.consG rfl rfl rfl rfl rfl (op_w (yw_move rfl rfl) rfl rfl ?_)
      refine RX.consG rfl rfl rfl rfl rfl (op_w (yw_leq rfl rfl rfl) rfl rfl ?_)
      refine RX.cons rfl rfl (op_w (yw_pickT rfl rfl rfl) rfl rfl ?_)
      refine RX.cons rfl rfl (op_w (yw_assign rfl rfl) rfl rfl ?_)
      refine RX.nil (XX.next (V' := [(1, _), (2, _), (9, _), (10, _), (11, _), (12, _), (13, _), (14, _)]) ⟨rfl, rfl, rfl, rfl, rfl, rfl, rfl, rfl, trivial⟩ ?_)
      refine CX.seq ?_
      refine CX.seq ?_
      refine CX.region ?_
      refine RX.cons rfl rfl (op_w (yw_move rfl rfl) rfl rfl ?_)
      refine RX.cons rfl rfl (op_w (yw_move rfl rfl) rfl rfl ?_)
      refine RX.splitD (t := 70) (p := markOf fs (Sm.dev x0) (Sm.id x0) ≤ 3) rfl (fun d70 => ?_) (fun d70 => ?_)
      · refine RX.consG rfl rfl rfl rfl rfl (op_w (yw_move rfl rfl) rfl rfl ?_)
        refine RX.consG rfl rfl rfl rfl rfl (op_w (yw_move rfl rfl) rfl rfl ?_)
        refine RX.consG rfl rfl rfl rfl rfl (op_w (yw_index (k := i) rfl slt_22 rfl rfl (by omega) (by rw [applyS, List.length_map]; omega) hs1) rfl rfl ?_)
        refine RX.consG rfl rfl rfl rfl rfl (op_w (yw_fieldAddr rfl fld_24_8 rfl) rfl rfl ?_)
        refine RX.consG rfl rfl rfl rfl rfl (op_yld (y_rowElemF (i := 0) rfl rfl one_3 rfl (map_get hox) rfl) rfl rfl ?_)
        refine RX.consG rfl rfl rfl rfl rfl (op_w (yw_move rfl rfl) rfl rfl ?_)
        refine RX.consG rfl rfl rfl rfl rfl (op_w (yw_neq rfl rfl rfl) rfl rfl ?_)
        refine RX.know (t := 77) (u := .bool false) rfl (congrArg Value.bool (decide_eq_false (fun h => h (q1 ⟨by omega, by omega⟩)))) ?_
        refine RX.cons rfl rfl (op_w (yw_pickT rfl rfl rfl) rfl rfl ?_)
        refine RX.cons rfl rfl (op_w (yw_move rfl rfl) rfl rfl ?_)
        refine RX.consG rfl rfl rfl rfl rfl (op_w (yw_move rfl rfl) rfl rfl ?_)
        refine RX.consG rfl rfl rfl rfl rfl (op_w (yw_notD rfl rfl) rfl rfl ?_)
        refine RX.consG rfl rfl rfl rfl rfl (op_w (yw_move rfl rfl) rfl rfl ?_)
        refine RX.splitD (t := 82) (p := ¬ (markOf fs (Sm.dev x0) (Sm.id x0) ≤ 3)) rfl (fun d82 => ?_) (fun d82 => ?_)
        · refine RX.consG rfl rfl rfl rfl rfl (op_w (yw_move rfl rfl) rfl rfl ?_)
          refine RX.consG rfl rfl rfl rfl rfl (op_w (yw_move rfl rfl) rfl rfl ?_)
          refine RX.consG rfl rfl rfl rfl rfl (op_w (yw_index (k := i) rfl slt_22 rfl rfl (by omega) (by omega) hA) rfl rfl ?_)
          refine RX.consG rfl rfl rfl rfl rfl (op_w (yw_fieldAddr rfl fld_24_2 rfl) rfl rfl ?_)
          refine RX.consG rfl rfl rfl rfl rfl (op_yld (y_elemF rfl rfl one_3 hr (by simp) (map_get hx0) rfl) rfl rfl ?_)
          refine RX.consG rfl rfl rfl rfl rfl (op_w (yw_move rfl rfl) rfl rfl ?_)
          refine RX.consG rfl rfl rfl rfl rfl (op_w (yw_eql rfl rfl rfl) rfl rfl ?_)
          refine RX.consG rfl rfl rfl rfl rfl (op_w (yw_pickT rfl rfl rfl) rfl rfl ?_)
          refine RX.consG rfl rfl rfl rfl rfl (op_w (yw_move rfl rfl) rfl rfl ?_)
          refine RX.splitD (t := 91) (p := Sm.acc x0 = ac) rfl (fun d91 => ?_) (fun d91 => ?_)
          · refine RX.consG rfl rfl rfl rfl rfl (op_w (yw_move rfl rfl) rfl rfl ?_)
            refine RX.consG rfl rfl rfl rfl rfl (op_w (yw_move rfl rfl) rfl rfl ?_)
            refine RX.consG rfl rfl rfl rfl rfl (op_w (yw_index (k := i) rfl slt_22 rfl rfl (by omega) (by rw [applyS, List.length_map]; omega) hs1) rfl rfl ?_)
            refine RX.consG rfl rfl rfl rfl rfl (op_w (yw_fieldAddr rfl fld_24_8 rfl) rfl rfl ?_)
            refine RX.consG rfl rfl rfl rfl rfl (op_yld (y_rowElemF (i := 0) rfl rfl one_3 rfl (map_get hox) rfl) rfl rfl ?_)
            refine RX.consG rfl rfl rfl rfl rfl (op_w (yw_neq rfl rfl rfl) rfl rfl ?_)
            refine RX.know (t := 97) (u := .bool false) rfl (congrArg Value.bool (decide_eq_false (fun h => h ((q2 (by omega)).trans (q3 (by omega)))))) ?_
            refine RX.consG rfl rfl rfl rfl rfl (op_w (yw_pickT rfl rfl rfl) rfl rfl ?_)
            refine RX.cons rfl rfl (op_w (yw_pickF rfl rfl rfl) rfl rfl ?_)
            refine RX.nil (XX.next (V' := [(1, _), (2, _), (9, _), (10, _), (11, _), (12, _), (99, _)]) ⟨rfl, rfl, rfl, rfl, rfl, rfl, rfl, trivial⟩ ?_)
            refine CX.condF rfl ?_
            refine CX.skip (XX.next (V' := [(1, _), (2, _), (9, _), (10, _), (11, _), (12, _)]) ⟨rfl, rfl, rfl, rfl, rfl, rfl, trivial⟩ ?_)
            refine CX.seq ?_
            refine CX.region ?_
            refine RX.cons rfl rfl (op_w (yw_move rfl rfl) rfl rfl ?_)
            refine RX.cons rfl rfl (op_w (yw_move rfl rfl) rfl rfl ?_)
            refine RX.cons rfl rfl (op_w (yw_index (k := i) rfl slt_22 rfl rfl (by omega) (by rw [applyS, List.length_map]; omega) hs1) rfl rfl ?_)
            refine RX.cons rfl rfl (op_yld (y_rowElem (i := 0) rfl rfl agg_24 rfl (map_get hox)) rfl rfl ?_)
            refine RX.cons rfl rfl (op_alloc rfl rfl rfl zero_24 fun g15 => ?_)
            refine RX.cons rfl rfl (op_storeAll (i := 0) rfl rfl rfl rfl szt_24 rfl (plain_of rfl) rfl rfl ?_)
            refine RX.nil (XX.next (V' := [(1, _), (2, _), (9, _), (10, _), (11, _), (12, _), (15, _)]) ⟨rfl, rfl, rfl, rfl, rfl, rfl, rfl, trivial⟩ ?_)
            refine CX.seq ?_
            refine CX.region ?_
            refine RX.cons rfl rfl (op_w (yw_move rfl rfl) rfl rfl ?_)
            refine RX.cons rfl rfl (op_w (yw_move rfl rfl) rfl rfl ?_)
            refine RX.cons rfl rfl (op_w (yw_index (k := i) rfl slt_22 rfl rfl (by omega) (by omega) hA) rfl rfl ?_)
            refine RX.cons rfl rfl (op_w (yw_fieldAddr rfl fld_24_8 rfl) rfl rfl ?_)
            refine RX.cons rfl rfl (op_yld (y_elemF rfl rfl one_3 hr (by simp) (map_get hx0) rfl) rfl rfl ?_)
            refine RX.cons rfl rfl (op_w (yw_fieldAddr rfl fld_24_8 rfl) rfl rfl ?_)
            refine RX.cons rfl rfl (op_store1 (i := 0) (cs' := #[.int .i64 (Sm.dev x0), .int .i64 (Sm.id x0), .int .i64 (Sm.acc x0), .int .i64 (Sm.song x0), .int .i64 (Sm.ter x0), .int .i64 (Sm.sec x0), .int .i64 (Sm.per x0), .int .i64 (Sm.ses x0), .int .i64 (Sm.mark x0)]) rfl rfl rfl rfl szt_3 rfl rfl rfl rfl ?_)
            refine RX.nil (XX.next (V' := [(1, _), (2, _), (9, _), (10, _), (11, _), (12, _), (15, _)]) ⟨rfl, rfl, rfl, rfl, rfl, rfl, rfl, trivial⟩ ?_)
            refine CX.seq ?_
            refine CX.draw 6 [(0, 32768, 1298074214633706907132624082305024), (0, 2, 2596148429267413814265248164610048), (0, 4096, 5192296858534827628530496329220096), (6, 7788445287802241442795744493830144, 10384593717069655257060992658440192), (8, 10384593717069655257060992658440192, 20769187434139310514121985316880384), (17, 22067261648773017421254609399185408, 41538374868278621028243970633760768)] (by kernel_rfl) (by kernel_rfl) (by kernel_rfl) ?_
            refine DX.take 0 1 (by kernel_rfl) rfl rfl rfl rfl rfl (List.Sublist.refl _) (y_loadA (i := 0) rfl rfl agg_24 rfl rfl) ?_
            refine DX.know (t := 110) (u := .agg (smC x0)) rfl rfl ?_
            refine DX.takeW 1 3 (by kernel_rfl) rfl rfl rfl rfl rfl (yw_move rfl rfl) ?_
            refine DX.takeW 2 7 (by kernel_rfl) rfl rfl rfl rfl rfl (yw_move rfl rfl) ?_
            refine DX.takeW 3 15 (by kernel_rfl) rfl rfl rfl rfl rfl (yw_index (k := i) rfl slt_22 rfl rfl (by omega) (by omega) hA) ?_
            refine DX.take 4 31 (by kernel_rfl) rfl rfl rfl rfl rfl (List.Sublist.refl _) (y_elem rfl rfl agg_24 hr (by simp) (map_get hx0)) ?_
            refine DX.takeW 5 63 (by kernel_rfl) rfl rfl rfl rfl rfl (yw_neqAgg (b := sameS x0 x0) rfl rfl rfl eqg_24 (fun w => eq_sm x0 x0 w)) ?_
            refine DX.know (t := 115) (u := .bool false) rfl (congrArg Value.bool (by rw [(sameS_iff x0 x0).2 rfl]; rfl)) ?_
            refine DX.done (by kernel_rfl) (XX.next (V' := [(1, _), (2, _), (9, _), (10, _), (11, _), (12, _), (115, _)]) ⟨rfl, rfl, rfl, rfl, rfl, rfl, rfl, trivial⟩ ?_)
            refine CX.condF rfl ?_
            refine CX.skip (XX.inBlock (V' := [(1, _), (2, _), (9, _), (10, _), (11, _), (12, _)]) ⟨rfl, rfl, rfl, rfl, rfl, rfl, trivial⟩ ?_)
            refine XX.next (V' := [(1, _), (2, _), (9, _), (10, _), (11, _), (12, _)]) ⟨rfl, rfl, rfl, rfl, rfl, rfl, trivial⟩ ?_
            refine CX.region ?_
            refine RX.cons rfl rfl (op_w (yw_move rfl rfl) rfl rfl ?_)
            refine RX.cons rfl rfl (op_w (yw_add rfl rfl rfl (by omega) (by omega)) rfl rfl ?_)
            refine RX.cons rfl rfl (op_w (yw_assign rfl rfl) rfl rfl ?_)
            refine RX.nil (XX.againP ([.blk g15 (.cells (#[.int .i64 (Sm.dev x0), .int .i64 (Sm.id x0), .int .i64 (Sm.acc x0), .int .i64 (Sm.song x0), .int .i64 (Sm.ter x0), .int .i64 (Sm.sec x0), .int .i64 (Sm.per x0), .int .i64 (Sm.ses x0), .int .i64 (Sm.mark x0)]) 24 (0, 0))]) (i + 1) (by omega) (by omega) ⟨rfl, rfl, rfl, rfl, rfl, rfl, trivial⟩ ((perm_pick 1 rfl).trans (List.Perm.cons _ ((perm_pick 1 rfl).trans (List.Perm.cons _ (List.Perm.refl _))))))
          · refine RX.skip rfl rfl rfl rfl rfl rfl rfl ?_
            refine RX.skip rfl rfl rfl rfl rfl rfl rfl ?_
            refine RX.skip rfl rfl rfl rfl rfl rfl rfl ?_
            refine RX.skip rfl rfl rfl rfl rfl rfl rfl ?_
            refine RX.skip rfl rfl rfl rfl rfl rfl rfl ?_
            refine RX.skip rfl rfl rfl rfl rfl rfl rfl ?_
            refine RX.consG rfl rfl rfl rfl rfl (op_w (yw_pickF rfl rfl rfl) rfl rfl ?_)
            refine RX.cons rfl rfl (op_w (yw_pickF rfl rfl rfl) rfl rfl ?_)
            refine RX.nil (XX.next (V' := [(1, _), (2, _), (9, _), (10, _), (11, _), (12, _), (99, _)]) ⟨rfl, rfl, rfl, rfl, rfl, rfl, rfl, trivial⟩ ?_)
            refine CX.condF rfl ?_
            refine CX.skip (XX.next (V' := [(1, _), (2, _), (9, _), (10, _), (11, _), (12, _)]) ⟨rfl, rfl, rfl, rfl, rfl, rfl, trivial⟩ ?_)
            refine CX.seq ?_
            refine CX.region ?_
            refine RX.cons rfl rfl (op_w (yw_move rfl rfl) rfl rfl ?_)
            refine RX.cons rfl rfl (op_w (yw_move rfl rfl) rfl rfl ?_)
            refine RX.cons rfl rfl (op_w (yw_index (k := i) rfl slt_22 rfl rfl (by omega) (by rw [applyS, List.length_map]; omega) hs1) rfl rfl ?_)
            refine RX.cons rfl rfl (op_yld (y_rowElem (i := 0) rfl rfl agg_24 rfl (map_get hox)) rfl rfl ?_)
            refine RX.cons rfl rfl (op_alloc rfl rfl rfl zero_24 fun g15 => ?_)
            refine RX.cons rfl rfl (op_storeAll (i := 0) rfl rfl rfl rfl szt_24 rfl (plain_of rfl) rfl rfl ?_)
            refine RX.nil (XX.next (V' := [(1, _), (2, _), (9, _), (10, _), (11, _), (12, _), (15, _)]) ⟨rfl, rfl, rfl, rfl, rfl, rfl, rfl, trivial⟩ ?_)
            refine CX.seq ?_
            refine CX.region ?_
            refine RX.cons rfl rfl (op_w (yw_move rfl rfl) rfl rfl ?_)
            refine RX.cons rfl rfl (op_w (yw_move rfl rfl) rfl rfl ?_)
            refine RX.cons rfl rfl (op_w (yw_index (k := i) rfl slt_22 rfl rfl (by omega) (by omega) hA) rfl rfl ?_)
            refine RX.cons rfl rfl (op_w (yw_fieldAddr rfl fld_24_8 rfl) rfl rfl ?_)
            refine RX.cons rfl rfl (op_yld (y_elemF rfl rfl one_3 hr (by simp) (map_get hx0) rfl) rfl rfl ?_)
            refine RX.cons rfl rfl (op_w (yw_fieldAddr rfl fld_24_8 rfl) rfl rfl ?_)
            refine RX.cons rfl rfl (op_store1 (i := 0) (cs' := #[.int .i64 (Sm.dev x0), .int .i64 (Sm.id x0), .int .i64 (Sm.acc x0), .int .i64 (Sm.song x0), .int .i64 (Sm.ter x0), .int .i64 (Sm.sec x0), .int .i64 (Sm.per x0), .int .i64 (Sm.ses x0), .int .i64 (Sm.mark x0)]) rfl rfl rfl rfl szt_3 rfl rfl rfl rfl ?_)
            refine RX.nil (XX.next (V' := [(1, _), (2, _), (9, _), (10, _), (11, _), (12, _), (15, _)]) ⟨rfl, rfl, rfl, rfl, rfl, rfl, rfl, trivial⟩ ?_)
            refine CX.seq ?_
            refine CX.draw 6 [(0, 32768, 1298074214633706907132624082305024), (0, 2, 2596148429267413814265248164610048), (0, 4096, 5192296858534827628530496329220096), (6, 7788445287802241442795744493830144, 10384593717069655257060992658440192), (8, 10384593717069655257060992658440192, 20769187434139310514121985316880384), (17, 22067261648773017421254609399185408, 41538374868278621028243970633760768)] (by kernel_rfl) (by kernel_rfl) (by kernel_rfl) ?_
            refine DX.take 0 1 (by kernel_rfl) rfl rfl rfl rfl rfl (List.Sublist.refl _) (y_loadA (i := 0) rfl rfl agg_24 rfl rfl) ?_
            refine DX.know (t := 110) (u := .agg (smC x0)) rfl rfl ?_
            refine DX.takeW 1 3 (by kernel_rfl) rfl rfl rfl rfl rfl (yw_move rfl rfl) ?_
            refine DX.takeW 2 7 (by kernel_rfl) rfl rfl rfl rfl rfl (yw_move rfl rfl) ?_
            refine DX.takeW 3 15 (by kernel_rfl) rfl rfl rfl rfl rfl (yw_index (k := i) rfl slt_22 rfl rfl (by omega) (by omega) hA) ?_
            refine DX.take 4 31 (by kernel_rfl) rfl rfl rfl rfl rfl (List.Sublist.refl _) (y_elem rfl rfl agg_24 hr (by simp) (map_get hx0)) ?_
            refine DX.takeW 5 63 (by kernel_rfl) rfl rfl rfl rfl rfl (yw_neqAgg (b := sameS x0 x0) rfl rfl rfl eqg_24 (fun w => eq_sm x0 x0 w)) ?_
            refine DX.know (t := 115) (u := .bool false) rfl (congrArg Value.bool (by rw [(sameS_iff x0 x0).2 rfl]; rfl)) ?_
            refine DX.done (by kernel_rfl) (XX.next (V' := [(1, _), (2, _), (9, _), (10, _), (11, _), (12, _), (115, _)]) ⟨rfl, rfl, rfl, rfl, rfl, rfl, rfl, trivial⟩ ?_)
            refine CX.condF rfl ?_
            refine CX.skip (XX.inBlock (V' := [(1, _), (2, _), (9, _), (10, _), (11, _), (12, _)]) ⟨rfl, rfl, rfl, rfl, rfl, rfl, trivial⟩ ?_)
            refine XX.next (V' := [(1, _), (2, _), (9, _), (10, _), (11, _), (12, _)]) ⟨rfl, rfl, rfl, rfl, rfl, rfl, trivial⟩ ?_
            refine CX.region ?_
            refine RX.cons rfl rfl (op_w (yw_move rfl rfl) rfl rfl ?_)
            refine RX.cons rfl rfl (op_w (yw_add rfl rfl rfl (by omega) (by omega)) rfl rfl ?_)
            refine RX.cons rfl rfl (op_w (yw_assign rfl rfl) rfl rfl ?_)
            refine RX.nil (XX.againP ([.blk g15 (.cells (#[.int .i64 (Sm.dev x0), .int .i64 (Sm.id x0), .int .i64 (Sm.acc x0), .int .i64 (Sm.song x0), .int .i64 (Sm.ter x0), .int .i64 (Sm.sec x0), .int .i64 (Sm.per x0), .int .i64 (Sm.ses x0), .int .i64 (Sm.mark x0)]) 24 (0, 0))]) (i + 1) (by omega) (by omega) ⟨rfl, rfl, rfl, rfl, rfl, rfl, trivial⟩ ((perm_pick 1 rfl).trans (List.Perm.cons _ ((perm_pick 1 rfl).trans (List.Perm.cons _ (List.Perm.refl _))))))
        · refine RX.skip rfl rfl rfl rfl rfl rfl rfl ?_
          refine RX.skip rfl rfl rfl rfl rfl rfl rfl ?_
          refine RX.skip rfl rfl rfl rfl rfl rfl rfl ?_
          refine RX.skip rfl rfl rfl rfl rfl rfl rfl ?_
          refine RX.skip rfl rfl rfl rfl rfl rfl rfl ?_
          refine RX.skip rfl rfl rfl rfl rfl rfl rfl ?_
          refine RX.skip rfl rfl rfl rfl rfl rfl rfl ?_
          refine RX.consG rfl rfl rfl rfl rfl (op_w (yw_pickF rfl rfl rfl) rfl rfl ?_)
          refine RX.consG rfl rfl rfl rfl rfl (op_w (yw_move rfl rfl) rfl rfl ?_)
          refine RX.skip rfl rfl rfl rfl rfl rfl rfl ?_
          refine RX.skip rfl rfl rfl rfl rfl rfl rfl ?_
          refine RX.skip rfl rfl rfl rfl rfl rfl rfl ?_
          refine RX.skip rfl rfl rfl rfl rfl rfl rfl ?_
          refine RX.skip rfl rfl rfl rfl rfl rfl rfl ?_
          refine RX.skip rfl rfl rfl rfl rfl rfl rfl ?_
          refine RX.consG rfl rfl rfl rfl rfl (op_w (yw_pickF rfl rfl rfl) rfl rfl ?_)
          refine RX.cons rfl rfl (op_w (yw_pickF rfl rfl rfl) rfl rfl ?_)
          refine RX.nil (XX.next (V' := [(1, _), (2, _), (9, _), (10, _), (11, _), (12, _), (99, _)]) ⟨rfl, rfl, rfl, rfl, rfl, rfl, rfl, trivial⟩ ?_)
          refine CX.condF rfl ?_
          refine CX.skip (XX.next (V' := [(1, _), (2, _), (9, _), (10, _), (11, _), (12, _)]) ⟨rfl, rfl, rfl, rfl, rfl, rfl, trivial⟩ ?_)
          refine CX.seq ?_
          refine CX.region ?_
          refine RX.cons rfl rfl (op_w (yw_move rfl rfl) rfl rfl ?_)
          refine RX.cons rfl rfl (op_w (yw_move rfl rfl) rfl rfl ?_)
          refine RX.cons rfl rfl (op_w (yw_index (k := i) rfl slt_22 rfl rfl (by omega) (by rw [applyS, List.length_map]; omega) hs1) rfl rfl ?_)
          refine RX.cons rfl rfl (op_yld (y_rowElem (i := 0) rfl rfl agg_24 rfl (map_get hox)) rfl rfl ?_)
          refine RX.cons rfl rfl (op_alloc rfl rfl rfl zero_24 fun g15 => ?_)
          refine RX.cons rfl rfl (op_storeAll (i := 0) rfl rfl rfl rfl szt_24 rfl (plain_of rfl) rfl rfl ?_)
          refine RX.nil (XX.next (V' := [(1, _), (2, _), (9, _), (10, _), (11, _), (12, _), (15, _)]) ⟨rfl, rfl, rfl, rfl, rfl, rfl, rfl, trivial⟩ ?_)
          refine CX.seq ?_
          refine CX.region ?_
          refine RX.cons rfl rfl (op_w (yw_move rfl rfl) rfl rfl ?_)
          refine RX.cons rfl rfl (op_w (yw_move rfl rfl) rfl rfl ?_)
          refine RX.cons rfl rfl (op_w (yw_index (k := i) rfl slt_22 rfl rfl (by omega) (by omega) hA) rfl rfl ?_)
          refine RX.cons rfl rfl (op_w (yw_fieldAddr rfl fld_24_8 rfl) rfl rfl ?_)
          refine RX.cons rfl rfl (op_yld (y_elemF rfl rfl one_3 hr (by simp) (map_get hx0) rfl) rfl rfl ?_)
          refine RX.cons rfl rfl (op_w (yw_fieldAddr rfl fld_24_8 rfl) rfl rfl ?_)
          refine RX.cons rfl rfl (op_store1 (i := 0) (cs' := #[.int .i64 (Sm.dev x0), .int .i64 (Sm.id x0), .int .i64 (Sm.acc x0), .int .i64 (Sm.song x0), .int .i64 (Sm.ter x0), .int .i64 (Sm.sec x0), .int .i64 (Sm.per x0), .int .i64 (Sm.ses x0), .int .i64 (Sm.mark x0)]) rfl rfl rfl rfl szt_3 rfl rfl rfl rfl ?_)
          refine RX.nil (XX.next (V' := [(1, _), (2, _), (9, _), (10, _), (11, _), (12, _), (15, _)]) ⟨rfl, rfl, rfl, rfl, rfl, rfl, rfl, trivial⟩ ?_)
          refine CX.seq ?_
          refine CX.draw 6 [(0, 32768, 1298074214633706907132624082305024), (0, 2, 2596148429267413814265248164610048), (0, 4096, 5192296858534827628530496329220096), (6, 7788445287802241442795744493830144, 10384593717069655257060992658440192), (8, 10384593717069655257060992658440192, 20769187434139310514121985316880384), (17, 22067261648773017421254609399185408, 41538374868278621028243970633760768)] (by kernel_rfl) (by kernel_rfl) (by kernel_rfl) ?_
          refine DX.take 0 1 (by kernel_rfl) rfl rfl rfl rfl rfl (List.Sublist.refl _) (y_loadA (i := 0) rfl rfl agg_24 rfl rfl) ?_
          refine DX.know (t := 110) (u := .agg (smC x0)) rfl rfl ?_
          refine DX.takeW 1 3 (by kernel_rfl) rfl rfl rfl rfl rfl (yw_move rfl rfl) ?_
          refine DX.takeW 2 7 (by kernel_rfl) rfl rfl rfl rfl rfl (yw_move rfl rfl) ?_
          refine DX.takeW 3 15 (by kernel_rfl) rfl rfl rfl rfl rfl (yw_index (k := i) rfl slt_22 rfl rfl (by omega) (by omega) hA) ?_
          refine DX.take 4 31 (by kernel_rfl) rfl rfl rfl rfl rfl (List.Sublist.refl _) (y_elem rfl rfl agg_24 hr (by simp) (map_get hx0)) ?_
          refine DX.takeW 5 63 (by kernel_rfl) rfl rfl rfl rfl rfl (yw_neqAgg (b := sameS x0 x0) rfl rfl rfl eqg_24 (fun w => eq_sm x0 x0 w)) ?_
          refine DX.know (t := 115) (u := .bool false) rfl (congrArg Value.bool (by rw [(sameS_iff x0 x0).2 rfl]; rfl)) ?_
          refine DX.done (by kernel_rfl) (XX.next (V' := [(1, _), (2, _), (9, _), (10, _), (11, _), (12, _), (115, _)]) ⟨rfl, rfl, rfl, rfl, rfl, rfl, rfl, trivial⟩ ?_)
          refine CX.condF rfl ?_
          refine CX.skip (XX.inBlock (V' := [(1, _), (2, _), (9, _), (10, _), (11, _), (12, _)]) ⟨rfl, rfl, rfl, rfl, rfl, rfl, trivial⟩ ?_)
          refine XX.next (V' := [(1, _), (2, _), (9, _), (10, _), (11, _), (12, _)]) ⟨rfl, rfl, rfl, rfl, rfl, rfl, trivial⟩ ?_
          refine CX.region ?_
          refine RX.cons rfl rfl (op_w (yw_move rfl rfl) rfl rfl ?_)
          refine RX.cons rfl rfl (op_w (yw_add rfl rfl rfl (by omega) (by omega)) rfl rfl ?_)
          refine RX.cons rfl rfl (op_w (yw_assign rfl rfl) rfl rfl ?_)
          refine RX.nil (XX.againP ([.blk g15 (.cells (#[.int .i64 (Sm.dev x0), .int .i64 (Sm.id x0), .int .i64 (Sm.acc x0), .int .i64 (Sm.song x0), .int .i64 (Sm.ter x0), .int .i64 (Sm.sec x0), .int .i64 (Sm.per x0), .int .i64 (Sm.ses x0), .int .i64 (Sm.mark x0)]) 24 (0, 0))]) (i + 1) (by omega) (by omega) ⟨rfl, rfl, rfl, rfl, rfl, rfl, trivial⟩ ((perm_pick 1 rfl).trans (List.Perm.cons _ ((perm_pick 1 rfl).trans (List.Perm.cons _ (List.Perm.refl _))))))
      · refine RX.skip rfl rfl rfl rfl rfl rfl rfl ?_
        refine RX.skip rfl rfl rfl rfl rfl rfl rfl ?_
        refine RX.skip rfl rfl rfl rfl rfl rfl rfl ?_
        refine RX.skip rfl rfl rfl rfl rfl rfl rfl ?_
        refine RX.skip rfl rfl rfl rfl rfl rfl rfl ?_
        refine RX.skip rfl rfl rfl rfl rfl rfl rfl ?_
        refine RX.skip rfl rfl rfl rfl rfl rfl rfl ?_
        refine RX.cons rfl rfl (op_w (yw_pickF rfl rfl rfl) rfl rfl ?_)
        refine RX.cons rfl rfl (op_w (yw_move rfl rfl) rfl rfl ?_)
        refine RX.consG rfl rfl rfl rfl rfl (op_w (yw_move rfl rfl) rfl rfl ?_)
        refine RX.consG rfl rfl rfl rfl rfl (op_w (yw_notD rfl rfl) rfl rfl ?_)
        refine RX.consG rfl rfl rfl rfl rfl (op_w (yw_move rfl rfl) rfl rfl ?_)
        refine RX.splitD (t := 82) (p := ¬ (markOf fs (Sm.dev x0) (Sm.id x0) ≤ 3)) rfl (fun d82 => ?_) (fun d82 => ?_)
        · refine RX.consG rfl rfl rfl rfl rfl (op_w (yw_move rfl rfl) rfl rfl ?_)
          refine RX.consG rfl rfl rfl rfl rfl (op_w (yw_move rfl rfl) rfl rfl ?_)
          refine RX.consG rfl rfl rfl rfl rfl (op_w (yw_index (k := i) rfl slt_22 rfl rfl (by omega) (by omega) hA) rfl rfl ?_)
          refine RX.consG rfl rfl rfl rfl rfl (op_w (yw_fieldAddr rfl fld_24_2 rfl) rfl rfl ?_)
          refine RX.consG rfl rfl rfl rfl rfl (op_yld (y_elemF rfl rfl one_3 hr (by simp) (map_get hx0) rfl) rfl rfl ?_)
          refine RX.consG rfl rfl rfl rfl rfl (op_w (yw_move rfl rfl) rfl rfl ?_)
          refine RX.consG rfl rfl rfl rfl rfl (op_w (yw_eql rfl rfl rfl) rfl rfl ?_)
          refine RX.consG rfl rfl rfl rfl rfl (op_w (yw_pickT rfl rfl rfl) rfl rfl ?_)
          refine RX.consG rfl rfl rfl rfl rfl (op_w (yw_move rfl rfl) rfl rfl ?_)
          refine RX.splitD (t := 91) (p := Sm.acc x0 = ac) rfl (fun d91 => ?_) (fun d91 => ?_)
          · refine RX.consG rfl rfl rfl rfl rfl (op_w (yw_move rfl rfl) rfl rfl ?_)
            refine RX.consG rfl rfl rfl rfl rfl (op_w (yw_move rfl rfl) rfl rfl ?_)
            refine RX.consG rfl rfl rfl rfl rfl (op_w (yw_index (k := i) rfl slt_22 rfl rfl (by omega) (by rw [applyS, List.length_map]; omega) hs1) rfl rfl ?_)
            refine RX.consG rfl rfl rfl rfl rfl (op_w (yw_fieldAddr rfl fld_24_8 rfl) rfl rfl ?_)
            refine RX.consG rfl rfl rfl rfl rfl (op_yld (y_rowElemF (i := 0) rfl rfl one_3 rfl (map_get hox) rfl) rfl rfl ?_)
            refine RX.consG rfl rfl rfl rfl rfl (op_w (yw_neq rfl rfl rfl) rfl rfl ?_)
            refine RX.know (t := 97) (u := .bool false) rfl (congrArg Value.bool (decide_eq_false (fun h => h ((q2 (by omega)).trans (q3 (by omega)))))) ?_
            refine RX.consG rfl rfl rfl rfl rfl (op_w (yw_pickT rfl rfl rfl) rfl rfl ?_)
            refine RX.cons rfl rfl (op_w (yw_pickF rfl rfl rfl) rfl rfl ?_)
            refine RX.nil (XX.next (V' := [(1, _), (2, _), (9, _), (10, _), (11, _), (12, _), (99, _)]) ⟨rfl, rfl, rfl, rfl, rfl, rfl, rfl, trivial⟩ ?_)
            refine CX.condF rfl ?_
            refine CX.skip (XX.next (V' := [(1, _), (2, _), (9, _), (10, _), (11, _), (12, _)]) ⟨rfl, rfl, rfl, rfl, rfl, rfl, trivial⟩ ?_)
            refine CX.seq ?_
            refine CX.region ?_
            refine RX.cons rfl rfl (op_w (yw_move rfl rfl) rfl rfl ?_)
            refine RX.cons rfl rfl (op_w (yw_move rfl rfl) rfl rfl ?_)
            refine RX.cons rfl rfl (op_w (yw_index (k := i) rfl slt_22 rfl rfl (by omega) (by rw [applyS, List.length_map]; omega) hs1) rfl rfl ?_)
            refine RX.cons rfl rfl (op_yld (y_rowElem (i := 0) rfl rfl agg_24 rfl (map_get hox)) rfl rfl ?_)
            refine RX.cons rfl rfl (op_alloc rfl rfl rfl zero_24 fun g15 => ?_)
            refine RX.cons rfl rfl (op_storeAll (i := 0) rfl rfl rfl rfl szt_24 rfl (plain_of rfl) rfl rfl ?_)
            refine RX.nil (XX.next (V' := [(1, _), (2, _), (9, _), (10, _), (11, _), (12, _), (15, _)]) ⟨rfl, rfl, rfl, rfl, rfl, rfl, rfl, trivial⟩ ?_)
            refine CX.seq ?_
            refine CX.region ?_
            refine RX.cons rfl rfl (op_w (yw_move rfl rfl) rfl rfl ?_)
            refine RX.cons rfl rfl (op_w (yw_move rfl rfl) rfl rfl ?_)
            refine RX.cons rfl rfl (op_w (yw_index (k := i) rfl slt_22 rfl rfl (by omega) (by omega) hA) rfl rfl ?_)
            refine RX.cons rfl rfl (op_w (yw_fieldAddr rfl fld_24_8 rfl) rfl rfl ?_)
            refine RX.cons rfl rfl (op_yld (y_elemF rfl rfl one_3 hr (by simp) (map_get hx0) rfl) rfl rfl ?_)
            refine RX.cons rfl rfl (op_w (yw_fieldAddr rfl fld_24_8 rfl) rfl rfl ?_)
            refine RX.cons rfl rfl (op_store1 (i := 0) (cs' := #[.int .i64 (Sm.dev x0), .int .i64 (Sm.id x0), .int .i64 (Sm.acc x0), .int .i64 (Sm.song x0), .int .i64 (Sm.ter x0), .int .i64 (Sm.sec x0), .int .i64 (Sm.per x0), .int .i64 (Sm.ses x0), .int .i64 (Sm.mark x0)]) rfl rfl rfl rfl szt_3 rfl rfl rfl rfl ?_)
            refine RX.nil (XX.next (V' := [(1, _), (2, _), (9, _), (10, _), (11, _), (12, _), (15, _)]) ⟨rfl, rfl, rfl, rfl, rfl, rfl, rfl, trivial⟩ ?_)
            refine CX.seq ?_
            refine CX.draw 6 [(0, 32768, 1298074214633706907132624082305024), (0, 2, 2596148429267413814265248164610048), (0, 4096, 5192296858534827628530496329220096), (6, 7788445287802241442795744493830144, 10384593717069655257060992658440192), (8, 10384593717069655257060992658440192, 20769187434139310514121985316880384), (17, 22067261648773017421254609399185408, 41538374868278621028243970633760768)] (by kernel_rfl) (by kernel_rfl) (by kernel_rfl) ?_
            refine DX.take 0 1 (by kernel_rfl) rfl rfl rfl rfl rfl (List.Sublist.refl _) (y_loadA (i := 0) rfl rfl agg_24 rfl rfl) ?_
            refine DX.know (t := 110) (u := .agg (smC x0)) rfl rfl ?_
            refine DX.takeW 1 3 (by kernel_rfl) rfl rfl rfl rfl rfl (yw_move rfl rfl) ?_
            refine DX.takeW 2 7 (by kernel_rfl) rfl rfl rfl rfl rfl (yw_move rfl rfl) ?_
            refine DX.takeW 3 15 (by kernel_rfl) rfl rfl rfl rfl rfl (yw_index (k := i) rfl slt_22 rfl rfl (by omega) (by omega) hA) ?_
            refine DX.take 4 31 (by kernel_rfl) rfl rfl rfl rfl rfl (List.Sublist.refl _) (y_elem rfl rfl agg_24 hr (by simp) (map_get hx0)) ?_
            refine DX.takeW 5 63 (by kernel_rfl) rfl rfl rfl rfl rfl (yw_neqAgg (b := sameS x0 x0) rfl rfl rfl eqg_24 (fun w => eq_sm x0 x0 w)) ?_
            refine DX.know (t := 115) (u := .bool false) rfl (congrArg Value.bool (by rw [(sameS_iff x0 x0).2 rfl]; rfl)) ?_
            refine DX.done (by kernel_rfl) (XX.next (V' := [(1, _), (2, _), (9, _), (10, _), (11, _), (12, _), (115, _)]) ⟨rfl, rfl, rfl, rfl, rfl, rfl, rfl, trivial⟩ ?_)
            refine CX.condF rfl ?_
            refine CX.skip (XX.inBlock (V' := [(1, _), (2, _), (9, _), (10, _), (11, _), (12, _)]) ⟨rfl, rfl, rfl, rfl, rfl, rfl, trivial⟩ ?_)
            refine XX.next (V' := [(1, _), (2, _), (9, _), (10, _), (11, _), (12, _)]) ⟨rfl, rfl, rfl, rfl, rfl, rfl, trivial⟩ ?_
            refine CX.region ?_
            refine RX.cons rfl rfl (op_w (yw_move rfl rfl) rfl rfl ?_)
            refine RX.cons rfl rfl (op_w (yw_add rfl rfl rfl (by omega) (by omega)) rfl rfl ?_)
            refine RX.cons rfl rfl (op_w (yw_assign rfl rfl) rfl rfl ?_)
            refine RX.nil (XX.againP ([.blk g15 (.cells (#[.int .i64 (Sm.dev x0), .int .i64 (Sm.id x0), .int .i64 (Sm.acc x0), .int .i64 (Sm.song x0), .int .i64 (Sm.ter x0), .int .i64 (Sm.sec x0), .int .i64 (Sm.per x0), .int .i64 (Sm.ses x0), .int .i64 (Sm.mark x0)]) 24 (0, 0))]) (i + 1) (by omega) (by omega) ⟨rfl, rfl, rfl, rfl, rfl, rfl, trivial⟩ ((perm_pick 1 rfl).trans (List.Perm.cons _ ((perm_pick 1 rfl).trans (List.Perm.cons _ (List.Perm.refl _))))))
          · refine RX.skip rfl rfl rfl rfl rfl rfl rfl ?_
            refine RX.skip rfl rfl rfl rfl rfl rfl rfl ?_
            refine RX.skip rfl rfl rfl rfl rfl rfl rfl ?_
            refine RX.skip rfl rfl rfl rfl rfl rfl rfl ?_
            refine RX.skip rfl rfl rfl rfl rfl rfl rfl ?_
            refine RX.skip rfl rfl rfl rfl rfl rfl rfl ?_
            refine RX.consG rfl rfl rfl rfl rfl (op_w (yw_pickF rfl rfl rfl) rfl rfl ?_)
            refine RX.cons rfl rfl (op_w (yw_pickF rfl rfl rfl) rfl rfl ?_)
            refine RX.nil (XX.next (V' := [(1, _), (2, _), (9, _), (10, _), (11, _), (12, _), (99, _)]) ⟨rfl, rfl, rfl, rfl, rfl, rfl, rfl, trivial⟩ ?_)
            refine CX.condF rfl ?_
            refine CX.skip (XX.next (V' := [(1, _), (2, _), (9, _), (10, _), (11, _), (12, _)]) ⟨rfl, rfl, rfl, rfl, rfl, rfl, trivial⟩ ?_)
            refine CX.seq ?_
            refine CX.region ?_
            refine RX.cons rfl rfl (op_w (yw_move rfl rfl) rfl rfl ?_)
            refine RX.cons rfl rfl (op_w (yw_move rfl rfl) rfl rfl ?_)
            refine RX.cons rfl rfl (op_w (yw_index (k := i) rfl slt_22 rfl rfl (by omega) (by rw [applyS, List.length_map]; omega) hs1) rfl rfl ?_)
            refine RX.cons rfl rfl (op_yld (y_rowElem (i := 0) rfl rfl agg_24 rfl (map_get hox)) rfl rfl ?_)
            refine RX.cons rfl rfl (op_alloc rfl rfl rfl zero_24 fun g15 => ?_)
            refine RX.cons rfl rfl (op_storeAll (i := 0) rfl rfl rfl rfl szt_24 rfl (plain_of rfl) rfl rfl ?_)
            refine RX.nil (XX.next (V' := [(1, _), (2, _), (9, _), (10, _), (11, _), (12, _), (15, _)]) ⟨rfl, rfl, rfl, rfl, rfl, rfl, rfl, trivial⟩ ?_)
            refine CX.seq ?_
            refine CX.region ?_
            refine RX.cons rfl rfl (op_w (yw_move rfl rfl) rfl rfl ?_)
            refine RX.cons rfl rfl (op_w (yw_move rfl rfl) rfl rfl ?_)
            refine RX.cons rfl rfl (op_w (yw_index (k := i) rfl slt_22 rfl rfl (by omega) (by omega) hA) rfl rfl ?_)
            refine RX.cons rfl rfl (op_w (yw_fieldAddr rfl fld_24_8 rfl) rfl rfl ?_)
            refine RX.cons rfl rfl (op_yld (y_elemF rfl rfl one_3 hr (by simp) (map_get hx0) rfl) rfl rfl ?_)
            refine RX.cons rfl rfl (op_w (yw_fieldAddr rfl fld_24_8 rfl) rfl rfl ?_)
            refine RX.cons rfl rfl (op_store1 (i := 0) (cs' := #[.int .i64 (Sm.dev x0), .int .i64 (Sm.id x0), .int .i64 (Sm.acc x0), .int .i64 (Sm.song x0), .int .i64 (Sm.ter x0), .int .i64 (Sm.sec x0), .int .i64 (Sm.per x0), .int .i64 (Sm.ses x0), .int .i64 (Sm.mark x0)]) rfl rfl rfl rfl szt_3 rfl rfl rfl rfl ?_)
            refine RX.nil (XX.next (V' := [(1, _), (2, _), (9, _), (10, _), (11, _), (12, _), (15, _)]) ⟨rfl, rfl, rfl, rfl, rfl, rfl, rfl, trivial⟩ ?_)
            refine CX.seq ?_
            refine CX.draw 6 [(0, 32768, 1298074214633706907132624082305024), (0, 2, 2596148429267413814265248164610048), (0, 4096, 5192296858534827628530496329220096), (6, 7788445287802241442795744493830144, 10384593717069655257060992658440192), (8, 10384593717069655257060992658440192, 20769187434139310514121985316880384), (17, 22067261648773017421254609399185408, 41538374868278621028243970633760768)] (by kernel_rfl) (by kernel_rfl) (by kernel_rfl) ?_
            refine DX.take 0 1 (by kernel_rfl) rfl rfl rfl rfl rfl (List.Sublist.refl _) (y_loadA (i := 0) rfl rfl agg_24 rfl rfl) ?_
            refine DX.know (t := 110) (u := .agg (smC x0)) rfl rfl ?_
            refine DX.takeW 1 3 (by kernel_rfl) rfl rfl rfl rfl rfl (yw_move rfl rfl) ?_
            refine DX.takeW 2 7 (by kernel_rfl) rfl rfl rfl rfl rfl (yw_move rfl rfl) ?_
            refine DX.takeW 3 15 (by kernel_rfl) rfl rfl rfl rfl rfl (yw_index (k := i) rfl slt_22 rfl rfl (by omega) (by omega) hA) ?_
            refine DX.take 4 31 (by kernel_rfl) rfl rfl rfl rfl rfl (List.Sublist.refl _) (y_elem rfl rfl agg_24 hr (by simp) (map_get hx0)) ?_
            refine DX.takeW 5 63 (by kernel_rfl) rfl rfl rfl rfl rfl (yw_neqAgg (b := sameS x0 x0) rfl rfl rfl eqg_24 (fun w => eq_sm x0 x0 w)) ?_
            refine DX.know (t := 115) (u := .bool false) rfl (congrArg Value.bool (by rw [(sameS_iff x0 x0).2 rfl]; rfl)) ?_
            refine DX.done (by kernel_rfl) (XX.next (V' := [(1, _), (2, _), (9, _), (10, _), (11, _), (12, _), (115, _)]) ⟨rfl, rfl, rfl, rfl, rfl, rfl, rfl, trivial⟩ ?_)
            refine CX.condF rfl ?_
            refine CX.skip (XX.inBlock (V' := [(1, _), (2, _), (9, _), (10, _), (11, _), (12, _)]) ⟨rfl, rfl, rfl, rfl, rfl, rfl, trivial⟩ ?_)
            refine XX.next (V' := [(1, _), (2, _), (9, _), (10, _), (11, _), (12, _)]) ⟨rfl, rfl, rfl, rfl, rfl, rfl, trivial⟩ ?_
            refine CX.region ?_
            refine RX.cons rfl rfl (op_w (yw_move rfl rfl) rfl rfl ?_)
            refine RX.cons rfl rfl (op_w (yw_add rfl rfl rfl (by omega) (by omega)) rfl rfl ?_)
            refine RX.cons rfl rfl (op_w (yw_assign rfl rfl) rfl rfl ?_)
            refine RX.nil (XX.againP ([.blk g15 (.cells (#[.int .i64 (Sm.dev x0), .int .i64 (Sm.id x0), .int .i64 (Sm.acc x0), .int .i64 (Sm.song x0), .int .i64 (Sm.ter x0), .int .i64 (Sm.sec x0), .int .i64 (Sm.per x0), .int .i64 (Sm.ses x0), .int .i64 (Sm.mark x0)]) 24 (0, 0))]) (i + 1) (by omega) (by omega) ⟨rfl, rfl, rfl, rfl, rfl, rfl, trivial⟩ ((perm_pick 1 rfl).trans (List.Perm.cons _ ((perm_pick 1 rfl).trans (List.Perm.cons _ (List.Perm.refl _))))))
        · refine RX.skip rfl rfl rfl rfl rfl rfl rfl ?_
          refine RX.skip rfl rfl rfl rfl rfl rfl rfl ?_
          refine RX.skip rfl rfl rfl rfl rfl rfl rfl ?_
          refine RX.skip rfl rfl rfl rfl rfl rfl rfl ?_
          refine RX.skip rfl rfl rfl rfl rfl rfl rfl ?_
          refine RX.skip rfl rfl rfl rfl rfl rfl rfl ?_
          refine RX.skip rfl rfl rfl rfl rfl rfl rfl ?_
          refine RX.consG rfl rfl rfl rfl rfl (op_w (yw_pickF rfl rfl rfl) rfl rfl ?_)
          refine RX.consG rfl rfl rfl rfl rfl (op_w (yw_move rfl rfl) rfl rfl ?_)
          refine RX.skip rfl rfl rfl rfl rfl rfl rfl ?_
          refine RX.skip rfl rfl rfl rfl rfl rfl rfl ?_
          refine RX.skip rfl rfl rfl rfl rfl rfl rfl ?_
          refine RX.skip rfl rfl rfl rfl rfl rfl rfl ?_
          refine RX.skip rfl rfl rfl rfl rfl rfl rfl ?_
          refine RX.skip rfl rfl rfl rfl rfl rfl rfl ?_
          refine RX.consG rfl rfl rfl rfl rfl (op_w (yw_pickF rfl rfl rfl) rfl rfl ?_)
          refine RX.cons rfl rfl (op_w (yw_pickF rfl rfl rfl) rfl rfl ?_)
          refine RX.nil (XX.next (V' := [(1, _), (2, _), (9, _), (10, _), (11, _), (12, _), (99, _)]) ⟨rfl, rfl, rfl, rfl, rfl, rfl, rfl, trivial⟩ ?_)
          refine CX.condF rfl ?_
          refine CX.skip (XX.next (V' := [(1, _), (2, _), (9, _), (10, _), (11, _), (12, _)]) ⟨rfl, rfl, rfl, rfl, rfl, rfl, trivial⟩ ?_)
          refine CX.seq ?_
          refine CX.region ?_
          refine RX.cons rfl rfl (op_w (yw_move rfl rfl) rfl rfl ?_)
          refine RX.cons rfl rfl (op_w (yw_move rfl rfl) rfl rfl ?_)
          refine RX.cons rfl rfl (op_w (yw_index (k := i) rfl slt_22 rfl rfl (by omega) (by rw [applyS, List.length_map]; omega) hs1) rfl rfl ?_)
          refine RX.cons rfl rfl (op_yld (y_rowElem (i := 0) rfl rfl agg_24 rfl (map_get hox)) rfl rfl ?_)
          refine RX.cons rfl rfl (op_alloc rfl rfl rfl zero_24 fun g15 => ?_)
          refine RX.cons rfl rfl (op_storeAll (i := 0) rfl rfl rfl rfl szt_24 rfl (plain_of rfl) rfl rfl ?_)
          refine RX.nil (XX.next (V' := [(1, _), (2, _), (9, _), (10, _), (11, _), (12, _), (15, _)]) ⟨rfl, rfl, rfl, rfl, rfl, rfl, rfl, trivial⟩ ?_)
          refine CX.seq ?_
          refine CX.region ?_
          refine RX.cons rfl rfl (op_w (yw_move rfl rfl) rfl rfl ?_)
          refine RX.cons rfl rfl (op_w (yw_move rfl rfl) rfl rfl ?_)
          refine RX.cons rfl rfl (op_w (yw_index (k := i) rfl slt_22 rfl rfl (by omega) (by omega) hA) rfl rfl ?_)
          refine RX.cons rfl rfl (op_w (yw_fieldAddr rfl fld_24_8 rfl) rfl rfl ?_)
          refine RX.cons rfl rfl (op_yld (y_elemF rfl rfl one_3 hr (by simp) (map_get hx0) rfl) rfl rfl ?_)
          refine RX.cons rfl rfl (op_w (yw_fieldAddr rfl fld_24_8 rfl) rfl rfl ?_)
          refine RX.cons rfl rfl (op_store1 (i := 0) (cs' := #[.int .i64 (Sm.dev x0), .int .i64 (Sm.id x0), .int .i64 (Sm.acc x0), .int .i64 (Sm.song x0), .int .i64 (Sm.ter x0), .int .i64 (Sm.sec x0), .int .i64 (Sm.per x0), .int .i64 (Sm.ses x0), .int .i64 (Sm.mark x0)]) rfl rfl rfl rfl szt_3 rfl rfl rfl rfl ?_)
          refine RX.nil (XX.next (V' := [(1, _), (2, _), (9, _), (10, _), (11, _), (12, _), (15, _)]) ⟨rfl, rfl, rfl, rfl, rfl, rfl, rfl, trivial⟩ ?_)
          refine CX.seq ?_
          refine CX.draw 6 [(0, 32768, 1298074214633706907132624082305024), (0, 2, 2596148429267413814265248164610048), (0, 4096, 5192296858534827628530496329220096), (6, 7788445287802241442795744493830144, 10384593717069655257060992658440192), (8, 10384593717069655257060992658440192, 20769187434139310514121985316880384), (17, 22067261648773017421254609399185408, 41538374868278621028243970633760768)] (by kernel_rfl) (by kernel_rfl) (by kernel_rfl) ?_
          refine DX.take 0 1 (by kernel_rfl) rfl rfl rfl rfl rfl (List.Sublist.refl _) (y_loadA (i := 0) rfl rfl agg_24 rfl rfl) ?_
          refine DX.know (t := 110) (u := .agg (smC x0)) rfl rfl ?_
          refine DX.takeW 1 3 (by kernel_rfl) rfl rfl rfl rfl rfl (yw_move rfl rfl) ?_
          refine DX.takeW 2 7 (by kernel_rfl) rfl rfl rfl rfl rfl (yw_move rfl rfl) ?_
          refine DX.takeW 3 15 (by kernel_rfl) rfl rfl rfl rfl rfl (yw_index (k := i) rfl slt_22 rfl rfl (by omega) (by omega) hA) ?_
          refine DX.take 4 31 (by kernel_rfl) rfl rfl rfl rfl rfl (List.Sublist.refl _) (y_elem rfl rfl agg_24 hr (by simp) (map_get hx0)) ?_
          refine DX.takeW 5 63 (by kernel_rfl) rfl rfl rfl rfl rfl (yw_neqAgg (b := sameS x0 x0) rfl rfl rfl eqg_24 (fun w => eq_sm x0 x0 w)) ?_
          refine DX.know (t := 115) (u := .bool false) rfl (congrArg Value.bool (by rw [(sameS_iff x0 x0).2 rfl]; rfl)) ?_
          refine DX.done (by kernel_rfl) (XX.next (V' := [(1, _), (2, _), (9, _), (10, _), (11, _), (12, _), (115, _)]) ⟨rfl, rfl, rfl, rfl, rfl, rfl, rfl, trivial⟩ ?_)
          refine CX.condF rfl ?_
          refine CX.skip (XX.inBlock (V' := [(1, _), (2, _), (9, _), (10, _), (11, _), (12, _)]) ⟨rfl, rfl, rfl, rfl, rfl, rfl, trivial⟩ ?_)
          refine XX.next (V' := [(1, _), (2, _), (9, _), (10, _), (11, _), (12, _)]) ⟨rfl, rfl, rfl, rfl, rfl, rfl, trivial⟩ ?_
          refine CX.region ?_
          refine RX.cons rfl rfl (op_w (yw_move rfl rfl) rfl rfl ?_)
          refine RX.cons rfl rfl (op_w (yw_add rfl rfl rfl (by omega) (by omega)) rfl rfl ?_)
          refine RX.cons rfl rfl (op_w (yw_assign rfl rfl) rfl rfl ?_)
          refine RX.nil (XX.againP ([.blk g15 (.cells (#[.int .i64 (Sm.dev x0), .int .i64 (Sm.id x0), .int .i64 (Sm.acc x0), .int .i64 (Sm.song x0), .int .i64 (Sm.ter x0), .int .i64 (Sm.sec x0), .int .i64 (Sm.per x0), .int .i64 (Sm.ses x0), .int .i64 (Sm.mark x0)]) 24 (0, 0))]) (i + 1) (by omega) (by omega) ⟨rfl, rfl, rfl, rfl, rfl, rfl, trivial⟩ ((perm_pick 1 rfl).trans (List.Perm.cons _ ((perm_pick 1 rfl).trans (List.Perm.cons _ (List.Perm.refl _))))))
    · refine RX.skip rfl rfl rfl rfl rfl rfl rfl ?_
      refine RX.skip rfl rfl rfl rfl rfl rfl rfl ?_
      refine RX.cons rfl rfl (op_w (yw_pickF rfl rfl rfl) rfl rfl ?_)
      refine RX.cons rfl rfl (op_w (yw_assign rfl rfl) rfl rfl ?_)
      refine RX.nil (XX.next (V' := [(1, _), (2, _), (9, _), (10, _), (11, _), (12, _), (13, _), (14, _)]) ⟨rfl, rfl, rfl, rfl, rfl, rfl, rfl, rfl, trivial⟩ ?_)
      refine CX.seq ?_
      refine CX.seq ?_
      refine CX.region ?_
      refine RX.cons rfl rfl (op_w (yw_move rfl rfl) rfl rfl ?_)
      refine RX.cons rfl rfl (op_w (yw_move rfl rfl) rfl rfl ?_)
      refine RX.skip rfl rfl rfl rfl rfl rfl rfl ?_
      refine RX.skip rfl rfl rfl rfl rfl rfl rfl ?_
      refine RX.skip rfl rfl rfl rfl rfl rfl rfl ?_
      refine RX.skip rfl rfl rfl rfl rfl rfl rfl ?_
      refine RX.skip rfl rfl rfl rfl rfl rfl rfl ?_
      refine RX.skip rfl rfl rfl rfl rfl rfl rfl ?_
      refine RX.skip rfl rfl rfl rfl rfl rfl rfl ?_
      refine RX.cons rfl rfl (op_w (yw_pickF rfl rfl rfl) rfl rfl ?_)
      refine RX.cons rfl rfl (op_w (yw_move rfl rfl) rfl rfl ?_)
      refine RX.consG rfl rfl rfl rfl rfl (op_w (yw_move rfl rfl) rfl rfl ?_)
      refine RX.consG rfl rfl rfl rfl rfl (op_w (yw_not rfl rfl) rfl rfl ?_)
      refine RX.consG rfl rfl rfl rfl rfl (op_w (yw_move rfl rfl) rfl rfl ?_)
      refine RX.consG rfl rfl rfl rfl rfl (op_w (yw_move rfl rfl) rfl rfl ?_)
      refine RX.consG rfl rfl rfl rfl rfl (op_w (yw_move rfl rfl) rfl rfl ?_)
      refine RX.consG rfl rfl rfl rfl rfl (op_w (yw_index (k := i) rfl slt_22 rfl rfl (by omega) (by omega) hA) rfl rfl ?_)
      refine RX.consG rfl rfl rfl rfl rfl (op_w (yw_fieldAddr rfl fld_24_2 rfl) rfl rfl ?_)
      refine RX.consG rfl rfl rfl rfl rfl (op_yld (y_elemF rfl rfl one_3 hr (by simp) (map_get hx0) rfl) rfl rfl ?_)
      refine RX.consG rfl rfl rfl rfl rfl (op_w (yw_move rfl rfl) rfl rfl ?_)
      refine RX.consG rfl rfl rfl rfl rfl (op_w (yw_eql rfl rfl rfl) rfl rfl ?_)
      refine RX.consG rfl rfl rfl rfl rfl (op_w (yw_pickT rfl rfl rfl) rfl rfl ?_)
      refine RX.consG rfl rfl rfl rfl rfl (op_w (yw_move rfl rfl) rfl rfl ?_)
      refine RX.splitD (t := 91) (p := Sm.acc x0 = ac) rfl (fun d91 => ?_) (fun d91 => ?_)
      · refine RX.consG rfl rfl rfl rfl rfl (op_w (yw_move rfl rfl) rfl rfl ?_)
        refine RX.consG rfl rfl rfl rfl rfl (op_w (yw_move rfl rfl) rfl rfl ?_)
        refine RX.consG rfl rfl rfl rfl rfl (op_w (yw_index (k := i) rfl slt_22 rfl rfl (by omega) (by rw [applyS, List.length_map]; omega) hs1) rfl rfl ?_)
        refine RX.consG rfl rfl rfl rfl rfl (op_w (yw_fieldAddr rfl fld_24_8 rfl) rfl rfl ?_)
        refine RX.consG rfl rfl rfl rfl rfl (op_yld (y_rowElemF (i := 0) rfl rfl one_3 rfl (map_get hox) rfl) rfl rfl ?_)
        refine RX.consG rfl rfl rfl rfl rfl (op_w (yw_neq rfl rfl rfl) rfl rfl ?_)
        refine RX.know (t := 97) (u := .bool false) rfl (congrArg Value.bool (decide_eq_false (fun h => h ((q2 (by omega)).trans (q3 (by omega)))))) ?_
        refine RX.consG rfl rfl rfl rfl rfl (op_w (yw_pickT rfl rfl rfl) rfl rfl ?_)
        refine RX.cons rfl rfl (op_w (yw_pickF rfl rfl rfl) rfl rfl ?_)
        refine RX.nil (XX.next (V' := [(1, _), (2, _), (9, _), (10, _), (11, _), (12, _), (99, _)]) ⟨rfl, rfl, rfl, rfl, rfl, rfl, rfl, trivial⟩ ?_)
        refine CX.condF rfl ?_
        refine CX.skip (XX.next (V' := [(1, _), (2, _), (9, _), (10, _), (11, _), (12, _)]) ⟨rfl, rfl, rfl, rfl, rfl, rfl, trivial⟩ ?_)
        refine CX.seq ?_
        refine CX.region ?_
        refine RX.cons rfl rfl (op_w (yw_move rfl rfl) rfl rfl ?_)
        refine RX.cons rfl rfl (op_w (yw_move rfl rfl) rfl rfl ?_)
        refine RX.cons rfl rfl (op_w (yw_index (k := i) rfl slt_22 rfl rfl (by omega) (by rw [applyS, List.length_map]; omega) hs1) rfl rfl ?_)
        refine RX.cons rfl rfl (op_yld (y_rowElem (i := 0) rfl rfl agg_24 rfl (map_get hox)) rfl rfl ?_)
        refine RX.cons rfl rfl (op_alloc rfl rfl rfl zero_24 fun g15 => ?_)
        refine RX.cons rfl rfl (op_storeAll (i := 0) rfl rfl rfl rfl szt_24 rfl (plain_of rfl) rfl rfl ?_)
        refine RX.nil (XX.next (V' := [(1, _), (2, _), (9, _), (10, _), (11, _), (12, _), (15, _)]) ⟨rfl, rfl, rfl, rfl, rfl, rfl, rfl, trivial⟩ ?_)
        refine CX.seq ?_
        refine CX.region ?_
        refine RX.cons rfl rfl (op_w (yw_move rfl rfl) rfl rfl ?_)
        refine RX.cons rfl rfl (op_w (yw_move rfl rfl) rfl rfl ?_)
        refine RX.cons rfl rfl (op_w (yw_index (k := i) rfl slt_22 rfl rfl (by omega) (by omega) hA) rfl rfl ?_)
        refine RX.cons rfl rfl (op_w (yw_fieldAddr rfl fld_24_8 rfl) rfl rfl ?_)
        refine RX.cons rfl rfl (op_yld (y_elemF rfl rfl one_3 hr (by simp) (map_get hx0) rfl) rfl rfl ?_)
        refine RX.cons rfl rfl (op_w (yw_fieldAddr rfl fld_24_8 rfl) rfl rfl ?_)
        refine RX.cons rfl rfl (op_store1 (i := 0) (cs' := #[.int .i64 (Sm.dev x0), .int .i64 (Sm.id x0), .int .i64 (Sm.acc x0), .int .i64 (Sm.song x0), .int .i64 (Sm.ter x0), .int .i64 (Sm.sec x0), .int .i64 (Sm.per x0), .int .i64 (Sm.ses x0), .int .i64 (Sm.mark x0)]) rfl rfl rfl rfl szt_3 rfl rfl rfl rfl ?_)
        refine RX.nil (XX.next (V' := [(1, _), (2, _), (9, _), (10, _), (11, _), (12, _), (15, _)]) ⟨rfl, rfl, rfl, rfl, rfl, rfl, rfl, trivial⟩ ?_)
        refine CX.seq ?_
        refine CX.draw 6 [(0, 32768, 1298074214633706907132624082305024), (0, 2, 2596148429267413814265248164610048), (0, 4096, 5192296858534827628530496329220096), (6, 7788445287802241442795744493830144, 10384593717069655257060992658440192), (8, 10384593717069655257060992658440192, 20769187434139310514121985316880384), (17, 22067261648773017421254609399185408, 41538374868278621028243970633760768)] (by kernel_rfl) (by kernel_rfl) (by kernel_rfl) ?_
        refine DX.take 0 1 (by kernel_rfl) rfl rfl rfl rfl rfl (List.Sublist.refl _) (y_loadA (i := 0) rfl rfl agg_24 rfl rfl) ?_
        refine DX.know (t := 110) (u := .agg (smC x0)) rfl rfl ?_
        refine DX.takeW 1 3 (by kernel_rfl) rfl rfl rfl rfl rfl (yw_move rfl rfl) ?_
        refine DX.takeW 2 7 (by kernel_rfl) rfl rfl rfl rfl rfl (yw_move rfl rfl) ?_
        refine DX.takeW 3 15 (by kernel_rfl) rfl rfl rfl rfl rfl (yw_index (k := i) rfl slt_22 rfl rfl (by omega) (by omega) hA) ?_
        refine DX.take 4 31 (by kernel_rfl) rfl rfl rfl rfl rfl (List.Sublist.refl _) (y_elem rfl rfl agg_24 hr (by simp) (map_get hx0)) ?_
        refine DX.takeW 5 63 (by kernel_rfl) rfl rfl rfl rfl rfl (yw_neqAgg (b := sameS x0 x0) rfl rfl rfl eqg_24 (fun w => eq_sm x0 x0 w)) ?_
        refine DX.know (t := 115) (u := .bool false) rfl (congrArg Value.bool (by rw [(sameS_iff x0 x0).2 rfl]; rfl)) ?_
        refine DX.done (by kernel_rfl) (XX.next (V' := [(1, _), (2, _), (9, _), (10, _), (11, _), (12, _), (115, _)]) ⟨rfl, rfl, rfl, rfl, rfl, rfl, rfl, trivial⟩ ?_)
        refine CX.condF rfl ?_
        refine CX.skip (XX.inBlock (V' := [(1, _), (2, _), (9, _), (10, _), (11, _), (12, _)]) ⟨rfl, rfl, rfl, rfl, rfl, rfl, trivial⟩ ?_)
        refine XX.next (V' := [(1, _), (2, _), (9, _), (10, _), (11, _), (12, _)]) ⟨rfl, rfl, rfl, rfl, rfl, rfl, trivial⟩ ?_
        refine CX.region ?_
        refine RX.cons rfl rfl (op_w (yw_move rfl rfl) rfl rfl ?_)
        refine RX.cons rfl rfl (op_w (yw_add rfl rfl rfl (by omega) (by omega)) rfl rfl ?_)
        refine RX.cons rfl rfl (op_w (yw_assign rfl rfl) rfl rfl ?_)
        refine RX.nil (XX.againP ([.blk g15 (.cells (#[.int .i64 (Sm.dev x0), .int .i64 (Sm.id x0), .int .i64 (Sm.acc x0), .int .i64 (Sm.song x0), .int .i64 (Sm.ter x0), .int .i64 (Sm.sec x0), .int .i64 (Sm.per x0), .int .i64 (Sm.ses x0), .int .i64 (Sm.mark x0)]) 24 (0, 0))]) (i + 1) (by omega) (by omega) ⟨rfl, rfl, rfl, rfl, rfl, rfl, trivial⟩ ((perm_pick 1 rfl).trans (List.Perm.cons _ ((perm_pick 1 rfl).trans (List.Perm.cons _ (List.Perm.refl _))))))
      · refine RX.skip rfl rfl rfl rfl rfl rfl rfl ?_
        refine RX.skip rfl rfl rfl rfl rfl rfl rfl ?_
        refine RX.skip rfl rfl rfl rfl rfl rfl rfl ?_
        refine RX.skip rfl rfl rfl rfl rfl rfl rfl ?_
        refine RX.skip rfl rfl rfl rfl rfl rfl rfl ?_
        refine RX.skip rfl rfl rfl rfl rfl rfl rfl ?_
        refine RX.consG rfl rfl rfl rfl rfl (op_w (yw_pickF rfl rfl rfl) rfl rfl ?_)
        refine RX.cons rfl rfl (op_w (yw_pickF rfl rfl rfl) rfl rfl ?_)
        refine RX.nil (XX.next (V' := [(1, _), (2, _), (9, _), (10, _), (11, _), (12, _), (99, _)]) ⟨rfl, rfl, rfl, rfl, rfl, rfl, rfl, trivial⟩ ?_)
        refine CX.condF rfl ?_
        refine CX.skip (XX.next (V' := [(1, _), (2, _), (9, _), (10, _), (11, _), (12, _)]) ⟨rfl, rfl, rfl, rfl, rfl, rfl, trivial⟩ ?_)
        refine CX.seq ?_
        refine CX.region ?_
        refine RX.cons rfl rfl (op_w (yw_move rfl rfl) rfl rfl ?_)
        refine RX.cons rfl rfl (op_w (yw_move rfl rfl) rfl rfl ?_)
        refine RX.cons rfl rfl (op_w (yw_index (k := i) rfl slt_22 rfl rfl (by omega) (by rw [applyS, List.length_map]; omega) hs1) rfl rfl ?_)
        refine RX.cons rfl rfl (op_yld (y_rowElem (i := 0) rfl rfl agg_24 rfl (map_get hox)) rfl rfl ?_)
        refine RX.cons rfl rfl (op_alloc rfl rfl rfl zero_24 fun g15 => ?_)
        refine RX.cons rfl rfl (op_storeAll (i := 0) rfl rfl rfl rfl szt_24 rfl (plain_of rfl) rfl rfl ?_)
        refine RX.nil (XX.next (V' := [(1, _), (2, _), (9, _), (10, _), (11, _), (12, _), (15, _)]) ⟨rfl, rfl, rfl, rfl, rfl, rfl, rfl, trivial⟩ ?_)
        refine CX.seq ?_
        refine CX.region ?_
        refine RX.cons rfl rfl (op_w (yw_move rfl rfl) rfl rfl ?_)
        refine RX.cons rfl rfl (op_w (yw_move rfl rfl) rfl rfl ?_)
        refine RX.cons rfl rfl (op_w (yw_index (k := i) rfl slt_22 rfl rfl (by omega) (by omega) hA) rfl rfl ?_)
        refine RX.cons rfl rfl (op_w (yw_fieldAddr rfl fld_24_8 rfl) rfl rfl ?_)
        refine RX.cons rfl rfl (op_yld (y_elemF rfl rfl one_3 hr (by simp) (map_get hx0) rfl) rfl rfl ?_)
        refine RX.cons rfl rfl (op_w (yw_fieldAddr rfl fld_24_8 rfl) rfl rfl ?_)
        refine RX.cons rfl rfl (op_store1 (i := 0) (cs' := #[.int .i64 (Sm.dev x0), .int .i64 (Sm.id x0), .int .i64 (Sm.acc x0), .int .i64 (Sm.song x0), .int .i64 (Sm.ter x0), .int .i64 (Sm.sec x0), .int .i64 (Sm.per x0), .int .i64 (Sm.ses x0), .int .i64 (Sm.mark x0)]) rfl rfl rfl rfl szt_3 rfl rfl rfl rfl ?_)
        refine RX.nil (XX.next (V' := [(1, _), (2, _), (9, _), (10, _), (11, _), (12, _), (15, _)]) ⟨rfl, rfl, rfl, rfl, rfl, rfl, rfl, trivial⟩ ?_)
        refine CX.seq ?_
        refine CX.draw 6 [(0, 32768, 1298074214633706907132624082305024), (0, 2, 2596148429267413814265248164610048), (0, 4096, 5192296858534827628530496329220096), (6, 7788445287802241442795744493830144, 10384593717069655257060992658440192), (8, 10384593717069655257060992658440192, 20769187434139310514121985316880384), (17, 22067261648773017421254609399185408, 41538374868278621028243970633760768)] (by kernel_rfl) (by kernel_rfl) (by kernel_rfl) ?_
        refine DX.take 0 1 (by kernel_rfl) rfl rfl rfl rfl rfl (List.Sublist.refl _) (y_loadA (i := 0) rfl rfl agg_24 rfl rfl) ?_
        refine DX.know (t := 110) (u := .agg (smC x0)) rfl rfl ?_
        refine DX.takeW 1 3 (by kernel_rfl) rfl rfl rfl rfl rfl (yw_move rfl rfl) ?_
        refine DX.takeW 2 7 (by kernel_rfl) rfl rfl rfl rfl rfl (yw_move rfl rfl) ?_
        refine DX.takeW 3 15 (by kernel_rfl) rfl rfl rfl rfl rfl (yw_index (k := i) rfl slt_22 rfl rfl (by omega) (by omega) hA) ?_
        refine DX.take 4 31 (by kernel_rfl) rfl rfl rfl rfl rfl (List.Sublist.refl _) (y_elem rfl rfl agg_24 hr (by simp) (map_get hx0)) ?_
        refine DX.takeW 5 63 (by kernel_rfl) rfl rfl rfl rfl rfl (yw_neqAgg (b := sameS x0 x0) rfl rfl rfl eqg_24 (fun w => eq_sm x0 x0 w)) ?_
        refine DX.know (t := 115) (u := .bool false) rfl (congrArg Value.bool (by rw [(sameS_iff x0 x0).2 rfl]; rfl)) ?_
        refine DX.done (by kernel_rfl) (XX.next (V' := [(1, _), (2, _), (9, _), (10, _), (11, _), (12, _), (115, _)]) ⟨rfl, rfl, rfl, rfl, rfl, rfl, rfl, trivial⟩ ?_)
        refine CX.condF rfl ?_
        refine CX.skip (XX.inBlock (V' := [(1, _), (2, _), (9, _), (10, _), (11, _), (12, _)]) ⟨rfl, rfl, rfl, rfl, rfl, rfl, trivial⟩ ?_)
        refine XX.next (V' := [(1, _), (2, _), (9, _), (10, _), (11, _), (12, _)]) ⟨rfl, rfl, rfl, rfl, rfl, rfl, trivial⟩ ?_
        refine CX.region ?_
        refine RX.cons rfl rfl (op_w (yw_move rfl rfl) rfl rfl ?_)
        refine RX.cons rfl rfl (op_w (yw_add rfl rfl rfl (by omega) (by omega)) rfl rfl ?_)
        refine RX.cons rfl rfl (op_w (yw_assign rfl rfl) rfl rfl ?_)
        refine RX.nil (XX.againP ([.blk g15 (.cells (#[.int .i64 (Sm.dev x0), .int .i64 (Sm.id x0), .int .i64 (Sm.acc x0), .int .i64 (Sm.song x0), .int .i64 (Sm.ter x0), .int .i64 (Sm.sec x0), .int .i64 (Sm.per x0), .int .i64 (Sm.ses x0), .int .i64 (Sm.mark x0)]) 24 (0, 0))]) (i + 1) (by omega) (by omega) ⟨rfl, rfl, rfl, rfl, rfl, rfl, trivial⟩ ((perm_pick 1 rfl).trans (List.Perm.cons _ ((perm_pick 1 rfl).trans (List.Perm.cons _ (List.Perm.refl _))))))
  · refine CX.exit ?_
    refine XX.then_exit ?_
    refine XX.then_exit ?_
    refine XX.block_exit ?_
    refine XX.next (V' := [(9, _)]) ⟨rfl, trivial⟩ ?_
    refine CX.seq ?_
    refine CX.region ?_
    refine RX.cons rfl rfl (op_w (yw_move rfl rfl) rfl rfl ?_)
    refine RX.cons rfl rfl (op_w (yw_assign rfl rfl) rfl rfl ?_)
    refine RX.nil (XX.next (V' := [(8, .bool true)]) ⟨rfl, trivial⟩ ?_)
    refine CX.ret ?_
    exact ret_tmp rfl rfl fun w1 hw => ⟨rfl, hw.sub (List.nil_sublist _)⟩

end Go.Proofs.Ytpcfgoadkfajfaa
