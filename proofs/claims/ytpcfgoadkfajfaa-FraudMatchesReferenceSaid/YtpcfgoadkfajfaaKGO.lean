/- Walks, printed by a program. -/
import Derived.Test.YtpcfgoadkfajfaaKGN
namespace Go.Proofs.Ytpcfgoadkfajfaa
set_option linter.all false
open Go Go.RowKit
set_option maxRecDepth 100000
theorem ent_17 : ∀ args w, (callFunc 17 args).run Try.prog w = .ok (.enter 17 args) w := enters_of Try.func17 (by kernel_rfl) rfl
theorem zero_34 : Zero Try.prog 34 (.agg (#[.slice none 0 0, .slice none 0 0, .slice none 0 0, .slice none 0 0, .slice none 0 0, .slice none 0 0, .slice none 0 0, .slice none 0 0, .slice none 0 0, .slice none 0 0])) := ⟨(Try.prog.info? 34).get!, by kernel_rfl, by kernel_rfl⟩
theorem szt_34 : SzT Try.prog 34 10 := ⟨(Try.prog.info? 34).get!, by kernel_rfl, by kernel_rfl⟩
theorem ent_23 : ∀ args w, (callFunc 23 args).run Try.prog w = .ok (.enter 23 args) w := enters_of Try.func23 (by kernel_rfl) rfl
theorem ent_21 : ∀ args w, (callFunc 21 args).run Try.prog w = .ok (.enter 21 args) w := enters_of Try.func21 (by kernel_rfl) rfl
set_option maxRecDepth 100000 in
theorem w_lawMR {w : World} {AR : Option Addr} {capR : Nat} (rs0 : List Ru) (hrR0 : Rd w AR 4 (rs0.map ruC)) (hcR : rs0.length ≤ capR) (h8R : rs0.length ≤ 9223372036854775807) {A : Option Addr} {cap : Nat} (ls0 : List Sm) (hr0 : Rd w A 9 (ls0.map smC)) (hc0 : ls0.length ≤ cap) (h80 : ls0.length ≤ 9223372036854775807) {AM : Option Addr} {capM : Nat} (fs0 : List Fc) (hrM0 : Rd w AM 18 (fs0.map fcC)) (hcM : fs0.length ≤ capM) (h8M : fs0.length ≤ 9223372036854775807) :
    Calls Try.prog 4 #[.slice AR rs0.length capR, .slice A ls0.length cap, .slice AM fs0.length capM] w (fun e w' => e = .returned (.bool true) ∧ SL w [] w' []) := by
  obtain ⟨rs, hrs⟩ : ∃ rs, rs = rs0.take 12 := ⟨_, rfl⟩
  have hrR : Rd w AR 4 (rs.map ruC) := by rw [hrs]; exact hrR0.takeM 12
  have hminR : min rs0.length 12 = rs.length := by rw [hrs, List.length_take]; omega
  have hr12 : rs.length ≤ 12 := by omega
  have hlR : rs.length ≤ 1000000 := by omega
  obtain ⟨ls, hls⟩ : ∃ ls, ls = ls0.take 40 := ⟨_, rfl⟩
  have hr : Rd w A 9 (ls.map smC) := by rw [hls]; exact hr0.takeM 40
  have hmin : min ls0.length 40 = ls.length := by rw [hls, List.length_take]; omega
  have hl40 : ls.length ≤ 40 := by omega
  have hl : ls.length ≤ 100000 := by omega
  obtain ⟨fs, hfs⟩ : ∃ fs, fs = fs0.take 40 := ⟨_, rfl⟩
  have hrM : Rd w AM 18 (fs.map fcC) := by rw [hfs]; exact hrM0.takeM 40
  have hminM : min fs0.length 40 = fs.length := by rw [hfs, List.length_take]; omega
  have hlM : fs.length ≤ 1000000 := by omega
  refine calls_of_CX (O := []) (L := []) (args := [.slice AR rs0.length capR, .slice A ls0.length cap, .slice AM fs0.length capM]) Try.func4 rfl (by simp [Try.ntmps4]) (SL.refl w) ?_
  refine CX.sub (V' := [(0, .slice AR rs0.length capR), (1, .slice A ls0.length cap), (2, .slice AM fs0.length capM)]) ⟨rfl, rfl, rfl, trivial⟩ ?_
  refine CX.seq ?_
  refine CX.region ?_
  refine RX.cons rfl rfl (op_w (yw_assign rfl rfl) rfl rfl ?_)
  refine RX.nil (XX.next (V' := [(0, _), (1, _), (2, _)]) ⟨rfl, rfl, rfl, trivial⟩ ?_)
  refine CX.seq ?_
  refine CX.region ?_
  refine RX.cons rfl rfl (op_callV (v := .bool true) rfl rfl rfl rfl rfl ent_12 (fun w hw => w_sane) ?_)
  refine RX.cons rfl rfl (op_w (yw_assign rfl rfl) rfl rfl ?_)
  refine RX.nil (XX.next (V' := [(0, _), (1, _), (2, _), (7, _)]) ⟨rfl, rfl, rfl, rfl, trivial⟩ ?_)
  refine CX.seq ?_
  refine CX.region ?_
  refine RX.cons rfl rfl (op_w (yw_move rfl rfl) rfl rfl ?_)
  refine RX.cons rfl rfl (op_callV (v := .slice AR rs.length capR) rfl rfl rfl rfl rfl ent_17 (fun w hw => w_shortE rs0.length hminR hcR h8R) ?_)
  refine RX.cons rfl rfl (op_w (yw_assign rfl rfl) rfl rfl ?_)
  refine RX.nil (XX.next (V' := [(0, _), (1, _), (2, _), (7, _)]) ⟨rfl, rfl, rfl, rfl, trivial⟩ ?_)
  refine CX.seq ?_
  refine CX.region ?_
  refine RX.cons rfl rfl (op_w (yw_move rfl rfl) rfl rfl ?_)
  refine RX.cons rfl rfl (op_callV (v := .slice A ls.length cap) rfl rfl rfl rfl rfl ent_13 (fun w hw => w_fewE ls0.length hmin hc0 h80) ?_)
  refine RX.cons rfl rfl (op_w (yw_assign rfl rfl) rfl rfl ?_)
  refine RX.nil (XX.next (V' := [(0, _), (1, _), (2, _), (7, _)]) ⟨rfl, rfl, rfl, rfl, trivial⟩ ?_)
  refine CX.seq ?_
  refine CX.region ?_
  refine RX.cons rfl rfl (op_w (yw_move rfl rfl) rfl rfl ?_)
  refine RX.cons rfl rfl (op_w (yw_move rfl rfl) rfl rfl ?_)
  refine RX.cons rfl rfl (op_w (yw_lenS rfl Try.underlying31 rfl) rfl rfl ?_)
  refine RX.cons rfl rfl (op_w (yw_min rfl rfl rfl) rfl rfl ?_)
  refine RX.know (t := 17) (u := .int .i64 ((fs.length : Nat) : Int)) rfl (congrArg (Value.int .i64) (by omega)) ?_
  refine RX.cons rfl rfl (op_w (yw_sliceTo (k := fs.length) rfl slt_31 rfl rfl (by omega) (by omega)) rfl rfl ?_)
  refine RX.cons rfl rfl (op_w (yw_build (v := .agg (#[.slice none 0 0, .slice AM fs.length capM, .slice none 0 0, .slice none 0 0, .slice none 0 0, .slice none 0 0, .slice none 0 0, .slice none 0 0, .slice none 0 0, .slice none 0 0])) rfl rfl (fun _ => by kernel_rfl)) rfl rfl ?_)
  refine RX.cons rfl rfl (op_alloc rfl rfl rfl zero_34 fun g8 => ?_)
  refine RX.cons rfl rfl (op_storeAll (i := 0) rfl rfl rfl rfl szt_34 rfl (plain_of rfl) rfl rfl ?_)
  refine RX.nil (XX.next (V' := [(0, _), (1, _), (7, _), (8, _)]) ⟨rfl, rfl, rfl, rfl, trivial⟩ ?_)
  refine CX.seq ?_
  refine CX.drawL 22 ([.blk g8 (.cells (#[.slice none 0 0, .slice AM fs.length capM, .slice none 0 0, .slice none 0 0, .slice none 0 0, .slice none 0 0, .slice none 0 0, .slice none 0 0, .slice none 0 0, .slice none 0 0]) 34 (0, 0))]) [(0, 128, 1048576), (1, 1048576, 2097152), (2, 2097153, 4194304), (2, 2097154, 8388608), (14, 14680064, 16777216), (2, 2097153, 33554432), (2, 2097154, 67108864), (114, 102760448, 134217728), (146, 153092096, 268435456), (258, 270532608, 536870912), (768, 536870912, 1073741824), (1024, 1073742080, 2147483648), (1024, 1073741825, 4294967296), (1024, 1073741826, 8589934592), (15360, 16106127360, 17179869184), (1024, 1073742080, 34359738368), (1024, 1073741825, 68719476736), (1024, 1073741826, 137438953472), (246784, 241591910400, 274877906944), (279552, 293131517952, 549755813888), (525312, 550829555712, 1099511627776), (2097151, 1099511627776, 64)] (by kernel_rfl) (by kernel_rfl) (by kernel_rfl) ?_
  refine DX.takeW 0 1 (by kernel_rfl) rfl rfl rfl rfl rfl (yw_move rfl rfl) ?_
  refine DX.takeW 1 3 (by kernel_rfl) rfl rfl rfl rfl rfl (yw_move rfl rfl) ?_
  refine DX.takeWG 2 7 (by kernel_rfl) rfl rfl rfl rfl rfl rfl rfl rfl (yw_move rfl rfl) ?_
  refine DX.takeWG 3 15 (by kernel_rfl) rfl rfl rfl rfl rfl rfl rfl rfl (yw_move rfl rfl) ?_
  refine DX.takeWG 5 47 (by kernel_rfl) rfl rfl rfl rfl rfl rfl rfl rfl (yw_move rfl rfl) ?_
  refine DX.takeWG 6 111 (by kernel_rfl) rfl rfl rfl rfl rfl rfl rfl rfl (yw_move rfl rfl) ?_
  refine DX.stepG 4 127 (by kernel_rfl) rfl rfl rfl rfl rfl rfl (op_callE rfl rfl rfl rfl rfl ent_19 (fun w hw => w_Judge rs ls (hw.rd hrR (by simp)) (hw.rd hr (by simp)) (by omega) (by omega)) (fun ⟨A1, c1⟩ _ => (DXs.mk (List.Sublist.cons _ (List.Sublist.refl _)) ?_)))
  refine DX.stepG 7 255 (by kernel_rfl) rfl rfl rfl rfl rfl rfl (op_callE rfl rfl rfl rfl rfl ent_20 (fun w hw => w_Judge11 rs ls (hw.rd hrR (by simp)) (hw.rd hr (by simp)) (by omega) (by omega)) (fun ⟨A2, c2⟩ _ => (DXs.mk (List.Sublist.cons _ (List.Sublist.cons _ (List.Sublist.refl _))) ?_)))
  refine DX.stepG 8 511 (by kernel_rfl) rfl rfl rfl rfl rfl rfl (op_callV (v := .bool (decide ((List.map (jud rs ls) ls) = (List.map (jud rs ls) ls)))) rfl rfl rfl rfl rfl ent_18 (fun w hw => w_sameInts (List.map (jud rs ls) ls) (List.map (jud rs ls) ls) (Ent.rd (hw.ents _ (List.mem_of_getElem? (i := 1) rfl))) (Ent.rd (hw.ents _ (List.mem_of_getElem? (i := 0) rfl))) (by rw [List.length_map]; omega)) (DXs.mk (List.Sublist.cons _ (List.Sublist.cons _ (List.Sublist.refl _))) ?_))
  refine DX.know (t := 28) (u := .bool true) rfl (congrArg Value.bool (decide_eq_true rfl)) ?_
  refine DX.takeW 9 1023 (by kernel_rfl) rfl rfl rfl rfl rfl (yw_pickT rfl rfl rfl) ?_
  refine DX.takeW 10 2047 (by kernel_rfl) rfl rfl rfl rfl rfl (yw_move rfl rfl) ?_
  refine DX.takeG 11 4095 (by kernel_rfl) rfl rfl rfl rfl rfl rfl rfl rfl (List.Sublist.cons _ (List.Sublist.cons _ (List.Sublist.refl _))) (y_loadA (i := 0) rfl rfl agg_34 rfl rfl) ?_
  refine DX.takeWG 12 8191 (by kernel_rfl) rfl rfl rfl rfl rfl rfl rfl rfl (yw_move rfl rfl) ?_
  refine DX.takeWG 13 16383 (by kernel_rfl) rfl rfl rfl rfl rfl rfl rfl rfl (yw_move rfl rfl) ?_
  refine DX.takeG 15 49151 (by kernel_rfl) rfl rfl rfl rfl rfl rfl rfl rfl (List.Sublist.cons _ (List.Sublist.cons _ (List.Sublist.refl _))) (y_loadA (i := 0) rfl rfl agg_34 rfl rfl) ?_
  refine DX.takeWG 16 114687 (by kernel_rfl) rfl rfl rfl rfl rfl rfl rfl rfl (yw_move rfl rfl) ?_
  refine DX.takeWG 17 245759 (by kernel_rfl) rfl rfl rfl rfl rfl rfl rfl rfl (yw_move rfl rfl) ?_
  refine DX.stepG 14 262143 (by kernel_rfl) rfl rfl rfl rfl rfl rfl (op_callE rfl rfl rfl rfl rfl ent_22 (fun w hw => w_Apply fs rs ls (hw.rd hrM (by simp)) (hw.rd hrR (by simp)) (hw.rd hr (by simp)) hlM (by omega) hl) (fun ⟨A3, c3⟩ _ => (DXs.mk (List.Sublist.cons _ (List.Sublist.cons _ (List.Sublist.cons _ (List.Sublist.refl _)))) ?_)))
  refine DX.stepG 18 524287 (by kernel_rfl) rfl rfl rfl rfl rfl rfl (op_callE rfl rfl rfl rfl rfl ent_23 (fun w hw => w_Apply11 fs rs ls (hw.rd hrM (by simp)) (hw.rd hrR (by simp)) (hw.rd hr (by simp)) hlM (by omega) hl) (fun ⟨A4, c4⟩ _ => (DXs.mk (List.Sublist.cons _ (List.Sublist.cons _ (List.Sublist.cons _ (List.Sublist.cons _ (List.Sublist.refl _))))) ?_)))
  refine DX.stepG 19 1048575 (by kernel_rfl) rfl rfl rfl rfl rfl rfl (op_callV (v := .bool (decide ((applyS fs rs ls) = (applyS fs rs ls)))) rfl rfl rfl rfl rfl ent_21 (fun w hw => w_same08 (applyS fs rs ls) (applyS fs rs ls) (Ent.rd (hw.ents _ (List.mem_of_getElem? (i := 1) rfl))) (Ent.rd (hw.ents _ (List.mem_of_getElem? (i := 0) rfl))) (by rw [applyS, List.length_map]; omega)) (DXs.mk (List.Sublist.cons _ (List.Sublist.cons _ (List.Sublist.cons _ (List.Sublist.cons _ (List.Sublist.refl _))))) ?_))
  refine DX.know (t := 39) (u := .bool true) rfl (congrArg Value.bool (decide_eq_true rfl)) ?_
  refine DX.takeW 20 2097151 (by kernel_rfl) rfl rfl rfl rfl rfl (yw_pickT rfl rfl rfl) ?_
  refine DX.takeW 21 4194303 (by kernel_rfl) rfl rfl rfl rfl rfl (yw_assign rfl rfl) ?_
  refine DX.done (by kernel_rfl) (XX.next (V' := [(6, .bool true)]) ⟨rfl, trivial⟩ ?_)
  refine CX.ret ?_
  exact ret_tmp rfl rfl fun w1 hw => ⟨rfl, hw.sub (List.nil_sublist _)⟩

end Go.Proofs.Ytpcfgoadkfajfaa
