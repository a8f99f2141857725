/- Walks, printed by a program. -/
import Derived.Test.YtpcfgoadkfajfaaK10
namespace Go.Proofs.Ytpcfgoadkfajfaa
set_option linter.all false
open Go Go.RowKit
set_option maxRecDepth 100000
theorem ent_12 : ∀ args w, (callFunc 12 args).run Try.prog w = .ok (.enter 12 args) w := enters_of Try.func12 (by kernel_rfl) rfl
theorem ent_13 : ∀ args w, (callFunc 13 args).run Try.prog w = .ok (.enter 13 args) w := enters_of Try.func13 (by kernel_rfl) rfl
theorem ent_15 : ∀ args w, (callFunc 15 args).run Try.prog w = .ok (.enter 15 args) w := enters_of Try.func15 (by kernel_rfl) rfl
theorem w_fewE {w : World} {A : Option Addr} {cap : Nat} (n : Nat) {k : Nat} (hk : min n 40 = k) (hc : n ≤ cap) (h8 : n ≤ 9223372036854775807) : Calls Try.prog 13 #[.slice A n cap] w (fun e w' => e = .returned (.slice A k cap) ∧ SL w [] w' []) := hk ▸ w_few n hc h8
theorem w_shortE {w : World} {A : Option Addr} {cap : Nat} (n : Nat) {k : Nat} (hk : min n 12 = k) (hc : n ≤ cap) (h8 : n ≤ 9223372036854775807) : Calls Try.prog 17 #[.slice A n cap] w (fun e w' => e = .returned (.slice A k cap) ∧ SL w [] w' []) := hk ▸ w_short n hc h8
set_option maxRecDepth 100000 in
theorem w_lawMM {w : World} {A : Option Addr} {cap : Nat} (ls0 : List Sm) (hr0 : Rd w A 9 (ls0.map smC)) (hc0 : ls0.length ≤ cap) (h80 : ls0.length ≤ 9223372036854775807) (s : Sm) (k m : Int) (hk1 : -9223372036854775808 ≤ k) (hk2 : k ≤ 9223372036854775807) (hm1 : -9223372036854775808 ≤ m) (hm2 : m ≤ 9223372036854775807) :
    Calls Try.prog 3 #[.slice A ls0.length cap, .agg (smC s), .int .i64 k, .int .i64 m] w (fun e w' => e = .returned (.bool true) ∧ SL w [] w' []) := by
  obtain ⟨ls, hls⟩ : ∃ ls, ls = ls0.take 40 := ⟨_, rfl⟩
  have hr : Rd w A 9 (ls.map smC) := by rw [hls]; exact hr0.takeM 40
  have hmin : min ls0.length 40 = ls.length := by rw [hls, List.length_take]; omega
  have hl40 : ls.length ≤ 40 := by omega
  have hl : ls.length ≤ 100000 := by omega
  refine calls_of_CX (O := []) (L := []) (args := [.slice A ls0.length cap, .agg (smC s), .int .i64 k, .int .i64 m]) Try.func3 rfl (by simp [Try.ntmps3]) (SL.refl w) ?_
  refine CX.sub (V' := [(0, .slice A ls0.length cap), (1, .agg (smC s)), (2, .int .i64 k), (3, .int .i64 m)]) ⟨rfl, rfl, rfl, rfl, trivial⟩ ?_
  refine CX.seq ?_
  refine CX.region ?_
  refine RX.cons rfl rfl (op_box rfl rfl rfl rfl fun g5 => ?_)
  refine RX.cons rfl rfl (op_w (yw_assign rfl rfl) rfl rfl ?_)
  refine RX.nil (XX.next (V' := [(0, _), (2, _), (3, _), (5, _)]) ⟨rfl, rfl, rfl, rfl, trivial⟩ ?_)
  refine CX.seq ?_
  refine CX.region ?_
  refine RX.cons rfl rfl (op_callV (v := .bool true) rfl rfl rfl rfl rfl ent_12 (fun w hw => w_sane) ?_)
  refine RX.cons rfl rfl (op_w (yw_assign rfl rfl) rfl rfl ?_)
  refine RX.nil (XX.next (V' := [(0, _), (2, _), (3, _), (5, _), (9, _)]) ⟨rfl, rfl, rfl, rfl, rfl, trivial⟩ ?_)
  refine CX.seq ?_
  refine CX.region ?_
  refine RX.cons rfl rfl (op_w (yw_move rfl rfl) rfl rfl ?_)
  refine RX.cons rfl rfl (op_callV (v := .slice A ls.length cap) rfl rfl rfl rfl rfl ent_13 (fun w hw => w_fewE ls0.length hmin hc0 h80) ?_)
  refine RX.cons rfl rfl (op_w (yw_assign rfl rfl) rfl rfl ?_)
  refine RX.nil (XX.next (V' := [(0, _), (2, _), (3, _), (5, _), (9, _)]) ⟨rfl, rfl, rfl, rfl, rfl, trivial⟩ ?_)
  refine CX.seq ?_
  refine CX.seq ?_
  refine CX.drawL 37 ([.blk g5 (.cells (smC s) 24 (0, 0))]) [(0, 1, 8192), (1, 8192, 16384), (2, 16384, 32768), (4, 32768, 65536), (8, 65537, 131072), (8, 65537, 262144), (8, 65540, 524288), (8, 65537, 1048576), (136, 1114112, 2097152), (328, 2686976, 4194304), (552, 4521984, 8388608), (1032, 8454144, 16777216), (8, 65540, 33554432), (4616, 33619968, 67108864), (8200, 67174400, 134217728), (8, 65544, 268435456), (40968, 268500992, 536870912), (65544, 536936448, 1073741824), (215064, 1224933376, 2147483648), (8, 65537, 4294967296), (8, 65537, 8589934592), (8, 65540, 17179869184), (8, 65537, 34359738368), (4194312, 34359803904, 68719476736), (10747912, 85899411456, 137438953472), (17825800, 146028953600, 274877906944), (33554440, 274877972480, 549755813888), (8, 65540, 1099511627776), (150994952, 1099511693312, 2199023255552), (268435464, 2199023321088, 4398046511104), (8, 65544, 8796093022208), (1342177288, 8796093087744, 17592186044416), (2147483656, 17592186109952, 35184372088832), (7046955016, 40136469446656, 70368744177664), (8590196744, 70370891726848, 140737488355328), (17179869192, 140737488420864, 281474976710656), (34359738376, 281474976776192, 562949953421312)] (by kernel_rfl) (by kernel_rfl) (by kernel_rfl) ?_
  refine DX.takeW 0 1 (by kernel_rfl) rfl rfl rfl rfl rfl (yw_move rfl rfl) ?_
  refine DX.takeW 1 3 (by kernel_rfl) rfl rfl rfl rfl rfl (yw_lenS rfl Try.underlying22 rfl) ?_
  refine DX.takeW 2 7 (by kernel_rfl) rfl rfl rfl rfl rfl (yw_gtr rfl rfl rfl) ?_
  refine DX.takeW 3 15 (by kernel_rfl) rfl rfl rfl rfl rfl (yw_move rfl rfl) ?_
  refine DX.splitD (t := 16) (p := 0 < ((ls.length : Nat) : Int)) rfl (fun d16 => ?_) (fun d16 => ?_)
  · have hp0 := pickN_lt k (n := ls.length) (by omega)
    have hp3 := pickN_lt k (n := 3) (by decide)
    have hp4 := pickN_lt m (n := 4) (by decide)
    obtain ⟨x0, hx0⟩ := get_some (l := ls) (k := pickN k ls.length) hp0
    have hx0m := List.mem_of_getElem? hx0
    have hA : ∃ b j, A = some ⟨b, j, none⟩ := hr.some (k := 0) (by simp; omega)
    refine DX.takeWG 4 31 (by kernel_rfl) rfl rfl rfl rfl rfl rfl rfl rfl (yw_move rfl rfl) ?_
    refine DX.takeWG 5 63 (by kernel_rfl) rfl rfl rfl rfl rfl rfl rfl rfl (yw_move rfl rfl) ?_
    refine DX.takeWG 6 127 (by kernel_rfl) rfl rfl rfl rfl rfl rfl rfl rfl (yw_move rfl rfl) ?_
    refine DX.takeWG 7 255 (by kernel_rfl) rfl rfl rfl rfl rfl rfl rfl rfl (yw_move rfl rfl) ?_
    refine DX.takeWG 8 511 (by kernel_rfl) rfl rfl rfl rfl rfl rfl rfl rfl (yw_lenS rfl Try.underlying22 rfl) ?_
    refine DX.takeWG 12 4607 (by kernel_rfl) rfl rfl rfl rfl rfl rfl rfl rfl (yw_move rfl rfl) ?_
    refine DX.takeWG 15 37375 (by kernel_rfl) rfl rfl rfl rfl rfl rfl rfl rfl (yw_move rfl rfl) ?_
    refine DX.takeWG 19 561663 (by kernel_rfl) rfl rfl rfl rfl rfl rfl rfl rfl (yw_move rfl rfl) ?_
    refine DX.takeWG 20 1610239 (by kernel_rfl) rfl rfl rfl rfl rfl rfl rfl rfl (yw_move rfl rfl) ?_
    refine DX.takeWG 21 3707391 (by kernel_rfl) rfl rfl rfl rfl rfl rfl rfl rfl (yw_move rfl rfl) ?_
    refine DX.takeWG 22 7901695 (by kernel_rfl) rfl rfl rfl rfl rfl rfl rfl rfl (yw_move rfl rfl) ?_
    refine DX.takeWG 23 16290303 (by kernel_rfl) rfl rfl rfl rfl rfl rfl rfl rfl (yw_lenS rfl Try.underlying22 rfl) ?_
    refine DX.takeWG 27 150508031 (by kernel_rfl) rfl rfl rfl rfl rfl rfl rfl rfl (yw_move rfl rfl) ?_
    refine DX.takeWG 30 1224249855 (by kernel_rfl) rfl rfl rfl rfl rfl rfl rfl rfl (yw_move rfl rfl) ?_
    refine DX.stepG 9 1224250367 (by kernel_rfl) rfl rfl rfl rfl rfl rfl (op_callV (v := .int .i64 ((pickN k ls.length : Nat) : Int)) rfl rfl rfl rfl rfl ent_15 (fun w hw => w_pick k ls.length (by omega) (by omega) (by omega)) (DXs.mk (List.Sublist.refl _) ?_))
    refine DX.takeWG 10 1224251391 (by kernel_rfl) rfl rfl rfl rfl rfl rfl rfl rfl (yw_index (k := (pickN k ls.length)) rfl slt_22 rfl rfl (by omega) (by omega) hA) ?_
    refine DX.takeG 11 1224253439 (by kernel_rfl) rfl rfl rfl rfl rfl rfl rfl rfl (List.Sublist.refl _) (y_elem rfl rfl agg_24 hr (by simp) (map_get hx0)) ?_
    refine DX.stepG 13 1224261631 (by kernel_rfl) rfl rfl rfl rfl rfl rfl (op_callV (v := .int .i64 ((pickN k 3 : Nat) : Int)) rfl rfl rfl rfl rfl ent_15 (fun w hw => w_pick k 3 (by omega) (by omega) (by omega)) (DXs.mk (List.Sublist.refl _) ?_))
    refine DX.takeWG 14 1224278015 (by kernel_rfl) rfl rfl rfl rfl rfl rfl rfl rfl (yw_add rfl rfl rfl (by omega) (by omega)) ?_
    refine DX.stepG 16 1224343551 (by kernel_rfl) rfl rfl rfl rfl rfl rfl (op_callV (v := .int .i64 ((pickN m 4 : Nat) : Int)) rfl rfl rfl rfl rfl ent_15 (fun w hw => w_pick m 4 (by omega) (by omega) (by omega)) (DXs.mk (List.Sublist.refl _) ?_))
    refine DX.takeWG 17 1224474623 (by kernel_rfl) rfl rfl rfl rfl rfl rfl rfl rfl (yw_add rfl rfl rfl (by omega) (by omega)) ?_
    refine DX.stepG 18 1224736767 (by kernel_rfl) rfl rfl rfl rfl rfl rfl (op_callV (v := .int .i64 ((meas ls x0 (1 + ((pickN k 3 : Nat) : Int)) (1 + ((pickN m 4 : Nat) : Int)) : Nat) : Int)) rfl rfl rfl rfl rfl ent_14 (fun w hw => w_Measure ls (hw.rd hr (by simp)) hl x0 (1 + ((pickN k 3 : Nat) : Int)) (1 + ((pickN m 4 : Nat) : Int))) (DXs.mk (List.Sublist.refl _) ?_))
    refine DX.stepG 24 1241513983 (by kernel_rfl) rfl rfl rfl rfl rfl rfl (op_callV (v := .int .i64 ((pickN k ls.length : Nat) : Int)) rfl rfl rfl rfl rfl ent_15 (fun w hw => w_pick k ls.length (by omega) (by omega) (by omega)) (DXs.mk (List.Sublist.refl _) ?_))
    refine DX.takeWG 25 1275068415 (by kernel_rfl) rfl rfl rfl rfl rfl rfl rfl rfl (yw_index (k := (pickN k ls.length)) rfl slt_22 rfl rfl (by omega) (by omega) hA) ?_
    refine DX.takeG 26 1342177279 (by kernel_rfl) rfl rfl rfl rfl rfl rfl rfl rfl (List.Sublist.refl _) (y_elem rfl rfl agg_24 hr (by simp) (map_get hx0)) ?_
    refine DX.stepG 28 1610612735 (by kernel_rfl) rfl rfl rfl rfl rfl rfl (op_callV (v := .int .i64 ((pickN k 3 : Nat) : Int)) rfl rfl rfl rfl rfl ent_15 (fun w hw => w_pick k 3 (by omega) (by omega) (by omega)) (DXs.mk (List.Sublist.refl _) ?_))
    refine DX.takeWG 29 2147483647 (by kernel_rfl) rfl rfl rfl rfl rfl rfl rfl rfl (yw_add rfl rfl rfl (by omega) (by omega)) ?_
    refine DX.stepG 31 4294967295 (by kernel_rfl) rfl rfl rfl rfl rfl rfl (op_callV (v := .int .i64 ((pickN m 4 : Nat) : Int)) rfl rfl rfl rfl rfl ent_15 (fun w hw => w_pick m 4 (by omega) (by omega) (by omega)) (DXs.mk (List.Sublist.refl _) ?_))
    refine DX.takeWG 32 8589934591 (by kernel_rfl) rfl rfl rfl rfl rfl rfl rfl rfl (yw_add rfl rfl rfl (by omega) (by omega)) ?_
    refine DX.stepG 33 17179869183 (by kernel_rfl) rfl rfl rfl rfl rfl rfl (op_callV (v := .int .i64 ((meas ls x0 (1 + ((pickN k 3 : Nat) : Int)) (1 + ((pickN m 4 : Nat) : Int)) : Nat) : Int)) rfl rfl rfl rfl rfl ent_16 (fun w hw => w_measure11 ls (hw.rd hr (by simp)) hl x0 (1 + ((pickN k 3 : Nat) : Int)) (1 + ((pickN m 4 : Nat) : Int))) (DXs.mk (List.Sublist.refl _) ?_))
    refine DX.takeWG 34 34359738367 (by kernel_rfl) rfl rfl rfl rfl rfl rfl rfl rfl (yw_eql rfl rfl rfl) ?_
    refine DX.know (t := 47) (u := .bool true) rfl (congrArg Value.bool (decide_eq_true rfl)) ?_
    refine DX.takeWG 35 68719476735 (by kernel_rfl) rfl rfl rfl rfl rfl rfl rfl rfl (yw_not rfl rfl) ?_
    refine DX.takeW 36 137438953471 (by kernel_rfl) rfl rfl rfl rfl rfl (yw_pickT rfl rfl rfl) ?_
    refine DX.done (by kernel_rfl) (XX.next (V' := [(0, _), (2, _), (3, _), (5, _), (9, _), (49, _)]) ⟨rfl, rfl, rfl, rfl, rfl, rfl, trivial⟩ ?_)
    refine CX.condF rfl ?_
    refine CX.skip (XX.next (V' := [(0, _), (2, _), (3, _), (5, _), (9, _)]) ⟨rfl, rfl, rfl, rfl, rfl, trivial⟩ ?_)
    refine CX.seq ?_
    refine CX.drawL 15 ([.blk g5 (.cells (smC s) 24 (0, 0))]) [(0, 512, 1125899906842624), (1, 1125899906842624, 2251799813685248), (2, 2251799813685249, 4503599627370496), (2, 2251799813685280, 9007199254740992), (2, 2251799813685252, 18014398509481984), (2, 2251799813685256, 36028797018963968), (62, 69805794224242688, 72057594037927936), (2, 2251799813685249, 144115188075855872), (2, 2251799813685280, 288230376151711744), (2, 2251799813685252, 576460752303423488), (2, 2251799813685256, 1152921504606846976), (1986, 2163979620951523328, 2305843009213693952), (2114, 2380152403065307136, 4611686018427387904), (4098, 4613937818241073152, 9223372036854775808), (16383, 9223372036854775808, 256)] (by kernel_rfl) (by kernel_rfl) (by kernel_rfl) ?_
    refine DX.takeW 0 1 (by kernel_rfl) rfl rfl rfl rfl rfl (yw_move rfl rfl) ?_
    refine DX.takeW 1 3 (by kernel_rfl) rfl rfl rfl rfl rfl (yw_move rfl rfl) ?_
    refine DX.takeWG 2 7 (by kernel_rfl) rfl rfl rfl rfl rfl rfl rfl rfl (yw_move rfl rfl) ?_
    refine DX.takeG 3 15 (by kernel_rfl) rfl rfl rfl rfl rfl rfl rfl rfl (List.Sublist.refl _) (y_loadA (i := 0) rfl rfl agg_24 rfl rfl) ?_
    refine DX.takeWG 4 31 (by kernel_rfl) rfl rfl rfl rfl rfl rfl rfl rfl (yw_move rfl rfl) ?_
    refine DX.takeWG 5 63 (by kernel_rfl) rfl rfl rfl rfl rfl rfl rfl rfl (yw_move rfl rfl) ?_
    refine DX.takeWG 7 191 (by kernel_rfl) rfl rfl rfl rfl rfl rfl rfl rfl (yw_move rfl rfl) ?_
    refine DX.takeG 8 447 (by kernel_rfl) rfl rfl rfl rfl rfl rfl rfl rfl (List.Sublist.refl _) (y_loadA (i := 0) rfl rfl agg_24 rfl rfl) ?_
    refine DX.takeWG 9 959 (by kernel_rfl) rfl rfl rfl rfl rfl rfl rfl rfl (yw_move rfl rfl) ?_
    refine DX.takeWG 10 1983 (by kernel_rfl) rfl rfl rfl rfl rfl rfl rfl rfl (yw_move rfl rfl) ?_
    refine DX.stepG 6 2047 (by kernel_rfl) rfl rfl rfl rfl rfl rfl (op_callV (v := .int .i64 ((meas ls s k m : Nat) : Int)) rfl rfl rfl rfl rfl ent_14 (fun w hw => w_Measure ls (hw.rd hr (by simp)) hl s k m) (DXs.mk (List.Sublist.refl _) ?_))
    refine DX.stepG 11 4095 (by kernel_rfl) rfl rfl rfl rfl rfl rfl (op_callV (v := .int .i64 ((meas ls s k m : Nat) : Int)) rfl rfl rfl rfl rfl ent_16 (fun w hw => w_measure11 ls (hw.rd hr (by simp)) hl s k m) (DXs.mk (List.Sublist.refl _) ?_))
    refine DX.takeWG 12 8191 (by kernel_rfl) rfl rfl rfl rfl rfl rfl rfl rfl (yw_eql rfl rfl rfl) ?_
    refine DX.know (t := 62) (u := .bool true) rfl (congrArg Value.bool (decide_eq_true rfl)) ?_
    refine DX.takeW 13 16383 (by kernel_rfl) rfl rfl rfl rfl rfl (yw_pickT rfl rfl rfl) ?_
    refine DX.takeW 14 32767 (by kernel_rfl) rfl rfl rfl rfl rfl (yw_assign rfl rfl) ?_
    refine DX.done (by kernel_rfl) (XX.next (V' := [(8, .bool true)]) ⟨rfl, trivial⟩ ?_)
    refine CX.ret ?_
    exact ret_tmp rfl rfl fun w1 hw => ⟨rfl, hw.sub (List.nil_sublist _)⟩
  · refine DX.skip 4 31 (by kernel_rfl) rfl rfl rfl rfl rfl rfl rfl rfl ?_
    refine DX.skip 5 63 (by kernel_rfl) rfl rfl rfl rfl rfl rfl rfl rfl ?_
    refine DX.skip 6 127 (by kernel_rfl) rfl rfl rfl rfl rfl rfl rfl rfl ?_
    refine DX.skip 7 255 (by kernel_rfl) rfl rfl rfl rfl rfl rfl rfl rfl ?_
    refine DX.skip 8 511 (by kernel_rfl) rfl rfl rfl rfl rfl rfl rfl rfl ?_
    refine DX.skip 9 1023 (by kernel_rfl) rfl rfl rfl rfl rfl rfl rfl rfl ?_
    refine DX.skip 10 2047 (by kernel_rfl) rfl rfl rfl rfl rfl rfl rfl rfl ?_
    refine DX.skip 11 4095 (by kernel_rfl) rfl rfl rfl rfl rfl rfl rfl rfl ?_
    refine DX.skip 12 8191 (by kernel_rfl) rfl rfl rfl rfl rfl rfl rfl rfl ?_
    refine DX.skip 13 16383 (by kernel_rfl) rfl rfl rfl rfl rfl rfl rfl rfl ?_
    refine DX.skip 14 32767 (by kernel_rfl) rfl rfl rfl rfl rfl rfl rfl rfl ?_
    refine DX.skip 15 65535 (by kernel_rfl) rfl rfl rfl rfl rfl rfl rfl rfl ?_
    refine DX.skip 16 131071 (by kernel_rfl) rfl rfl rfl rfl rfl rfl rfl rfl ?_
    refine DX.skip 17 262143 (by kernel_rfl) rfl rfl rfl rfl rfl rfl rfl rfl ?_
    refine DX.skip 18 524287 (by kernel_rfl) rfl rfl rfl rfl rfl rfl rfl rfl ?_
    refine DX.skip 19 1048575 (by kernel_rfl) rfl rfl rfl rfl rfl rfl rfl rfl ?_
    refine DX.skip 20 2097151 (by kernel_rfl) rfl rfl rfl rfl rfl rfl rfl rfl ?_
    refine DX.skip 21 4194303 (by kernel_rfl) rfl rfl rfl rfl rfl rfl rfl rfl ?_
    refine DX.skip 22 8388607 (by kernel_rfl) rfl rfl rfl rfl rfl rfl rfl rfl ?_
    refine DX.skip 23 16777215 (by kernel_rfl) rfl rfl rfl rfl rfl rfl rfl rfl ?_
    refine DX.skip 24 33554431 (by kernel_rfl) rfl rfl rfl rfl rfl rfl rfl rfl ?_
    refine DX.skip 25 67108863 (by kernel_rfl) rfl rfl rfl rfl rfl rfl rfl rfl ?_
    refine DX.skip 26 134217727 (by kernel_rfl) rfl rfl rfl rfl rfl rfl rfl rfl ?_
    refine DX.skip 27 268435455 (by kernel_rfl) rfl rfl rfl rfl rfl rfl rfl rfl ?_
    refine DX.skip 28 536870911 (by kernel_rfl) rfl rfl rfl rfl rfl rfl rfl rfl ?_
    refine DX.skip 29 1073741823 (by kernel_rfl) rfl rfl rfl rfl rfl rfl rfl rfl ?_
    refine DX.skip 30 2147483647 (by kernel_rfl) rfl rfl rfl rfl rfl rfl rfl rfl ?_
    refine DX.skip 31 4294967295 (by kernel_rfl) rfl rfl rfl rfl rfl rfl rfl rfl ?_
    refine DX.skip 32 8589934591 (by kernel_rfl) rfl rfl rfl rfl rfl rfl rfl rfl ?_
    refine DX.skip 33 17179869183 (by kernel_rfl) rfl rfl rfl rfl rfl rfl rfl rfl ?_
    refine DX.skip 34 34359738367 (by kernel_rfl) rfl rfl rfl rfl rfl rfl rfl rfl ?_
    refine DX.skip 35 68719476735 (by kernel_rfl) rfl rfl rfl rfl rfl rfl rfl rfl ?_
    refine DX.takeW 36 137438953471 (by kernel_rfl) rfl rfl rfl rfl rfl (yw_pickF rfl rfl rfl) ?_
    refine DX.done (by kernel_rfl) (XX.next (V' := [(0, _), (2, _), (3, _), (5, _), (9, _), (49, _)]) ⟨rfl, rfl, rfl, rfl, rfl, rfl, trivial⟩ ?_)
    refine CX.condF rfl ?_
    refine CX.skip (XX.next (V' := [(0, _), (2, _), (3, _), (5, _), (9, _)]) ⟨rfl, rfl, rfl, rfl, rfl, trivial⟩ ?_)
    refine CX.seq ?_
    refine CX.drawL 15 ([.blk g5 (.cells (smC s) 24 (0, 0))]) [(0, 512, 1125899906842624), (1, 1125899906842624, 2251799813685248), (2, 2251799813685249, 4503599627370496), (2, 2251799813685280, 9007199254740992), (2, 2251799813685252, 18014398509481984), (2, 2251799813685256, 36028797018963968), (62, 69805794224242688, 72057594037927936), (2, 2251799813685249, 144115188075855872), (2, 2251799813685280, 288230376151711744), (2, 2251799813685252, 576460752303423488), (2, 2251799813685256, 1152921504606846976), (1986, 2163979620951523328, 2305843009213693952), (2114, 2380152403065307136, 4611686018427387904), (4098, 4613937818241073152, 9223372036854775808), (16383, 9223372036854775808, 256)] (by kernel_rfl) (by kernel_rfl) (by kernel_rfl) ?_
    refine DX.takeW 0 1 (by kernel_rfl) rfl rfl rfl rfl rfl (yw_move rfl rfl) ?_
    refine DX.takeW 1 3 (by kernel_rfl) rfl rfl rfl rfl rfl (yw_move rfl rfl) ?_
    refine DX.takeWG 2 7 (by kernel_rfl) rfl rfl rfl rfl rfl rfl rfl rfl (yw_move rfl rfl) ?_
    refine DX.takeG 3 15 (by kernel_rfl) rfl rfl rfl rfl rfl rfl rfl rfl (List.Sublist.refl _) (y_loadA (i := 0) rfl rfl agg_24 rfl rfl) ?_
    refine DX.takeWG 4 31 (by kernel_rfl) rfl rfl rfl rfl rfl rfl rfl rfl (yw_move rfl rfl) ?_
    refine DX.takeWG 5 63 (by kernel_rfl) rfl rfl rfl rfl rfl rfl rfl rfl (yw_move rfl rfl) ?_
    refine DX.takeWG 7 191 (by kernel_rfl) rfl rfl rfl rfl rfl rfl rfl rfl (yw_move rfl rfl) ?_
    refine DX.takeG 8 447 (by kernel_rfl) rfl rfl rfl rfl rfl rfl rfl rfl (List.Sublist.refl _) (y_loadA (i := 0) rfl rfl agg_24 rfl rfl) ?_
    refine DX.takeWG 9 959 (by kernel_rfl) rfl rfl rfl rfl rfl rfl rfl rfl (yw_move rfl rfl) ?_
    refine DX.takeWG 10 1983 (by kernel_rfl) rfl rfl rfl rfl rfl rfl rfl rfl (yw_move rfl rfl) ?_
    refine DX.stepG 6 2047 (by kernel_rfl) rfl rfl rfl rfl rfl rfl (op_callV (v := .int .i64 ((meas ls s k m : Nat) : Int)) rfl rfl rfl rfl rfl ent_14 (fun w hw => w_Measure ls (hw.rd hr (by simp)) hl s k m) (DXs.mk (List.Sublist.refl _) ?_))
    refine DX.stepG 11 4095 (by kernel_rfl) rfl rfl rfl rfl rfl rfl (op_callV (v := .int .i64 ((meas ls s k m : Nat) : Int)) rfl rfl rfl rfl rfl ent_16 (fun w hw => w_measure11 ls (hw.rd hr (by simp)) hl s k m) (DXs.mk (List.Sublist.refl _) ?_))
    refine DX.takeWG 12 8191 (by kernel_rfl) rfl rfl rfl rfl rfl rfl rfl rfl (yw_eql rfl rfl rfl) ?_
    refine DX.know (t := 62) (u := .bool true) rfl (congrArg Value.bool (decide_eq_true rfl)) ?_
    refine DX.takeW 13 16383 (by kernel_rfl) rfl rfl rfl rfl rfl (yw_pickT rfl rfl rfl) ?_
    refine DX.takeW 14 32767 (by kernel_rfl) rfl rfl rfl rfl rfl (yw_assign rfl rfl) ?_
    refine DX.done (by kernel_rfl) (XX.next (V' := [(8, .bool true)]) ⟨rfl, trivial⟩ ?_)
    refine CX.ret ?_
    exact ret_tmp rfl rfl fun w1 hw => ⟨rfl, hw.sub (List.nil_sublist _)⟩

end Go.Proofs.Ytpcfgoadkfajfaa
