/- Walks, printed by a program. -/
import Derived.Test.YtpcfgoadkfajfaaKGN
import Derived.Test.YtpcfgoadkfajfaaKLaws11
namespace Go.Proofs.Ytpcfgoadkfajfaa
set_option linter.all false
open Go Go.RowKit
set_option maxRecDepth 100000
theorem ent_17 : ∀ args w, (callFunc 17 args).run Try.prog w = .ok (.enter 17 args) w := enters_of Try.func17 (by kernel_rfl) rfl
theorem slt_41 : SlT Try.prog 41 42 2 := ⟨(Try.prog.info? 42).get!, Try.underlying41, by kernel_rfl, by kernel_rfl⟩
set_option maxRecDepth 100000 in
theorem w_lawOr {w : World} {AR : Option Addr} {capR : Nat} (rs0 : List Ru) (hrR0 : Rd w AR 4 (rs0.map ruC)) (hcR : rs0.length ≤ capR) (h8R : rs0.length ≤ 9223372036854775807) {A : Option Addr} {cap : Nat} (ls0 : List Sm) (hr0 : Rd w A 9 (ls0.map smC)) (hc0 : ls0.length ≤ cap) (h80 : ls0.length ≤ 9223372036854775807) {AS : Option Addr} {capS : Nat} (sw : List (Int × Int)) (hrS : Rd w AS 2 (sw.map prC)) (h8S : sw.length ≤ 9223372036854775807) (hgS : ∀ p ∈ sw, (-9223372036854775808 ≤ p.1 ∧ p.1 ≤ 9223372036854775807) ∧ (-9223372036854775808 ≤ p.2 ∧ p.2 ≤ 9223372036854775807)) :
    Calls Try.prog 5 #[.slice AR rs0.length capR, .slice A ls0.length cap, .slice AS sw.length capS] w (fun e w' => e = .returned (.bool true) ∧ SL w [] w' []) := by
  obtain ⟨rs, hrs⟩ : ∃ rs, rs = rs0.take 12 := ⟨_, rfl⟩
  have hrR : Rd w AR 4 (rs.map ruC) := by rw [hrs]; exact hrR0.takeM 12
  have hminR : min rs0.length 12 = rs.length := by rw [hrs, List.length_take]; omega
  have hr12 : rs.length ≤ 12 := by omega
  have hlR : rs.length ≤ 1000000 := by omega
  obtain ⟨ls, hls⟩ : ∃ ls, ls = ls0.take 40 := ⟨_, rfl⟩
  have hr : Rd w A 9 (ls.map smC) := by rw [hls]; exact hr0.takeM 40
  have hmin : min ls0.length 40 = ls.length := by rw [hls, List.length_take]; omega
  have hl40 : ls.length ≤ 40 := by omega
  have hl : ls.length ≤ 100000 := by omega
  refine calls_of_CX (O := []) (L := []) (args := [.slice AR rs0.length capR, .slice A ls0.length cap, .slice AS sw.length capS]) Try.func5 rfl (by simp [Try.ntmps5]) (SL.refl w) ?_
  refine CX.sub (V' := [(0, .slice AR rs0.length capR), (1, .slice A ls0.length cap), (2, .slice AS sw.length capS)]) ⟨rfl, rfl, rfl, trivial⟩ ?_
  refine CX.seq ?_
  refine CX.region ?_
  refine RX.cons rfl rfl (op_w (yw_assign rfl rfl) rfl rfl ?_)
  refine RX.nil (XX.next (V' := [(0, _), (1, _), (2, _)]) ⟨rfl, rfl, rfl, trivial⟩ ?_)
  refine CX.seq ?_
  refine CX.region ?_
  refine RX.cons rfl rfl (op_callV (v := .bool true) rfl rfl rfl rfl rfl ent_12 (fun w hw => w_sane) ?_)
  refine RX.cons rfl rfl (op_w (yw_assign rfl rfl) rfl rfl ?_)
  refine RX.nil (XX.next (V' := [(0, _), (1, _), (2, _), (7, _)]) ⟨rfl, rfl, rfl, rfl, trivial⟩ ?_)
  refine CX.seq ?_
  refine CX.region ?_
  refine RX.cons rfl rfl (op_w (yw_move rfl rfl) rfl rfl ?_)
  refine RX.cons rfl rfl (op_callV (v := .slice AR rs.length capR) rfl rfl rfl rfl rfl ent_17 (fun w hw => w_shortE rs0.length hminR hcR h8R) ?_)
  refine RX.cons rfl rfl (op_w (yw_assign rfl rfl) rfl rfl ?_)
  refine RX.nil (XX.next (V' := [(0, _), (1, _), (2, _), (7, _)]) ⟨rfl, rfl, rfl, rfl, trivial⟩ ?_)
  refine CX.seq ?_
  refine CX.region ?_
  refine RX.cons rfl rfl (op_w (yw_move rfl rfl) rfl rfl ?_)
  refine RX.cons rfl rfl (op_callV (v := .slice A ls.length cap) rfl rfl rfl rfl rfl ent_13 (fun w hw => w_fewE ls0.length hmin hc0 h80) ?_)
  refine RX.cons rfl rfl (op_w (yw_assign rfl rfl) rfl rfl ?_)
  refine RX.nil (XX.next (V' := [(0, _), (1, _), (2, _), (7, _)]) ⟨rfl, rfl, rfl, rfl, trivial⟩ ?_)
  refine CX.seq ?_
  refine CX.region ?_
  refine RX.cons rfl rfl (op_w (yw_move rfl rfl) rfl rfl ?_)
  refine RX.cons rfl rfl (op_w (yw_move rfl rfl) rfl rfl ?_)
  refine RX.cons rfl rfl (op_callE rfl rfl rfl rfl rfl ent_19 (fun w hw => w_Judge rs ls (hw.rd hrR (by simp)) (hw.rd hr (by simp)) (by omega) (by omega)) (fun ⟨A1, c1⟩ _ => ?_))
  refine RX.cons rfl rfl (op_w (yw_assign rfl rfl) rfl rfl ?_)
  refine RX.know (t := 8) (u := .slice A1 ls.length c1) rfl (by rw [List.length_map]) ?_
  refine RX.nil (XX.next (V' := [(0, _), (1, _), (2, _), (7, _), (8, _)]) ⟨rfl, rfl, rfl, rfl, rfl, trivial⟩ ?_)
  refine CX.seq ?_
  refine CX.seq ?_
  refine CX.region ?_
  refine RX.cons rfl rfl (op_w (yw_move rfl rfl) rfl rfl ?_)
  refine RX.cons rfl rfl (op_w (yw_lenS rfl Try.underlying36 rfl) rfl rfl ?_)
  refine RX.cons rfl rfl (op_w (yw_move rfl rfl) rfl rfl ?_)
  refine RX.cons rfl rfl (op_w (yw_lenS rfl Try.underlying22 rfl) rfl rfl ?_)
  refine RX.cons rfl rfl (op_w (yw_neq rfl rfl rfl) rfl rfl ?_)
  refine RX.know (t := 28) (u := .bool false) rfl (congrArg Value.bool (decide_eq_false (by simp))) ?_
  refine RX.nil (XX.next (V' := [(0, _), (1, _), (2, _), (7, _), (8, _), (28, _)]) ⟨rfl, rfl, rfl, rfl, rfl, rfl, trivial⟩ ?_)
  refine CX.condF rfl ?_
  refine CX.skip (XX.next (V' := [(0, _), (1, _), (2, _), (7, _), (8, _)]) ⟨rfl, rfl, rfl, rfl, rfl, trivial⟩ ?_)
  refine CX.seq ?_
  refine CX.region ?_
  refine RX.cons rfl rfl (op_buildSlice rfl rfl rfl slb_22 rfl rfl (by intro v hv; simp at hv) (by decide) fun mr => ?_)
  refine RX.cons rfl rfl (op_w (yw_move rfl rfl) rfl rfl ?_)
  refine RX.cons rfl rfl (op_appendM0 smC (i := 0) (xs := []) ls rfl rfl rfl slb_22 rfl rfl rfl rfl hr (by simp) (by simp; omega) (by simp; omega) fun A5 c5 => ?_)
  refine RX.cons rfl rfl (op_w (yw_assign rfl rfl) rfl rfl ?_)
  refine RX.nil (XX.next (V' := [(0, _), (2, _), (7, _), (8, _), (9, _)]) ⟨rfl, rfl, rfl, rfl, rfl, trivial⟩ ?_)
  refine CX.seq ?_
  refine CX.region ?_
  refine RX.cons rfl rfl (op_buildSlice rfl rfl rfl slb_30 rfl rfl (by intro v hv; simp at hv) (by decide) fun rr => ?_)
  refine RX.cons rfl rfl (op_w (yw_move rfl rfl) rfl rfl ?_)
  refine RX.cons rfl rfl (op_appendM0 ruC (i := 0) (xs := []) rs rfl rfl rfl slb_30 rfl rfl rfl rfl hrR (by simp) (by simp; omega) (by simp; omega) fun A6 c6 => ?_)
  refine RX.cons rfl rfl (op_w (yw_assign rfl rfl) rfl rfl ?_)
  refine RX.nil (XX.next (V' := [(2, _), (7, _), (8, _), (9, _), (10, _)]) ⟨rfl, rfl, rfl, rfl, rfl, trivial⟩ ?_)
  refine CX.seq ?_
  refine CX.seq ?_
  refine CX.region ?_
  refine RX.cons rfl rfl (op_w (yw_assign rfl rfl) rfl rfl ?_)
  refine RX.nil (XX.next (V' := [(2, _), (7, _), (8, _), (9, _), (10, _), (11, _)]) ⟨rfl, rfl, rfl, rfl, rfl, rfl, trivial⟩ ?_)
  refine CX.block ?_
  refine CX.perm (L' := [.row A5 c5 24 9 (List.map smC ([] ++ ls)), .row A1 c1 3 1 (List.map iR (List.map (jud rs ls) ls)), .row A6 c6 44 4 (List.map ruC ([] ++ rs))]) ((perm_pick 1 rfl).trans (List.Perm.cons _ ((perm_pick 1 rfl).trans (List.Perm.cons _ ((perm_pick 0 rfl).trans (List.Perm.cons _ (List.Perm.refl _))))))) ?_
  refine CX.loop (σ := Nat × List Sm × List Ru) (fun z => [(2, .slice AS sw.length capS), (7, .bool true), (8, .slice A1 ls.length c1), (9, .slice A5 ls.length c5), (10, .slice A6 rs.length c6), (11, .int .i64 ((z.1 : Nat) : Int))]) (fun z => [.row A5 c5 24 9 (List.map smC z.2.1), .row A1 c1 3 1 (List.map iR (List.map (jud rs ls) z.2.1)), .row A6 c6 44 4 (List.map ruC z.2.2)]) (fun z => z.1 ≤ sw.length ∧ z.1 ≤ 40 ∧ z.2.1.Perm ls ∧ z.2.2.Perm rs) (fun z => 40 - z.1) (0, ls, rs) ⟨Nat.zero_le _, Nat.zero_le _, List.Perm.refl _, List.Perm.refl _⟩ ⟨rfl, rfl, rfl, rfl, rfl, rfl, trivial⟩ rfl (fun z hI => ?_)
  obtain ⟨i, M, RR⟩ := z
  dsimp only at hI ⊢
  obtain ⟨hi, hi40, hPM, hPR⟩ := hI
  have hMn := hPM.length_eq
  have hRn := hPR.length_eq
  refine CX.seq ?_
  refine CX.seq ?_
  refine CX.region ?_
  refine RX.cons rfl rfl (op_w (yw_move rfl rfl) rfl rfl ?_)
  refine RX.cons rfl rfl (op_w (yw_move rfl rfl) rfl rfl ?_)
  refine RX.cons rfl rfl (op_w (yw_lenS rfl Try.underlying41 rfl) rfl rfl ?_)
  refine RX.cons rfl rfl (op_w (yw_lss rfl rfl rfl) rfl rfl ?_)
  refine RX.cons rfl rfl (op_w (yw_move rfl rfl) rfl rfl ?_)
  refine RX.splitD (t := 39) (p := ((i : Nat) : Int) < ((sw.length : Nat) : Int)) rfl (fun d39 => ?_) (fun d39 => ?_)
  · refine RX.consG rfl rfl rfl rfl rfl (op_w (yw_move rfl rfl) rfl rfl ?_)
    refine RX.consG rfl rfl rfl rfl rfl (op_w (yw_lss rfl rfl rfl) rfl rfl ?_)
    refine RX.cons rfl rfl (op_w (yw_pickT rfl rfl rfl) rfl rfl ?_)
    refine RX.nil (XX.next (V' := [(2, _), (7, _), (8, _), (9, _), (10, _), (11, _), (42, _)]) ⟨rfl, rfl, rfl, rfl, rfl, rfl, rfl, trivial⟩ ?_)
    refine CX.condD (p := ((i : Nat) : Int) < 40) rfl (fun c42 => ?_) (fun c42 => ?_)
    · obtain ⟨p0, hp0⟩ := get_some (l := sw) (k := i) (by omega)
      have hp0m := List.mem_of_getElem? hp0
      have hAS : ∃ b j, AS = some ⟨b, j, none⟩ := hrS.some (k := 0) (by simp; omega)
      have hgp := hgS p0 hp0m
      refine CX.skip (XX.next (V' := [(2, _), (7, _), (8, _), (9, _), (10, _), (11, _)]) ⟨rfl, rfl, rfl, rfl, rfl, rfl, trivial⟩ ?_)
      refine CX.seq ?_
      refine CX.block ?_
      refine CX.seq ?_
      refine CX.seq ?_
      refine CX.region ?_
      refine RX.cons rfl rfl (op_w (yw_move rfl rfl) rfl rfl ?_)
      refine RX.cons rfl rfl (op_w (yw_lenS rfl Try.underlying22 rfl) rfl rfl ?_)
      refine RX.cons rfl rfl (op_w (yw_gtr rfl rfl rfl) rfl rfl ?_)
      refine RX.nil (XX.next (V' := [(2, _), (7, _), (8, _), (9, _), (10, _), (11, _), (47, _)]) ⟨rfl, rfl, rfl, rfl, rfl, rfl, rfl, trivial⟩ ?_)
      refine CX.condD (p := 0 < ((ls.length : Nat) : Int)) rfl (fun c47 => ?_) (fun c47 => ?_)
      · have ha1 := pickN_lt (Prod.fst p0) (n := ls.length) (by omega)
        have hb1 := pickN_lt (Prod.snd p0) (n := ls.length) (by omega)
        obtain ⟨xa, hxa⟩ := get_some (l := M) (k := (pickN (Prod.fst p0) ls.length)) (by omega)
        obtain ⟨xb, hxb⟩ := get_some (l := M) (k := (pickN (Prod.snd p0) ls.length)) (by omega)
        refine CX.rowSome 0 rfl (by rw [List.length_map]; omega) (fun hA5 => ?_)
        refine CX.rowSome 1 rfl (by rw [List.length_map, List.length_map]; omega) (fun hA1 => ?_)
        refine CX.seq ?_
        refine CX.region ?_
        refine RX.cons rfl rfl (op_w (yw_move rfl rfl) rfl rfl ?_)
        refine RX.cons rfl rfl (op_w (yw_move rfl rfl) rfl rfl ?_)
        refine RX.cons rfl rfl (op_w (yw_index (k := i) rfl slt_41 rfl rfl (by omega) (by omega) hAS) rfl rfl ?_)
        refine RX.cons rfl rfl (op_w (yw_indexArrE (k := 0) rfl Try.underlying42 szt_3 rfl rfl rfl (by decide)) rfl rfl ?_)
        refine RX.cons rfl rfl (op_yld (y_elemF rfl rfl one_3 hrS (by simp) (map_get hp0) rfl) rfl rfl ?_)
        refine RX.cons rfl rfl (op_w (yw_move rfl rfl) rfl rfl ?_)
        refine RX.cons rfl rfl (op_w (yw_lenS rfl Try.underlying22 rfl) rfl rfl ?_)
        refine RX.cons rfl rfl (op_callV (v := .int .i64 ((pickN (Prod.fst p0) ls.length : Nat) : Int)) rfl rfl rfl rfl rfl ent_15 (fun w hw => w_pick (Prod.fst p0) ls.length (by omega) (by omega) (by omega)) ?_)
        refine RX.cons rfl rfl (op_w (yw_assign rfl rfl) rfl rfl ?_)
        refine RX.nil (XX.next (V' := [(2, _), (7, _), (8, _), (9, _), (10, _), (11, _), (12, _)]) ⟨rfl, rfl, rfl, rfl, rfl, rfl, rfl, trivial⟩ ?_)
        refine CX.seq ?_
        refine CX.region ?_
        refine RX.cons rfl rfl (op_w (yw_move rfl rfl) rfl rfl ?_)
        refine RX.cons rfl rfl (op_w (yw_move rfl rfl) rfl rfl ?_)
        refine RX.cons rfl rfl (op_w (yw_index (k := i) rfl slt_41 rfl rfl (by omega) (by omega) hAS) rfl rfl ?_)
        refine RX.cons rfl rfl (op_w (yw_indexArrE (k := 1) rfl Try.underlying42 szt_3 rfl rfl rfl (by decide)) rfl rfl ?_)
        refine RX.cons rfl rfl (op_yld (y_elemF rfl rfl one_3 hrS (by simp) (map_get hp0) rfl) rfl rfl ?_)
        refine RX.cons rfl rfl (op_w (yw_move rfl rfl) rfl rfl ?_)
        refine RX.cons rfl rfl (op_w (yw_lenS rfl Try.underlying22 rfl) rfl rfl ?_)
        refine RX.cons rfl rfl (op_callV (v := .int .i64 ((pickN (Prod.snd p0) ls.length : Nat) : Int)) rfl rfl rfl rfl rfl ent_15 (fun w hw => w_pick (Prod.snd p0) ls.length (by omega) (by omega) (by omega)) ?_)
        refine RX.cons rfl rfl (op_w (yw_assign rfl rfl) rfl rfl ?_)
        refine RX.nil (XX.next (V' := [(2, _), (7, _), (8, _), (9, _), (10, _), (11, _), (12, _), (13, _)]) ⟨rfl, rfl, rfl, rfl, rfl, rfl, rfl, rfl, trivial⟩ ?_)
        refine CX.seq ?_
        refine CX.draw 13 [(0, 512, 18446744073709551616), (0, 4096, 36893488147419103232), (0, 512, 73786976294838206464), (0, 8192, 147573952589676412928), (0, 512, 295147905179352825856), (0, 8192, 590295810358705651712), (48, 885443715538058477568, 1180591620717411303424), (64, 1180591620717411303424, 2361183241434822606848), (0, 512, 4722366482869645213696), (0, 4096, 9444732965739290427392), (768, 14167099448608935641088, 18889465931478580854784), (1024, 18889465931478580854784, 37778931862957161709568), (2291, 55340232221128654848, 75557863725914323419136), (6387, 77919046967349146025984, 0), (16383, 221360928884514619392, 151115727451828646838272), (32767, 188894659314785808547840, 0)] (by kernel_rfl) (by kernel_rfl) (by kernel_rfl) ?_
        refine DX.takeW 0 1 (by kernel_rfl) rfl rfl rfl rfl rfl (yw_move rfl rfl) ?_
        refine DX.takeW 1 3 (by kernel_rfl) rfl rfl rfl rfl rfl (yw_move rfl rfl) ?_
        refine DX.takeW 2 7 (by kernel_rfl) rfl rfl rfl rfl rfl (yw_move rfl rfl) ?_
        refine DX.takeW 3 15 (by kernel_rfl) rfl rfl rfl rfl rfl (yw_move rfl rfl) ?_
        refine DX.takeW 4 31 (by kernel_rfl) rfl rfl rfl rfl rfl (yw_move rfl rfl) ?_
        refine DX.takeW 5 63 (by kernel_rfl) rfl rfl rfl rfl rfl (yw_move rfl rfl) ?_
        refine DX.takeW 6 127 (by kernel_rfl) rfl rfl rfl rfl rfl (yw_index (k := (pickN (Prod.snd p0) ls.length)) rfl slt_22 rfl rfl (by omega) (by omega) hA5) ?_
        refine DX.take 7 255 (by kernel_rfl) rfl rfl rfl rfl rfl (List.Sublist.refl _) (y_rowElem (i := 0) rfl rfl agg_24 rfl (map_get hxb)) ?_
        refine DX.takeW 8 511 (by kernel_rfl) rfl rfl rfl rfl rfl (yw_move rfl rfl) ?_
        refine DX.takeW 9 1023 (by kernel_rfl) rfl rfl rfl rfl rfl (yw_move rfl rfl) ?_
        refine DX.takeW 10 2047 (by kernel_rfl) rfl rfl rfl rfl rfl (yw_index (k := (pickN (Prod.fst p0) ls.length)) rfl slt_22 rfl rfl (by omega) (by omega) hA5) ?_
        refine DX.take 11 4095 (by kernel_rfl) rfl rfl rfl rfl rfl (List.Sublist.refl _) (y_rowElem (i := 0) rfl rfl agg_24 rfl (map_get hxa)) ?_
        refine DX.takeW 12 8191 (by kernel_rfl) rfl rfl rfl rfl rfl (yw_index (k := (pickN (Prod.fst p0) ls.length)) rfl slt_22 rfl rfl (by omega) (by omega) hA5) ?_
        refine DX.stepT 13 16383 (by kernel_rfl) rfl rfl rfl rfl (op_storeElemE (i := 0) (k := (pickN (Prod.fst p0) ls.length)) (ys := List.map smC (M.set (pickN (Prod.fst p0) ls.length) xb)) rfl rfl rfl rfl szt_24 rfl (plain_of rfl) rfl (by rw [List.length_map]; omega) (map_setC smC _ _ _) ?_)
        refine DX.takeW 14 32767 (by kernel_rfl) rfl rfl rfl rfl rfl (yw_index (k := (pickN (Prod.snd p0) ls.length)) rfl slt_22 rfl rfl (by omega) (by omega) hA5) ?_
        refine DX.stepT 15 65535 (by kernel_rfl) rfl rfl rfl rfl (op_storeElemE (i := 0) (k := (pickN (Prod.snd p0) ls.length)) (ys := List.map smC ((M.set (pickN (Prod.fst p0) ls.length) xb).set (pickN (Prod.snd p0) ls.length) xa)) rfl rfl rfl rfl szt_24 rfl (plain_of rfl) rfl (by rw [List.length_map, List.length_set]; omega) (map_setC smC _ _ _) ?_)
        refine DX.done (by kernel_rfl) (XX.next (V' := [(2, _), (7, _), (8, _), (9, _), (10, _), (11, _), (12, _), (13, _)]) ⟨rfl, rfl, rfl, rfl, rfl, rfl, rfl, rfl, trivial⟩ ?_)
        refine CX.draw 13 [(0, 256, 302231454903657293676544), (0, 4096, 604462909807314587353088), (0, 256, 1208925819614629174706176), (0, 8192, 2417851639229258349412352), (0, 256, 4835703278458516698824704), (0, 8192, 9671406556917033397649408), (48, 14507109835375550096474112, 19342813113834066795298816), (64, 19342813113834066795298816, 38685626227668133590597632), (0, 256, 77371252455336267181195264), (0, 4096, 154742504910672534362390528), (768, 232113757366008801543585792, 309485009821345068724781056), (1024, 309485009821345068724781056, 618970019642690137449562112), (2291, 906694364710971881029632, 1237940039285380274899124224), (6387, 1276625665513048408489721856, 0), (16383, 3626777458843887524118528, 2475880078570760549798248448), (32767, 3094850098213450687247810560, 0)] (by kernel_rfl) (by kernel_rfl) (by kernel_rfl) ?_
        refine DX.takeW 0 1 (by kernel_rfl) rfl rfl rfl rfl rfl (yw_move rfl rfl) ?_
        refine DX.takeW 1 3 (by kernel_rfl) rfl rfl rfl rfl rfl (yw_move rfl rfl) ?_
        refine DX.takeW 2 7 (by kernel_rfl) rfl rfl rfl rfl rfl (yw_move rfl rfl) ?_
        refine DX.takeW 3 15 (by kernel_rfl) rfl rfl rfl rfl rfl (yw_move rfl rfl) ?_
        refine DX.takeW 4 31 (by kernel_rfl) rfl rfl rfl rfl rfl (yw_move rfl rfl) ?_
        refine DX.takeW 5 63 (by kernel_rfl) rfl rfl rfl rfl rfl (yw_move rfl rfl) ?_
        refine DX.takeW 6 127 (by kernel_rfl) rfl rfl rfl rfl rfl (yw_index (k := (pickN (Prod.snd p0) ls.length)) rfl slt_36 rfl rfl (by omega) (by omega) hA1) ?_
        refine DX.take 7 255 (by kernel_rfl) rfl rfl rfl rfl rfl (List.Sublist.refl _) (y_rowElem1 (i := 1) rfl rfl one_3 rfl (map_get (map_get hxb))) ?_
        refine DX.takeW 8 511 (by kernel_rfl) rfl rfl rfl rfl rfl (yw_move rfl rfl) ?_
        refine DX.takeW 9 1023 (by kernel_rfl) rfl rfl rfl rfl rfl (yw_move rfl rfl) ?_
        refine DX.takeW 10 2047 (by kernel_rfl) rfl rfl rfl rfl rfl (yw_index (k := (pickN (Prod.fst p0) ls.length)) rfl slt_36 rfl rfl (by omega) (by omega) hA1) ?_
        refine DX.take 11 4095 (by kernel_rfl) rfl rfl rfl rfl rfl (List.Sublist.refl _) (y_rowElem1 (i := 1) rfl rfl one_3 rfl (map_get (map_get hxa))) ?_
        refine DX.takeW 12 8191 (by kernel_rfl) rfl rfl rfl rfl rfl (yw_index (k := (pickN (Prod.fst p0) ls.length)) rfl slt_36 rfl rfl (by omega) (by omega) hA1) ?_
        refine DX.stepT 13 16383 (by kernel_rfl) rfl rfl rfl rfl (op_storeElemE (i := 1) (k := (pickN (Prod.fst p0) ls.length)) (ys := List.map iR (List.map (jud rs ls) (M.set (pickN (Prod.fst p0) ls.length) xb))) rfl rfl rfl rfl szt_3 rfl (plain_of rfl) rfl (by rw [List.length_map, List.length_map]; omega) (map_setJ (jud rs ls) _ _ _) ?_)
        refine DX.takeW 14 32767 (by kernel_rfl) rfl rfl rfl rfl rfl (yw_index (k := (pickN (Prod.snd p0) ls.length)) rfl slt_36 rfl rfl (by omega) (by omega) hA1) ?_
        refine DX.stepT 15 65535 (by kernel_rfl) rfl rfl rfl rfl (op_storeElemE (i := 1) (k := (pickN (Prod.snd p0) ls.length)) (ys := List.map iR (List.map (jud rs ls) ((M.set (pickN (Prod.fst p0) ls.length) xb).set (pickN (Prod.snd p0) ls.length) xa))) rfl rfl rfl rfl szt_3 rfl (plain_of rfl) rfl (by rw [List.length_map, List.length_map, List.length_set]; omega) (map_setJ (jud rs ls) _ _ _) ?_)
        refine DX.done (by kernel_rfl) (XX.next (V' := [(2, _), (7, _), (8, _), (9, _), (10, _), (11, _)]) ⟨rfl, rfl, rfl, rfl, rfl, rfl, trivial⟩ ?_)
        refine CX.seq ?_
        refine CX.region ?_
        refine RX.cons rfl rfl (op_w (yw_move rfl rfl) rfl rfl ?_)
        refine RX.cons rfl rfl (op_w (yw_lenS rfl Try.underlying30 rfl) rfl rfl ?_)
        refine RX.cons rfl rfl (op_w (yw_gtr rfl rfl rfl) rfl rfl ?_)
        refine RX.nil (XX.next (V' := [(2, _), (7, _), (8, _), (9, _), (10, _), (11, _), (94, _)]) ⟨rfl, rfl, rfl, rfl, rfl, rfl, rfl, trivial⟩ ?_)
        refine CX.condD (p := 0 < ((rs.length : Nat) : Int)) rfl (fun c94 => ?_) (fun c94 => ?_)
        · have ha2 := pickN_lt (Prod.fst p0) (n := rs.length) (by omega)
          have hb2 := pickN_lt (Prod.snd p0) (n := rs.length) (by omega)
          obtain ⟨ra, hra⟩ := get_some (l := RR) (k := (pickN (Prod.fst p0) rs.length)) (by omega)
          obtain ⟨rb, hrb⟩ := get_some (l := RR) (k := (pickN (Prod.snd p0) rs.length)) (by omega)
          refine CX.rowSome 2 rfl (by rw [List.length_map]; omega) (fun hA6 => ?_)
          refine CX.seq ?_
          refine CX.region ?_
          refine RX.cons rfl rfl (op_w (yw_move rfl rfl) rfl rfl ?_)
          refine RX.cons rfl rfl (op_w (yw_move rfl rfl) rfl rfl ?_)
          refine RX.cons rfl rfl (op_w (yw_index (k := i) rfl slt_41 rfl rfl (by omega) (by omega) hAS) rfl rfl ?_)
          refine RX.cons rfl rfl (op_w (yw_indexArrE (k := 0) rfl Try.underlying42 szt_3 rfl rfl rfl (by decide)) rfl rfl ?_)
          refine RX.cons rfl rfl (op_yld (y_elemF rfl rfl one_3 hrS (by simp) (map_get hp0) rfl) rfl rfl ?_)
          refine RX.cons rfl rfl (op_w (yw_move rfl rfl) rfl rfl ?_)
          refine RX.cons rfl rfl (op_w (yw_lenS rfl Try.underlying30 rfl) rfl rfl ?_)
          refine RX.cons rfl rfl (op_callV (v := .int .i64 ((pickN (Prod.fst p0) rs.length : Nat) : Int)) rfl rfl rfl rfl rfl ent_15 (fun w hw => w_pick (Prod.fst p0) rs.length (by omega) (by omega) (by omega)) ?_)
          refine RX.cons rfl rfl (op_w (yw_assign rfl rfl) rfl rfl ?_)
          refine RX.nil (XX.next (V' := [(2, _), (7, _), (8, _), (9, _), (10, _), (11, _), (14, _)]) ⟨rfl, rfl, rfl, rfl, rfl, rfl, rfl, trivial⟩ ?_)
          refine CX.seq ?_
          refine CX.region ?_
          refine RX.cons rfl rfl (op_w (yw_move rfl rfl) rfl rfl ?_)
          refine RX.cons rfl rfl (op_w (yw_move rfl rfl) rfl rfl ?_)
          refine RX.cons rfl rfl (op_w (yw_index (k := i) rfl slt_41 rfl rfl (by omega) (by omega) hAS) rfl rfl ?_)
          refine RX.cons rfl rfl (op_w (yw_indexArrE (k := 1) rfl Try.underlying42 szt_3 rfl rfl rfl (by decide)) rfl rfl ?_)
          refine RX.cons rfl rfl (op_yld (y_elemF rfl rfl one_3 hrS (by simp) (map_get hp0) rfl) rfl rfl ?_)
          refine RX.cons rfl rfl (op_w (yw_move rfl rfl) rfl rfl ?_)
          refine RX.cons rfl rfl (op_w (yw_lenS rfl Try.underlying30 rfl) rfl rfl ?_)
          refine RX.cons rfl rfl (op_callV (v := .int .i64 ((pickN (Prod.snd p0) rs.length : Nat) : Int)) rfl rfl rfl rfl rfl ent_15 (fun w hw => w_pick (Prod.snd p0) rs.length (by omega) (by omega) (by omega)) ?_)
          refine RX.cons rfl rfl (op_w (yw_assign rfl rfl) rfl rfl ?_)
          refine RX.nil (XX.next (V' := [(2, _), (7, _), (8, _), (9, _), (10, _), (11, _), (14, _), (15, _)]) ⟨rfl, rfl, rfl, rfl, rfl, rfl, rfl, rfl, trivial⟩ ?_)
          refine CX.draw 13 [(0, 1024, 2596148429267413814265248164610048), (0, 16384, 5192296858534827628530496329220096), (0, 1024, 10384593717069655257060992658440192), (0, 32768, 20769187434139310514121985316880384), (0, 1024, 41538374868278621028243970633760768), (0, 32768, 83076749736557242056487941267521536), (48, 124615124604835863084731911901282304, 166153499473114484112975882535043072), (64, 166153499473114484112975882535043072, 332306998946228968225951765070086144), (0, 1024, 664613997892457936451903530140172288), (0, 16384, 1329227995784915872903807060280344576), (768, 1993841993677373809355710590420516864, 2658455991569831745807614120560689152), (1024, 2658455991569831745807614120560689152, 5316911983139663491615228241121378304), (2291, 7788445287802241442795744493830144, 10633823966279326983230456482242756608), (6387, 10966130965225555951456408247312842752, 0), (16383, 31153781151208965771182977975320576, 21267647932558653966460912964485513216), (32767, 26584559915698317458076141205606891520, 0)] (by kernel_rfl) (by kernel_rfl) (by kernel_rfl) ?_
          refine DX.takeW 0 1 (by kernel_rfl) rfl rfl rfl rfl rfl (yw_move rfl rfl) ?_
          refine DX.takeW 1 3 (by kernel_rfl) rfl rfl rfl rfl rfl (yw_move rfl rfl) ?_
          refine DX.takeW 2 7 (by kernel_rfl) rfl rfl rfl rfl rfl (yw_move rfl rfl) ?_
          refine DX.takeW 3 15 (by kernel_rfl) rfl rfl rfl rfl rfl (yw_move rfl rfl) ?_
          refine DX.takeW 4 31 (by kernel_rfl) rfl rfl rfl rfl rfl (yw_move rfl rfl) ?_
          refine DX.takeW 5 63 (by kernel_rfl) rfl rfl rfl rfl rfl (yw_move rfl rfl) ?_
          refine DX.takeW 6 127 (by kernel_rfl) rfl rfl rfl rfl rfl (yw_index (k := (pickN (Prod.snd p0) rs.length)) rfl slt_30 rfl rfl (by omega) (by omega) hA6) ?_
          refine DX.take 7 255 (by kernel_rfl) rfl rfl rfl rfl rfl (List.Sublist.refl _) (y_rowElem (i := 2) rfl rfl agg_44 rfl (map_get hrb)) ?_
          refine DX.takeW 8 511 (by kernel_rfl) rfl rfl rfl rfl rfl (yw_move rfl rfl) ?_
          refine DX.takeW 9 1023 (by kernel_rfl) rfl rfl rfl rfl rfl (yw_move rfl rfl) ?_
          refine DX.takeW 10 2047 (by kernel_rfl) rfl rfl rfl rfl rfl (yw_index (k := (pickN (Prod.fst p0) rs.length)) rfl slt_30 rfl rfl (by omega) (by omega) hA6) ?_
          refine DX.take 11 4095 (by kernel_rfl) rfl rfl rfl rfl rfl (List.Sublist.refl _) (y_rowElem (i := 2) rfl rfl agg_44 rfl (map_get hra)) ?_
          refine DX.takeW 12 8191 (by kernel_rfl) rfl rfl rfl rfl rfl (yw_index (k := (pickN (Prod.fst p0) rs.length)) rfl slt_30 rfl rfl (by omega) (by omega) hA6) ?_
          refine DX.stepT 13 16383 (by kernel_rfl) rfl rfl rfl rfl (op_storeElemE (i := 2) (k := (pickN (Prod.fst p0) rs.length)) (ys := List.map ruC (RR.set (pickN (Prod.fst p0) rs.length) rb)) rfl rfl rfl rfl szt_44 rfl (plain_of rfl) rfl (by rw [List.length_map]; omega) (map_setC ruC _ _ _) ?_)
          refine DX.takeW 14 32767 (by kernel_rfl) rfl rfl rfl rfl rfl (yw_index (k := (pickN (Prod.snd p0) rs.length)) rfl slt_30 rfl rfl (by omega) (by omega) hA6) ?_
          refine DX.stepT 15 65535 (by kernel_rfl) rfl rfl rfl rfl (op_storeElemE (i := 2) (k := (pickN (Prod.snd p0) rs.length)) (ys := List.map ruC ((RR.set (pickN (Prod.fst p0) rs.length) rb).set (pickN (Prod.snd p0) rs.length) ra)) rfl rfl rfl rfl szt_44 rfl (plain_of rfl) rfl (by rw [List.length_map, List.length_set]; omega) (map_setC ruC _ _ _) ?_)
          refine DX.done (by kernel_rfl) (XX.inBlock (V' := [(2, _), (7, _), (8, _), (9, _), (10, _), (11, _)]) ⟨rfl, rfl, rfl, rfl, rfl, rfl, trivial⟩ ?_)
          refine XX.next (V' := [(2, _), (7, _), (8, _), (9, _), (10, _), (11, _)]) ⟨rfl, rfl, rfl, rfl, rfl, rfl, trivial⟩ ?_
          refine CX.region ?_
          refine RX.cons rfl rfl (op_w (yw_move rfl rfl) rfl rfl ?_)
          refine RX.cons rfl rfl (op_w (yw_add rfl rfl rfl (by omega) (by omega)) rfl rfl ?_)
          refine RX.cons rfl rfl (op_w (yw_assign rfl rfl) rfl rfl ?_)
          refine RX.nil (XX.againP ([]) (i + 1, ((M.set (pickN (Prod.fst p0) ls.length) xb).set (pickN (Prod.snd p0) ls.length) xa), ((RR.set (pickN (Prod.fst p0) rs.length) rb).set (pickN (Prod.snd p0) rs.length) ra)) (by dsimp only; omega) ⟨by dsimp only; omega, by dsimp only; omega, (swap_perm hxa hxb).trans hPM, (swap_perm hra hrb).trans hPR⟩ ⟨rfl, rfl, rfl, rfl, rfl, rfl, trivial⟩ ((perm_pick 0 rfl).trans (List.Perm.cons _ ((perm_pick 0 rfl).trans (List.Perm.cons _ ((perm_pick 0 rfl).trans (List.Perm.cons _ (List.Perm.refl _))))))))
        · refine CX.skip (XX.inBlock (V' := [(2, _), (7, _), (8, _), (9, _), (10, _), (11, _)]) ⟨rfl, rfl, rfl, rfl, rfl, rfl, trivial⟩ ?_)
          refine XX.next (V' := [(2, _), (7, _), (8, _), (9, _), (10, _), (11, _)]) ⟨rfl, rfl, rfl, rfl, rfl, rfl, trivial⟩ ?_
          refine CX.region ?_
          refine RX.cons rfl rfl (op_w (yw_move rfl rfl) rfl rfl ?_)
          refine RX.cons rfl rfl (op_w (yw_add rfl rfl rfl (by omega) (by omega)) rfl rfl ?_)
          refine RX.cons rfl rfl (op_w (yw_assign rfl rfl) rfl rfl ?_)
          refine RX.nil (XX.againP ([]) (i + 1, ((M.set (pickN (Prod.fst p0) ls.length) xb).set (pickN (Prod.snd p0) ls.length) xa), RR) (by dsimp only; omega) ⟨by dsimp only; omega, by dsimp only; omega, (swap_perm hxa hxb).trans hPM, hPR⟩ ⟨rfl, rfl, rfl, rfl, rfl, rfl, trivial⟩ ((perm_pick 0 rfl).trans (List.Perm.cons _ ((perm_pick 0 rfl).trans (List.Perm.cons _ ((perm_pick 0 rfl).trans (List.Perm.cons _ (List.Perm.refl _))))))))
      · refine CX.skip (XX.next (V' := [(2, _), (7, _), (8, _), (9, _), (10, _), (11, _)]) ⟨rfl, rfl, rfl, rfl, rfl, rfl, trivial⟩ ?_)
        refine CX.seq ?_
        refine CX.region ?_
        refine RX.cons rfl rfl (op_w (yw_move rfl rfl) rfl rfl ?_)
        refine RX.cons rfl rfl (op_w (yw_lenS rfl Try.underlying30 rfl) rfl rfl ?_)
        refine RX.cons rfl rfl (op_w (yw_gtr rfl rfl rfl) rfl rfl ?_)
        refine RX.nil (XX.next (V' := [(2, _), (7, _), (8, _), (9, _), (10, _), (11, _), (94, _)]) ⟨rfl, rfl, rfl, rfl, rfl, rfl, rfl, trivial⟩ ?_)
        refine CX.condD (p := 0 < ((rs.length : Nat) : Int)) rfl (fun c94 => ?_) (fun c94 => ?_)
        · have ha2 := pickN_lt (Prod.fst p0) (n := rs.length) (by omega)
          have hb2 := pickN_lt (Prod.snd p0) (n := rs.length) (by omega)
          obtain ⟨ra, hra⟩ := get_some (l := RR) (k := (pickN (Prod.fst p0) rs.length)) (by omega)
          obtain ⟨rb, hrb⟩ := get_some (l := RR) (k := (pickN (Prod.snd p0) rs.length)) (by omega)
          refine CX.rowSome 2 rfl (by rw [List.length_map]; omega) (fun hA6 => ?_)
          refine CX.seq ?_
          refine CX.region ?_
          refine RX.cons rfl rfl (op_w (yw_move rfl rfl) rfl rfl ?_)
          refine RX.cons rfl rfl (op_w (yw_move rfl rfl) rfl rfl ?_)
          refine RX.cons rfl rfl (op_w (yw_index (k := i) rfl slt_41 rfl rfl (by omega) (by omega) hAS) rfl rfl ?_)
          refine RX.cons rfl rfl (op_w (yw_indexArrE (k := 0) rfl Try.underlying42 szt_3 rfl rfl rfl (by decide)) rfl rfl ?_)
          refine RX.cons rfl rfl (op_yld (y_elemF rfl rfl one_3 hrS (by simp) (map_get hp0) rfl) rfl rfl ?_)
          refine RX.cons rfl rfl (op_w (yw_move rfl rfl) rfl rfl ?_)
          refine RX.cons rfl rfl (op_w (yw_lenS rfl Try.underlying30 rfl) rfl rfl ?_)
          refine RX.cons rfl rfl (op_callV (v := .int .i64 ((pickN (Prod.fst p0) rs.length : Nat) : Int)) rfl rfl rfl rfl rfl ent_15 (fun w hw => w_pick (Prod.fst p0) rs.length (by omega) (by omega) (by omega)) ?_)
          refine RX.cons rfl rfl (op_w (yw_assign rfl rfl) rfl rfl ?_)
          refine RX.nil (XX.next (V' := [(2, _), (7, _), (8, _), (9, _), (10, _), (11, _), (14, _)]) ⟨rfl, rfl, rfl, rfl, rfl, rfl, rfl, trivial⟩ ?_)
          refine CX.seq ?_
          refine CX.region ?_
          refine RX.cons rfl rfl (op_w (yw_move rfl rfl) rfl rfl ?_)
          refine RX.cons rfl rfl (op_w (yw_move rfl rfl) rfl rfl ?_)
          refine RX.cons rfl rfl (op_w (yw_index (k := i) rfl slt_41 rfl rfl (by omega) (by omega) hAS) rfl rfl ?_)
          refine RX.cons rfl rfl (op_w (yw_indexArrE (k := 1) rfl Try.underlying42 szt_3 rfl rfl rfl (by decide)) rfl rfl ?_)
          refine RX.cons rfl rfl (op_yld (y_elemF rfl rfl one_3 hrS (by simp) (map_get hp0) rfl) rfl rfl ?_)
          refine RX.cons rfl rfl (op_w (yw_move rfl rfl) rfl rfl ?_)
          refine RX.cons rfl rfl (op_w (yw_lenS rfl Try.underlying30 rfl) rfl rfl ?_)
          refine RX.cons rfl rfl (op_callV (v := .int .i64 ((pickN (Prod.snd p0) rs.length : Nat) : Int)) rfl rfl rfl rfl rfl ent_15 (fun w hw => w_pick (Prod.snd p0) rs.length (by omega) (by omega) (by omega)) ?_)
          refine RX.cons rfl rfl (op_w (yw_assign rfl rfl) rfl rfl ?_)
          refine RX.nil (XX.next (V' := [(2, _), (7, _), (8, _), (9, _), (10, _), (11, _), (14, _), (15, _)]) ⟨rfl, rfl, rfl, rfl, rfl, rfl, rfl, rfl, trivial⟩ ?_)
          refine CX.draw 13 [(0, 1024, 2596148429267413814265248164610048), (0, 16384, 5192296858534827628530496329220096), (0, 1024, 10384593717069655257060992658440192), (0, 32768, 20769187434139310514121985316880384), (0, 1024, 41538374868278621028243970633760768), (0, 32768, 83076749736557242056487941267521536), (48, 124615124604835863084731911901282304, 166153499473114484112975882535043072), (64, 166153499473114484112975882535043072, 332306998946228968225951765070086144), (0, 1024, 664613997892457936451903530140172288), (0, 16384, 1329227995784915872903807060280344576), (768, 1993841993677373809355710590420516864, 2658455991569831745807614120560689152), (1024, 2658455991569831745807614120560689152, 5316911983139663491615228241121378304), (2291, 7788445287802241442795744493830144, 10633823966279326983230456482242756608), (6387, 10966130965225555951456408247312842752, 0), (16383, 31153781151208965771182977975320576, 21267647932558653966460912964485513216), (32767, 26584559915698317458076141205606891520, 0)] (by kernel_rfl) (by kernel_rfl) (by kernel_rfl) ?_
          refine DX.takeW 0 1 (by kernel_rfl) rfl rfl rfl rfl rfl (yw_move rfl rfl) ?_
          refine DX.takeW 1 3 (by kernel_rfl) rfl rfl rfl rfl rfl (yw_move rfl rfl) ?_
          refine DX.takeW 2 7 (by kernel_rfl) rfl rfl rfl rfl rfl (yw_move rfl rfl) ?_
          refine DX.takeW 3 15 (by kernel_rfl) rfl rfl rfl rfl rfl (yw_move rfl rfl) ?_
          refine DX.takeW 4 31 (by kernel_rfl) rfl rfl rfl rfl rfl (yw_move rfl rfl) ?_
          refine DX.takeW 5 63 (by kernel_rfl) rfl rfl rfl rfl rfl (yw_move rfl rfl) ?_
          refine DX.takeW 6 127 (by kernel_rfl) rfl rfl rfl rfl rfl (yw_index (k := (pickN (Prod.snd p0) rs.length)) rfl slt_30 rfl rfl (by omega) (by omega) hA6) ?_
          refine DX.take 7 255 (by kernel_rfl) rfl rfl rfl rfl rfl (List.Sublist.refl _) (y_rowElem (i := 2) rfl rfl agg_44 rfl (map_get hrb)) ?_
          refine DX.takeW 8 511 (by kernel_rfl) rfl rfl rfl rfl rfl (yw_move rfl rfl) ?_
          refine DX.takeW 9 1023 (by kernel_rfl) rfl rfl rfl rfl rfl (yw_move rfl rfl) ?_
          refine DX.takeW 10 2047 (by kernel_rfl) rfl rfl rfl rfl rfl (yw_index (k := (pickN (Prod.fst p0) rs.length)) rfl slt_30 rfl rfl (by omega) (by omega) hA6) ?_
          refine DX.take 11 4095 (by kernel_rfl) rfl rfl rfl rfl rfl (List.Sublist.refl _) (y_rowElem (i := 2) rfl rfl agg_44 rfl (map_get hra)) ?_
          refine DX.takeW 12 8191 (by kernel_rfl) rfl rfl rfl rfl rfl (yw_index (k := (pickN (Prod.fst p0) rs.length)) rfl slt_30 rfl rfl (by omega) (by omega) hA6) ?_
          refine DX.stepT 13 16383 (by kernel_rfl) rfl rfl rfl rfl (op_storeElemE (i := 2) (k := (pickN (Prod.fst p0) rs.length)) (ys := List.map ruC (RR.set (pickN (Prod.fst p0) rs.length) rb)) rfl rfl rfl rfl szt_44 rfl (plain_of rfl) rfl (by rw [List.length_map]; omega) (map_setC ruC _ _ _) ?_)
          refine DX.takeW 14 32767 (by kernel_rfl) rfl rfl rfl rfl rfl (yw_index (k := (pickN (Prod.snd p0) rs.length)) rfl slt_30 rfl rfl (by omega) (by omega) hA6) ?_
          refine DX.stepT 15 65535 (by kernel_rfl) rfl rfl rfl rfl (op_storeElemE (i := 2) (k := (pickN (Prod.snd p0) rs.length)) (ys := List.map ruC ((RR.set (pickN (Prod.fst p0) rs.length) rb).set (pickN (Prod.snd p0) rs.length) ra)) rfl rfl rfl rfl szt_44 rfl (plain_of rfl) rfl (by rw [List.length_map, List.length_set]; omega) (map_setC ruC _ _ _) ?_)
          refine DX.done (by kernel_rfl) (XX.inBlock (V' := [(2, _), (7, _), (8, _), (9, _), (10, _), (11, _)]) ⟨rfl, rfl, rfl, rfl, rfl, rfl, trivial⟩ ?_)
          refine XX.next (V' := [(2, _), (7, _), (8, _), (9, _), (10, _), (11, _)]) ⟨rfl, rfl, rfl, rfl, rfl, rfl, trivial⟩ ?_
          refine CX.region ?_
          refine RX.cons rfl rfl (op_w (yw_move rfl rfl) rfl rfl ?_)
          refine RX.cons rfl rfl (op_w (yw_add rfl rfl rfl (by omega) (by omega)) rfl rfl ?_)
          refine RX.cons rfl rfl (op_w (yw_assign rfl rfl) rfl rfl ?_)
          refine RX.nil (XX.againP ([]) (i + 1, M, ((RR.set (pickN (Prod.fst p0) rs.length) rb).set (pickN (Prod.snd p0) rs.length) ra)) (by dsimp only; omega) ⟨by dsimp only; omega, by dsimp only; omega, hPM, (swap_perm hra hrb).trans hPR⟩ ⟨rfl, rfl, rfl, rfl, rfl, rfl, trivial⟩ ((perm_pick 0 rfl).trans (List.Perm.cons _ ((perm_pick 0 rfl).trans (List.Perm.cons _ ((perm_pick 0 rfl).trans (List.Perm.cons _ (List.Perm.refl _))))))))
        · refine CX.skip (XX.inBlock (V' := [(2, _), (7, _), (8, _), (9, _), (10, _), (11, _)]) ⟨rfl, rfl, rfl, rfl, rfl, rfl, trivial⟩ ?_)
          refine XX.next (V' := [(2, _), (7, _), (8, _), (9, _), (10, _), (11, _)]) ⟨rfl, rfl, rfl, rfl, rfl, rfl, trivial⟩ ?_
          refine CX.region ?_
          refine RX.cons rfl rfl (op_w (yw_move rfl rfl) rfl rfl ?_)
          refine RX.cons rfl rfl (op_w (yw_add rfl rfl rfl (by omega) (by omega)) rfl rfl ?_)
          refine RX.cons rfl rfl (op_w (yw_assign rfl rfl) rfl rfl ?_)
          refine RX.nil (XX.againP ([]) (i + 1, M, RR) (by dsimp only; omega) ⟨by dsimp only; omega, by dsimp only; omega, hPM, hPR⟩ ⟨rfl, rfl, rfl, rfl, rfl, rfl, trivial⟩ ((perm_pick 0 rfl).trans (List.Perm.cons _ ((perm_pick 0 rfl).trans (List.Perm.cons _ ((perm_pick 0 rfl).trans (List.Perm.cons _ (List.Perm.refl _))))))))
    · refine CX.exit ?_
      refine XX.then_exit ?_
      refine XX.then_exit ?_
      refine XX.block_exit ?_
      refine XX.next (V' := [(7, _), (8, _), (9, _), (10, _)]) ⟨rfl, rfl, rfl, rfl, trivial⟩ ?_
      refine CX.seq ?_
      refine CX.know (t := 9) (u := .slice A5 (List.length (M : List Sm)) c5) rfl (by rw [hMn]) ?_
      refine CX.know (t := 10) (u := .slice A6 (List.length (RR : List Ru)) c6) rfl (by rw [hRn]) ?_
      refine CX.know (t := 8) (u := .slice A1 (List.length ((List.map (jud rs ls) M) : List Int)) c1) rfl (by rw [List.length_map, hMn]) ?_
      refine CX.region ?_
      refine RX.cons rfl rfl (op_w (yw_move rfl rfl) rfl rfl ?_)
      refine RX.cons rfl rfl (op_w (yw_move rfl rfl) rfl rfl ?_)
      refine RX.consG rfl rfl rfl rfl rfl (op_w (yw_move rfl rfl) rfl rfl ?_)
      refine RX.consG rfl rfl rfl rfl rfl (op_w (yw_move rfl rfl) rfl rfl ?_)
      refine RX.consG rfl rfl rfl rfl rfl (op_callE rfl rfl rfl rfl rfl ent_19 (fun w hw => w_Judge RR M (Ent.rd (hw.ents _ (List.mem_of_getElem? (i := 2) rfl))) (Ent.rd (hw.ents _ (List.mem_of_getElem? (i := 0) rfl))) (by omega) (by omega)) (fun ⟨A3, c3⟩ _ => ?_))
      refine RX.consG rfl rfl rfl rfl rfl (op_w (yw_move rfl rfl) rfl rfl ?_)
      refine RX.consG rfl rfl rfl rfl rfl (op_callV (v := .bool (decide ((List.map (jud RR M) M) = (List.map (jud rs ls) M)))) rfl rfl rfl rfl rfl ent_18 (fun w hw => w_sameInts (List.map (jud RR M) M) (List.map (jud rs ls) M) (Ent.rd (hw.ents _ (List.mem_of_getElem? (i := 0) rfl))) (Ent.rd (hw.ents _ (List.mem_of_getElem? (i := 2) rfl))) (by rw [List.length_map]; omega)) ?_)
      refine RX.know (t := 131) (u := .bool true) rfl (congrArg Value.bool (decide_eq_true (List.map_congr_left fun x _ => jud_perm hPR hPM x))) ?_
      refine RX.cons rfl rfl (op_w (yw_pickT rfl rfl rfl) rfl rfl ?_)
      refine RX.cons rfl rfl (op_w (yw_assign rfl rfl) rfl rfl ?_)
      refine RX.nil (XX.next (V' := [(6, .bool true)]) ⟨rfl, trivial⟩ ?_)
      refine CX.ret ?_
      exact ret_tmp rfl rfl fun w1 hw => ⟨rfl, hw.sub (List.nil_sublist _)⟩
  · refine RX.skip rfl rfl rfl rfl rfl rfl rfl ?_
    refine RX.skip rfl rfl rfl rfl rfl rfl rfl ?_
    refine RX.cons rfl rfl (op_w (yw_pickF rfl rfl rfl) rfl rfl ?_)
    refine RX.nil (XX.next (V' := [(2, _), (7, _), (8, _), (9, _), (10, _), (11, _), (42, _)]) ⟨rfl, rfl, rfl, rfl, rfl, rfl, rfl, trivial⟩ ?_)
    refine CX.condF rfl ?_
    refine CX.exit ?_
    refine XX.then_exit ?_
    refine XX.then_exit ?_
    refine XX.block_exit ?_
    refine XX.next (V' := [(7, _), (8, _), (9, _), (10, _)]) ⟨rfl, rfl, rfl, rfl, trivial⟩ ?_
    refine CX.seq ?_
    refine CX.know (t := 9) (u := .slice A5 (List.length (M : List Sm)) c5) rfl (by rw [hMn]) ?_
    refine CX.know (t := 10) (u := .slice A6 (List.length (RR : List Ru)) c6) rfl (by rw [hRn]) ?_
    refine CX.know (t := 8) (u := .slice A1 (List.length ((List.map (jud rs ls) M) : List Int)) c1) rfl (by rw [List.length_map, hMn]) ?_
    refine CX.region ?_
    refine RX.cons rfl rfl (op_w (yw_move rfl rfl) rfl rfl ?_)
    refine RX.cons rfl rfl (op_w (yw_move rfl rfl) rfl rfl ?_)
    refine RX.consG rfl rfl rfl rfl rfl (op_w (yw_move rfl rfl) rfl rfl ?_)
    refine RX.consG rfl rfl rfl rfl rfl (op_w (yw_move rfl rfl) rfl rfl ?_)
    refine RX.consG rfl rfl rfl rfl rfl (op_callE rfl rfl rfl rfl rfl ent_19 (fun w hw => w_Judge RR M (Ent.rd (hw.ents _ (List.mem_of_getElem? (i := 2) rfl))) (Ent.rd (hw.ents _ (List.mem_of_getElem? (i := 0) rfl))) (by omega) (by omega)) (fun ⟨A3, c3⟩ _ => ?_))
    refine RX.consG rfl rfl rfl rfl rfl (op_w (yw_move rfl rfl) rfl rfl ?_)
    refine RX.consG rfl rfl rfl rfl rfl (op_callV (v := .bool (decide ((List.map (jud RR M) M) = (List.map (jud rs ls) M)))) rfl rfl rfl rfl rfl ent_18 (fun w hw => w_sameInts (List.map (jud RR M) M) (List.map (jud rs ls) M) (Ent.rd (hw.ents _ (List.mem_of_getElem? (i := 0) rfl))) (Ent.rd (hw.ents _ (List.mem_of_getElem? (i := 2) rfl))) (by rw [List.length_map]; omega)) ?_)
    refine RX.know (t := 131) (u := .bool true) rfl (congrArg Value.bool (decide_eq_true (List.map_congr_left fun x _ => jud_perm hPR hPM x))) ?_
    refine RX.cons rfl rfl (op_w (yw_pickT rfl rfl rfl) rfl rfl ?_)
    refine RX.cons rfl rfl (op_w (yw_assign rfl rfl) rfl rfl ?_)
    refine RX.nil (XX.next (V' := [(6, .bool true)]) ⟨rfl, trivial⟩ ?_)
    refine CX.ret ?_
    exact ret_tmp rfl rfl fun w1 hw => ⟨rfl, hw.sub (List.nil_sublist _)⟩

end Go.Proofs.Ytpcfgoadkfajfaa
