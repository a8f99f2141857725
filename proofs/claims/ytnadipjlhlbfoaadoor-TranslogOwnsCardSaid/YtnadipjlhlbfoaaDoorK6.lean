/- Walks, printed by a program. Proofs and extensions without fuel, for the walks. Walks, printed by a program. Walks, printed by a program. Verifying: aids for the walks. -/
import Derived.Test.YtnadipjlhlbfoaaDoorK5
namespace Go.Proofs.YtnadipjlhlbfoaaDoor
set_option linter.all false
open Go Go.RowKit
set_option maxRecDepth 100000
theorem ent_53 : ∀ args w, (callFunc 53 args).run Tryd.prog w = .ok (.enter 53 args) w := enters_of Tryd.func53 (by kernel_rfl) rfl
theorem zero_9 : Zero Tryd.prog 9 (.string .empty) := ⟨(Tryd.prog.info? 9).get!, by kernel_rfl, by kernel_rfl⟩
theorem ent_55 : ∀ args w, (callFunc 55 args).run Tryd.prog w = .ok (.enter 55 args) w := enters_of Tryd.func55 (by kernel_rfl) rfl
theorem ent_78 : ∀ args w, (callFunc 78 args).run Tryd.prog w = .ok (.enter 78 args) w := enters_of Tryd.func78 (by kernel_rfl) rfl
set_option maxRecDepth 100000 in
theorem w_root {w : World} {A : Option Addr} {cap : Nat} (xs : List ByteArray) (hG : Rounds w) (hr : Rd w A 1 (xs.map strC)) (hl : xs.length ≤ 1099511627776) (hsz : ∀ s ∈ xs, s.size ≤ 4294967296) :
    Calls Tryd.prog 30 #[.slice A xs.length cap] w (fun e w' => e = .returned (.string (root sum xs)) ∧ SL w [] w' []) := by
  refine calls_of_CXM (O := []) (L := []) (args := [.slice A xs.length cap]) Tryd.func30 rfl (by simp [Tryd.ntmps30]) (SL.refl w) ?_
  refine CX.sub (V' := [(0, .slice A xs.length cap)]) ⟨rfl, trivial⟩ ?_
  refine CX.seq ?_
  refine CX.region ?_
  refine RX.cons rfl rfl (op_w (yw_assign rfl rfl) rfl rfl ?_)
  refine RX.nil (XX.next (V' := [(0, .slice A xs.length cap), (2, .string .empty)]) ⟨rfl, rfl, trivial⟩ ?_)
  refine CX.seq ?_
  refine CX.region ?_
  refine RX.cons rfl rfl (op_w (yw_assign rfl rfl) rfl rfl ?_)
  refine RX.nil (XX.next (V' := [(0, .slice A xs.length cap), (2, .string .empty), (3, .slice none 0 0)]) ⟨rfl, rfl, rfl, trivial⟩ ?_)
  refine CX.seq ?_
  refine CX.region ?_
  refine RX.cons rfl rfl (op_w (yw_assign rfl rfl) rfl rfl ?_)
  refine RX.nil (XX.next (V' := [(0, .slice A xs.length cap), (2, .string .empty), (3, .slice none 0 0), (4, .slice none 0 0)]) ⟨rfl, rfl, rfl, rfl, trivial⟩ ?_)
  refine CX.seq ?_
  refine CX.seq ?_
  refine CX.region ?_
  refine RX.cons rfl rfl (op_w (yw_move rfl rfl) rfl rfl ?_)
  refine RX.cons rfl rfl (op_w (yw_lenS rfl Tryd.underlying35 rfl) rfl rfl ?_)
  refine RX.cons rfl rfl (op_w (yw_move rfl rfl) rfl rfl ?_)
  refine RX.nil (XX.next (V' := [(0, .slice A xs.length cap), (2, .string .empty), (3, .slice none 0 0), (4, .slice none 0 0), (11, .slice A xs.length cap), (12, .int .i64 ((xs.length : Nat) : Int)), (13, .int .i64 0)]) ⟨rfl, rfl, rfl, rfl, rfl, rfl, rfl, trivial⟩ ?_)
  refine CX.block ?_
  refine CX.rowNil 3 1 ?_
  refine CX.rowNil 9 1 ?_
  refine CX.loop (σ := Nat × (Option Addr × Nat) × (Option Addr × Nat) × List ByteArray × List Nat) (fun z => [(0, .slice A xs.length cap), (2, .string .empty), (3, .slice z.2.1.1 (List.length (z.2.2.2.1 : List ByteArray)) z.2.1.2), (4, .slice z.2.2.1.1 (List.length (z.2.2.2.2 : List Nat)) z.2.2.1.2), (11, .slice A xs.length cap), (12, .int .i64 ((xs.length : Nat) : Int)), (13, .int .i64 ((z.1 : Nat) : Int))]) (fun z => [.row z.2.1.1 z.2.1.2 9 1 (List.map strC z.2.2.2.1), .row z.2.2.1.1 z.2.2.1.2 3 1 (List.map intC z.2.2.2.2)]) (fun z => z.1 ≤ xs.length ∧ ∃ C, Parts C ∧ C.flatten = xs.take z.1 ∧ z.2.2.2.1 = C.map (root sum) ∧ z.2.2.2.2 = C.map List.length) (fun z => xs.length - z.1) (0, (none, 0), (none, 0), [], []) ⟨Nat.zero_le _, [], Parts.nil, rfl, rfl, rfl⟩ ⟨rfl, rfl, rfl, rfl, rfl, rfl, rfl, trivial⟩ rfl (fun z hI => ?_)
  obtain ⟨i, ⟨A1, c1⟩, ⟨A2, c2⟩, ws, ns⟩ := z
  dsimp only at hI ⊢
  obtain ⟨hi, C, hC, hCf, hws, hns⟩ := hI
  have hwl : ws.length = C.length := by rw [hws, List.length_map]
  have hnl : ns.length = C.length := by rw [hns, List.length_map]
  have hCl : C.length ≤ C.flatten.length := parts_le hC
  rw [hCf, List.length_take] at hCl
  refine CX.seq ?_
  refine CX.region ?_
  refine RX.cons rfl rfl (op_w (yw_lss rfl rfl rfl) rfl rfl ?_)
  refine RX.nil (XX.next (V' := [(0, .slice A xs.length cap), (2, .string .empty), (3, .slice A1 (List.length (ws : List ByteArray)) c1), (4, .slice A2 (List.length (ns : List Nat)) c2), (11, .slice A xs.length cap), (12, .int .i64 ((xs.length : Nat) : Int)), (13, .int .i64 ((i : Nat) : Int)), (14, .bool (decide (((i : Nat) : Int) < ((xs.length : Nat) : Int))))]) ⟨rfl, rfl, rfl, rfl, rfl, rfl, rfl, rfl, trivial⟩ ?_)
  refine CX.seq ?_
  refine CX.condD (p := ((i : Nat) : Int) < ((xs.length : Nat) : Int)) rfl (fun c14 => ?_) (fun c14 => ?_)
  · obtain ⟨s0, hs0⟩ := get_some (l := xs) (k := i) (by omega)
    have hA : ∃ b j, A = some ⟨b, j, none⟩ := hr.some (k := 0) (by simp; omega)
    have hs0l := hsz s0 (List.mem_of_getElem? hs0)
    refine CX.skip (XX.next (V' := [(0, .slice A xs.length cap), (2, .string .empty), (3, .slice A1 (List.length (ws : List ByteArray)) c1), (4, .slice A2 (List.length (ns : List Nat)) c2), (11, .slice A xs.length cap), (12, .int .i64 ((xs.length : Nat) : Int)), (13, .int .i64 ((i : Nat) : Int))]) ⟨rfl, rfl, rfl, rfl, rfl, rfl, rfl, trivial⟩ ?_)
    refine CX.seq ?_
    refine CX.block ?_
    refine CX.seq ?_
    refine CX.region ?_
    refine RX.cons rfl rfl (op_w (yw_index (k := i) rfl slt_35 rfl rfl (by omega) (by omega) hA) rfl rfl ?_)
    refine RX.cons rfl rfl (op_yld (y_elem1 rfl rfl one_9 hr (by simp) (map_get hs0)) rfl rfl ?_)
    refine RX.cons rfl rfl (op_w (yw_assign rfl rfl) rfl rfl ?_)
    refine RX.nil (XX.next (V' := [(0, .slice A xs.length cap), (2, .string .empty), (3, .slice A1 (List.length (ws : List ByteArray)) c1), (4, .slice A2 (List.length (ns : List Nat)) c2), (6, .string s0), (11, .slice A xs.length cap), (12, .int .i64 ((xs.length : Nat) : Int)), (13, .int .i64 ((i : Nat) : Int)), (15, .pointer (some ⟨ab A, ao A + i * 1, none⟩)), (16, .string s0)]) ⟨rfl, rfl, rfl, rfl, rfl, rfl, rfl, rfl, rfl, rfl, trivial⟩ ?_)
    refine CX.seq ?_
    refine CX.region ?_
    refine RX.cons rfl rfl (op_w (yw_move rfl rfl) rfl rfl ?_)
    refine RX.cons rfl rfl (op_w (yw_move rfl rfl) rfl rfl ?_)
    refine RX.cons rfl rfl (op_callV (v := .string (leafH sum s0)) rfl rfl rfl rfl rfl ent_53 (fun w hw => w_leaf s0 (hG.keep hw (by simp)) (by omega)) ?_)
    refine RX.cons rfl rfl (op_buildSlice rfl rfl rfl slb_35 rfl rfl (by intro v hv; simp only [List.mem_cons, List.not_mem_nil, or_false] at hv; subst hv; exact ⟨rfl, (plain_of rfl)⟩) (by decide) fun g1 => ?_)
    refine RX.cons rfl rfl (op_appendM strC (i := 1) (j := 0) (xs := ws) ([leafH sum s0]) rfl rfl rfl slb_35 rfl rfl rfl rfl rfl rfl (by simp only [List.length_singleton]; omega) (by simp only [List.length_singleton]; omega) fun A3 c3 => ?_)
    refine RX.cons rfl rfl (op_w (yw_move rfl rfl) rfl rfl ?_)
    refine RX.cons rfl rfl (op_buildSlice rfl rfl rfl slb_71 rfl rfl (by intro v hv; simp only [List.mem_cons, List.not_mem_nil, or_false] at hv; subst hv; exact ⟨rfl, (plain_of rfl)⟩) (by decide) fun g2 => ?_)
    refine RX.cons rfl rfl (op_appendM intC (i := 3) (j := 0) (xs := ns) ([1]) rfl rfl rfl slb_71 rfl rfl rfl rfl rfl rfl (by simp only [List.length_singleton]; omega) (by simp only [List.length_singleton]; omega) fun A4 c4 => ?_)
    refine RX.cons rfl rfl (op_w (yw_assign rfl rfl) rfl rfl ?_)
    refine RX.cons rfl rfl (op_w (yw_assign rfl rfl) rfl rfl ?_)
    refine RX.nil (XX.next (V' := [(0, .slice A xs.length cap), (2, .string .empty), (3, .slice A3 ((ws ++ [leafH sum s0]).length) c3), (4, .slice A4 ((ns ++ [1]).length) c4), (6, .string s0), (11, .slice A xs.length cap), (12, .int .i64 ((xs.length : Nat) : Int)), (13, .int .i64 ((i : Nat) : Int)), (15, .pointer (some ⟨ab A, ao A + i * 1, none⟩)), (16, .string s0), (17, .slice A1 (List.length (ws : List ByteArray)) c1), (18, .string s0), (19, .string (leafH sum s0)), (20, .slice (some ⟨g1, 0, none⟩) 1 1), (21, .slice A3 ((ws ++ [leafH sum s0]).length) c3), (22, .slice A2 (List.length (ns : List Nat)) c2), (23, .slice (some ⟨g2, 0, none⟩) 1 1), (24, .slice A4 ((ns ++ [1]).length) c4)]) ⟨rfl, rfl, rfl, rfl, rfl, rfl, rfl, rfl, rfl, rfl, rfl, rfl, rfl, rfl, rfl, rfl, rfl, rfl, trivial⟩ ?_)
    refine CX.seq ?_
    refine CX.region ?_
    refine RX.cons rfl rfl (op_w (yw_move rfl rfl) rfl rfl ?_)
    refine RX.cons rfl rfl (op_w (yw_lenS rfl Tryd.underlying71 rfl) rfl rfl ?_)
    refine RX.know (t := 26) (u := .int .i64 (((ns ++ [1]).length : Nat) : Int)) rfl (congrArg (Value.int .i64) rfl) ?_
    refine RX.cons rfl rfl (op_w (yw_assign rfl rfl) rfl rfl ?_)
    refine RX.nil (XX.next (V' := [(0, .slice A xs.length cap), (2, .string .empty), (3, .slice A3 ((ws ++ [leafH sum s0]).length) c3), (4, .slice A4 ((ns ++ [1]).length) c4), (6, .string s0), (7, .int .i64 (((ns ++ [1]).length : Nat) : Int)), (11, .slice A xs.length cap), (12, .int .i64 ((xs.length : Nat) : Int)), (13, .int .i64 ((i : Nat) : Int)), (15, .pointer (some ⟨ab A, ao A + i * 1, none⟩)), (16, .string s0), (17, .slice A1 (List.length (ws : List ByteArray)) c1), (18, .string s0), (19, .string (leafH sum s0)), (20, .slice (some ⟨g1, 0, none⟩) 1 1), (21, .slice A3 ((ws ++ [leafH sum s0]).length) c3), (22, .slice A2 (List.length (ns : List Nat)) c2), (23, .slice (some ⟨g2, 0, none⟩) 1 1), (24, .slice A4 ((ns ++ [1]).length) c4), (25, .slice A4 ((ns ++ [1]).length) c4), (26, .int .i64 (((ns ++ [1]).length : Nat) : Int))]) ⟨rfl, rfl, rfl, rfl, rfl, rfl, rfl, rfl, rfl, rfl, rfl, rfl, rfl, rfl, rfl, rfl, rfl, rfl, rfl, rfl, rfl, trivial⟩ ?_)
    refine CX.block ?_
    refine CX.drop (L' := [.row A3 c3 9 1 (List.map strC (ws ++ [leafH sum s0])), .row A4 c4 3 1 (List.map intC (ns ++ [1]))]) (List.Sublist.cons _ (List.Sublist.cons _ (List.Sublist.refl _))) ?_
    refine CX.loop (σ := (Option Addr × Nat) × (Option Addr × Nat) × List ByteArray × List Nat) (fun y => [(0, .slice A xs.length cap), (2, .string .empty), (3, .slice y.1.1 (List.length (y.2.2.1 : List ByteArray)) y.1.2), (4, .slice y.2.1.1 (List.length (y.2.2.2 : List Nat)) y.2.1.2), (6, .string s0), (7, .int .i64 ((y.2.2.2.length : Nat) : Int)), (11, .slice A xs.length cap), (12, .int .i64 ((xs.length : Nat) : Int)), (13, .int .i64 ((i : Nat) : Int)), (15, .pointer (some ⟨ab A, ao A + i * 1, none⟩)), (16, .string s0), (17, .slice A1 (List.length (ws : List ByteArray)) c1), (18, .string s0), (19, .string (leafH sum s0)), (20, .slice (some ⟨g1, 0, none⟩) 1 1), (21, .slice A3 ((ws ++ [leafH sum s0]).length) c3), (22, .slice A2 (List.length (ns : List Nat)) c2), (23, .slice (some ⟨g2, 0, none⟩) 1 1), (24, .slice A4 ((ns ++ [1]).length) c4), (25, .slice A4 ((ns ++ [1]).length) c4), (26, .int .i64 (((ns ++ [1]).length : Nat) : Int))]) (fun y => [.row y.1.1 y.1.2 9 1 (List.map strC y.2.2.1), .row y.2.1.1 y.2.1.2 3 1 (List.map intC y.2.2.2)]) (fun y => ∃ C, Stk C ∧ C.flatten = xs.take (i + 1) ∧ y.2.2.1 = C.map (root sum) ∧ y.2.2.2 = C.map List.length) (fun y => y.2.2.2.length) ((A3, c3), (A4, c4), ws ++ [leafH sum s0], ns ++ [1]) ⟨C ++ [[s0]], Stk.push hC s0, by rw [List.flatten_append, hCf, take_succ hs0]; rfl, by rw [hws, List.map_append]; rfl, by rw [hns, List.map_append]; rfl⟩ ⟨rfl, rfl, rfl, rfl, rfl, rfl, rfl, rfl, rfl, rfl, rfl, rfl, rfl, rfl, rfl, rfl, rfl, rfl, rfl, rfl, rfl, trivial⟩ rfl (fun y hI => ?_)
    obtain ⟨⟨B1, d1⟩, ⟨B2, d2⟩, vs, ms⟩ := y
    dsimp only at hI ⊢
    obtain ⟨E, hE, hEf, hvs, hms⟩ := hI
    have hvl : vs.length = E.length := by rw [hvs, List.length_map]
    have hml : ms.length = E.length := by rw [hms, List.length_map]
    have hEl : E.length ≤ E.flatten.length := stk_le hE
    have hEx : E.flatten.length ≤ xs.length := by rw [hEf, List.length_take]; omega
    have hEp := stk_pos hE
    refine CX.rowSome 0 rfl (by simp; omega) (fun hA1 => ?_)
    refine CX.rowSome 1 rfl (by simp; omega) (fun hA2 => ?_)
    refine CX.rowCap 0 rfl (fun hd1 => ?_)
    refine CX.rowCap 1 rfl (fun hd2 => ?_)
    refine CX.seq ?_
    refine CX.seq ?_
    refine CX.draw 15 [(0, 128, 134217728), (1, 134217728, 268435456), (2, 268435456, 536870912), (4, 536870928, 1073741824), (4, 536871040, 2147483648), (20, 2684354560, 4294967296), (44, 5905580032, 8589934592), (68, 9126805504, 17179869184), (4, 536870928, 34359738368), (4, 536871040, 68719476736), (516, 69256347648, 137438953472), (1284, 172335562752, 274877906944), (2052, 275414777856, 549755813888), (4228, 567472553984, 1099511627776), (8196, 1100048498688, 2199023255552)] (by kernel_rfl) (by kernel_rfl) (by kernel_rfl) ?_
    refine DX.takeW 0 1 (by kernel_rfl) rfl rfl rfl rfl rfl (yw_move rfl rfl) ?_
    refine DX.takeW 1 3 (by kernel_rfl) rfl rfl rfl rfl rfl (yw_gtr rfl rfl rfl) ?_
    refine DX.takeW 2 7 (by kernel_rfl) rfl rfl rfl rfl rfl (yw_move rfl rfl) ?_
    refine DX.splitD (t := 29) (p := 1 < ((ms.length : Nat) : Int)) rfl (fun d29 => ?_) (fun d29 => ?_)
    · obtain ⟨d, hd⟩ := get_some (l := E) (k := E.length - 2) (by omega)
      obtain ⟨c, hc⟩ := get_some (l := E) (k := E.length - 1) (by omega)
      have hm1 : ms[ms.length - 2]? = some d.length := by rw [hml, hms, List.getElem?_map, hd]; rfl
      have hm2 : ms[ms.length - 1]? = some c.length := by rw [hml, hms, List.getElem?_map, hc]; rfl
      have hv1 : vs[ms.length - 2]? = some (root sum d) := by rw [hml, hvs, List.getElem?_map, hd]; rfl
      have hv2 : vs[ms.length - 1]? = some (root sum c) := by rw [hml, hvs, List.getElem?_map, hc]; rfl
      have hcl := Stk.lens (List.mem_of_getElem? hc)
      refine DX.takeWG 3 15 (by kernel_rfl) rfl rfl rfl rfl rfl rfl rfl rfl (yw_move rfl rfl) ?_
      refine DX.takeWG 4 31 (by kernel_rfl) rfl rfl rfl rfl rfl rfl rfl rfl (yw_move rfl rfl) ?_
      refine DX.takeWG 5 63 (by kernel_rfl) rfl rfl rfl rfl rfl rfl rfl rfl (yw_sub rfl rfl rfl (by omega) (by omega)) ?_
      refine DX.takeWG 6 127 (by kernel_rfl) rfl rfl rfl rfl rfl rfl rfl rfl (yw_index (k := (ms.length - 2)) rfl slt_71 rfl rfl (by omega) (by omega) hA2) ?_
      refine DX.takeG 7 255 (by kernel_rfl) rfl rfl rfl rfl rfl rfl rfl rfl (List.Sublist.refl _) (y_rowElem1 (i := 1) rfl rfl one_3 rfl (map_get hm1)) ?_
      refine DX.takeWG 8 511 (by kernel_rfl) rfl rfl rfl rfl rfl rfl rfl rfl (yw_move rfl rfl) ?_
      refine DX.takeWG 9 1023 (by kernel_rfl) rfl rfl rfl rfl rfl rfl rfl rfl (yw_move rfl rfl) ?_
      refine DX.takeWG 10 2047 (by kernel_rfl) rfl rfl rfl rfl rfl rfl rfl rfl (yw_sub rfl rfl rfl (by omega) (by omega)) ?_
      refine DX.takeWG 11 4095 (by kernel_rfl) rfl rfl rfl rfl rfl rfl rfl rfl (yw_index (k := (ms.length - 1)) rfl slt_71 rfl rfl (by omega) (by omega) hA2) ?_
      refine DX.takeG 12 8191 (by kernel_rfl) rfl rfl rfl rfl rfl rfl rfl rfl (List.Sublist.refl _) (y_rowElem1 (i := 1) rfl rfl one_3 rfl (map_get hm2)) ?_
      refine DX.takeWG 13 16383 (by kernel_rfl) rfl rfl rfl rfl rfl rfl rfl rfl (yw_eql rfl rfl rfl) ?_
      refine DX.takeW 14 32767 (by kernel_rfl) rfl rfl rfl rfl rfl (yw_pickT rfl rfl rfl) ?_
      refine DX.done (by kernel_rfl) (XX.next (V' := [(0, .slice A xs.length cap), (2, .string .empty), (3, .slice B1 (List.length (vs : List ByteArray)) d1), (4, .slice B2 (List.length (ms : List Nat)) d2), (6, .string s0), (7, .int .i64 ((ms.length : Nat) : Int)), (11, .slice A xs.length cap), (12, .int .i64 ((xs.length : Nat) : Int)), (13, .int .i64 ((i : Nat) : Int)), (15, .pointer (some ⟨ab A, ao A + i * 1, none⟩)), (16, .string s0), (17, .slice A1 (List.length (ws : List ByteArray)) c1), (18, .string s0), (19, .string (leafH sum s0)), (20, .slice (some ⟨g1, 0, none⟩) 1 1), (21, .slice A3 ((ws ++ [leafH sum s0]).length) c3), (22, .slice A2 (List.length (ns : List Nat)) c2), (23, .slice (some ⟨g2, 0, none⟩) 1 1), (24, .slice A4 ((ns ++ [1]).length) c4), (25, .slice A4 ((ns ++ [1]).length) c4), (26, .int .i64 (((ns ++ [1]).length : Nat) : Int)), (27, .int .i64 ((ms.length : Nat) : Int)), (28, .bool (decide (1 < ((ms.length : Nat) : Int)))), (29, .bool true), (30, .slice B2 (List.length (ms : List Nat)) d2), (31, .int .i64 ((ms.length : Nat) : Int)), (32, .int .i64 (((ms.length : Nat) : Int) - 2)), (33, .pointer (some ⟨ab B2, ao B2 + (ms.length - 2) * 1, none⟩)), (34, .int .i64 ((d.length : Nat) : Int)), (35, .slice B2 (List.length (ms : List Nat)) d2), (36, .int .i64 ((ms.length : Nat) : Int)), (37, .int .i64 (((ms.length : Nat) : Int) - 1)), (38, .pointer (some ⟨ab B2, ao B2 + (ms.length - 1) * 1, none⟩)), (39, .int .i64 ((c.length : Nat) : Int)), (40, .bool (decide (((d.length : Nat) : Int) = ((c.length : Nat) : Int)))), (41, .bool (decide (((d.length : Nat) : Int) = ((c.length : Nat) : Int))))]) ⟨rfl, rfl, rfl, rfl, rfl, rfl, rfl, rfl, rfl, rfl, rfl, rfl, rfl, rfl, rfl, rfl, rfl, rfl, rfl, rfl, rfl, rfl, rfl, rfl, rfl, rfl, rfl, rfl, rfl, rfl, rfl, rfl, rfl, rfl, rfl, rfl, trivial⟩ ?_)
      refine CX.condD (p := ((d.length : Nat) : Int) = ((c.length : Nat) : Int)) rfl (fun c41 => ?_) (fun c41 => ?_)
      · obtain ⟨hM1, hM2, hM3⟩ := hE.merge sum (by omega) hd hc (by omega)
        refine CX.skip (XX.next (V' := [(0, .slice A xs.length cap), (2, .string .empty), (3, .slice B1 (List.length (vs : List ByteArray)) d1), (4, .slice B2 (List.length (ms : List Nat)) d2), (6, .string s0), (7, .int .i64 ((ms.length : Nat) : Int)), (11, .slice A xs.length cap), (12, .int .i64 ((xs.length : Nat) : Int)), (13, .int .i64 ((i : Nat) : Int)), (15, .pointer (some ⟨ab A, ao A + i * 1, none⟩)), (16, .string s0), (17, .slice A1 (List.length (ws : List ByteArray)) c1), (18, .string s0), (19, .string (leafH sum s0)), (20, .slice (some ⟨g1, 0, none⟩) 1 1), (21, .slice A3 ((ws ++ [leafH sum s0]).length) c3), (22, .slice A2 (List.length (ns : List Nat)) c2), (23, .slice (some ⟨g2, 0, none⟩) 1 1), (24, .slice A4 ((ns ++ [1]).length) c4), (25, .slice A4 ((ns ++ [1]).length) c4), (26, .int .i64 (((ns ++ [1]).length : Nat) : Int)), (30, .slice B2 (List.length (ms : List Nat)) d2), (31, .int .i64 ((ms.length : Nat) : Int)), (32, .int .i64 (((ms.length : Nat) : Int) - 2)), (33, .pointer (some ⟨ab B2, ao B2 + (ms.length - 2) * 1, none⟩)), (34, .int .i64 ((d.length : Nat) : Int)), (35, .slice B2 (List.length (ms : List Nat)) d2), (36, .int .i64 ((ms.length : Nat) : Int)), (37, .int .i64 (((ms.length : Nat) : Int) - 1)), (38, .pointer (some ⟨ab B2, ao B2 + (ms.length - 1) * 1, none⟩)), (39, .int .i64 ((c.length : Nat) : Int)), (40, .bool (decide (((d.length : Nat) : Int) = ((c.length : Nat) : Int))))]) ⟨rfl, rfl, rfl, rfl, rfl, rfl, rfl, rfl, rfl, rfl, rfl, rfl, rfl, rfl, rfl, rfl, rfl, rfl, rfl, rfl, rfl, rfl, rfl, rfl, rfl, rfl, rfl, rfl, rfl, rfl, rfl, rfl, trivial⟩ ?_)
        refine CX.seq ?_
        refine CX.block ?_
        refine CX.seq ?_
        refine CX.draw 16 [(0, 8, 17592186044416), (0, 128, 35184372088832), (2, 35184372088832, 70368744177664), (5, 87960930222080, 140737488355328), (0, 8, 281474976710656), (0, 128, 562949953421312), (32, 562949953421312, 1125899906842624), (80, 1407374883553280, 2251799813685248), (128, 2251799813685248, 4503599627370496), (0, 8, 9007199254740992), (0, 128, 18014398509481984), (1024, 18014398509481984, 36028797018963968), (2560, 45035996273704960, 72057594037927936), (4096, 72057594037927936, 144115188075855872), (8448, 148618787703226368, 288230376151711744), (16384, 288230376151711744, 576460752303423488), (49160, 576601489791778816, 1152921504606846976), (131071, 1152921504606846976, 8)] (by kernel_rfl) (by kernel_rfl) (by kernel_rfl) ?_
        refine DX.takeW 0 1 (by kernel_rfl) rfl rfl rfl rfl rfl (yw_move rfl rfl) ?_
        refine DX.takeW 1 3 (by kernel_rfl) rfl rfl rfl rfl rfl (yw_move rfl rfl) ?_
        refine DX.takeW 2 7 (by kernel_rfl) rfl rfl rfl rfl rfl (yw_sub rfl rfl rfl (by omega) (by omega)) ?_
        refine DX.takeW 3 15 (by kernel_rfl) rfl rfl rfl rfl rfl (yw_sliceTo (k := (ms.length - 2)) rfl slt_35 rfl rfl (by omega) (by omega)) ?_
        refine DX.takeW 4 31 (by kernel_rfl) rfl rfl rfl rfl rfl (yw_move rfl rfl) ?_
        refine DX.takeW 5 63 (by kernel_rfl) rfl rfl rfl rfl rfl (yw_move rfl rfl) ?_
        refine DX.takeW 6 127 (by kernel_rfl) rfl rfl rfl rfl rfl (yw_sub rfl rfl rfl (by omega) (by omega)) ?_
        refine DX.takeW 7 255 (by kernel_rfl) rfl rfl rfl rfl rfl (yw_index (k := (ms.length - 2)) rfl slt_35 rfl rfl (by omega) (by omega) hA1) ?_
        refine DX.take 8 511 (by kernel_rfl) rfl rfl rfl rfl rfl (List.Sublist.refl _) (y_rowElem1 (i := 0) rfl rfl one_9 rfl (map_get hv1)) ?_
        refine DX.takeW 9 1023 (by kernel_rfl) rfl rfl rfl rfl rfl (yw_move rfl rfl) ?_
        refine DX.takeW 10 2047 (by kernel_rfl) rfl rfl rfl rfl rfl (yw_move rfl rfl) ?_
        refine DX.takeW 11 4095 (by kernel_rfl) rfl rfl rfl rfl rfl (yw_sub rfl rfl rfl (by omega) (by omega)) ?_
        refine DX.takeW 12 8191 (by kernel_rfl) rfl rfl rfl rfl rfl (yw_index (k := (ms.length - 1)) rfl slt_35 rfl rfl (by omega) (by omega) hA1) ?_
        refine DX.take 13 16383 (by kernel_rfl) rfl rfl rfl rfl rfl (List.Sublist.refl _) (y_rowElem1 (i := 0) rfl rfl one_9 rfl (map_get hv2)) ?_
        refine DX.step 14 32767 (by kernel_rfl) rfl rfl rfl (op_callV (v := .string (nodeH sum (root sum d) (root sum c))) rfl rfl rfl rfl rfl ent_54 (fun w hw => w_node (root sum d) (root sum c) (hG.keep hw (by simp)) (by rw [sum_root_size, sum_root_size]; omega)) (DXs.mk (List.Sublist.refl _) ?_))
        refine DX.step 15 65535 (by kernel_rfl) rfl rfl rfl (op_buildSlice rfl rfl rfl slb_35 rfl rfl (by intro v hv; simp only [List.mem_cons, List.not_mem_nil, or_false] at hv; subst hv; exact ⟨rfl, (plain_of rfl)⟩) (by decide) fun g3 => (DXs.mk (List.Sublist.cons _ (List.Sublist.refl _)) ?_))
        refine DX.stepT 16 131071 (by kernel_rfl) rfl rfl rfl rfl (op_appendMT strC (i := 1) (j := 0) (xs := vs) ([nodeH sum (root sum d) (root sum c)]) rfl rfl rfl slb_35 rfl rfl (by omega) (by decide) rfl rfl rfl rfl (by simp only [List.length_singleton]; omega) (by simp only [List.length_singleton]; omega) fun B3 d3 => ?_)
        refine DX.takeW 17 262143 (by kernel_rfl) rfl rfl rfl rfl rfl (yw_assign rfl rfl) ?_
        refine DX.done (by kernel_rfl) (XX.next (V' := [(0, .slice A xs.length cap), (2, .string .empty), (3, .slice B3 (((List.take (ms.length - 2) vs ++ [nodeH sum (root sum d) (root sum c)])).length) d3), (4, .slice B2 (List.length (ms : List Nat)) d2), (6, .string s0), (7, .int .i64 ((ms.length : Nat) : Int)), (11, .slice A xs.length cap), (12, .int .i64 ((xs.length : Nat) : Int)), (13, .int .i64 ((i : Nat) : Int)), (15, .pointer (some ⟨ab A, ao A + i * 1, none⟩)), (16, .string s0), (17, .slice A1 (List.length (ws : List ByteArray)) c1), (18, .string s0), (19, .string (leafH sum s0)), (20, .slice (some ⟨g1, 0, none⟩) 1 1), (21, .slice A3 ((ws ++ [leafH sum s0]).length) c3), (22, .slice A2 (List.length (ns : List Nat)) c2), (23, .slice (some ⟨g2, 0, none⟩) 1 1), (24, .slice A4 ((ns ++ [1]).length) c4), (25, .slice A4 ((ns ++ [1]).length) c4), (26, .int .i64 (((ns ++ [1]).length : Nat) : Int)), (30, .slice B2 (List.length (ms : List Nat)) d2), (31, .int .i64 ((ms.length : Nat) : Int)), (32, .int .i64 (((ms.length : Nat) : Int) - 2)), (33, .pointer (some ⟨ab B2, ao B2 + (ms.length - 2) * 1, none⟩)), (34, .int .i64 ((d.length : Nat) : Int)), (35, .slice B2 (List.length (ms : List Nat)) d2), (36, .int .i64 ((ms.length : Nat) : Int)), (37, .int .i64 (((ms.length : Nat) : Int) - 1)), (38, .pointer (some ⟨ab B2, ao B2 + (ms.length - 1) * 1, none⟩)), (39, .int .i64 ((c.length : Nat) : Int)), (40, .bool (decide (((d.length : Nat) : Int) = ((c.length : Nat) : Int)))), (44, .slice B1 (List.length (vs : List ByteArray)) d1), (45, .int .i64 ((ms.length : Nat) : Int)), (46, .int .i64 (((ms.length : Nat) : Int) - 2)), (47, .slice B1 (ms.length - 2) d1), (48, .slice B1 (List.length (vs : List ByteArray)) d1), (49, .int .i64 ((ms.length : Nat) : Int)), (50, .int .i64 (((ms.length : Nat) : Int) - 2)), (51, .pointer (some ⟨ab B1, ao B1 + (ms.length - 2) * 1, none⟩)), (52, .string (root sum d)), (53, .slice B1 (List.length (vs : List ByteArray)) d1), (54, .int .i64 ((ms.length : Nat) : Int)), (55, .int .i64 (((ms.length : Nat) : Int) - 1)), (56, .pointer (some ⟨ab B1, ao B1 + (ms.length - 1) * 1, none⟩)), (57, .string (root sum c)), (58, .string (nodeH sum (root sum d) (root sum c))), (59, .slice (some ⟨g3, 0, none⟩) 1 1), (60, .slice B3 (((List.take (ms.length - 2) vs ++ [nodeH sum (root sum d) (root sum c)])).length) d3)]) ⟨rfl, rfl, rfl, rfl, rfl, rfl, rfl, rfl, rfl, rfl, rfl, rfl, rfl, rfl, rfl, rfl, rfl, rfl, rfl, rfl, rfl, rfl, rfl, rfl, rfl, rfl, rfl, rfl, rfl, rfl, rfl, rfl, rfl, rfl, rfl, rfl, rfl, rfl, rfl, rfl, rfl, rfl, rfl, rfl, rfl, rfl, rfl, rfl, rfl, trivial⟩ ?_)
        refine CX.draw 11 [(0, 16, 2305843009213693952), (0, 128, 4611686018427387904), (2, 4611686018427387904, 9223372036854775808), (5, 11529215046068469760, 18446744073709551616), (0, 16, 36893488147419103232), (0, 128, 73786976294838206464), (32, 73786976294838206464, 147573952589676412928), (80, 184467440737095516160, 295147905179352825856), (128, 295147905179352825856, 590295810358705651712), (256, 590295810358705651712, 1180591620717411303424), (512, 1180591620717411303424, 2361183241434822606848), (1032, 2379629985508532158464, 4722366482869645213696), (4095, 4722366482869645213696, 16)] (by kernel_rfl) (by kernel_rfl) (by kernel_rfl) ?_
        refine DX.takeW 0 1 (by kernel_rfl) rfl rfl rfl rfl rfl (yw_move rfl rfl) ?_
        refine DX.takeW 1 3 (by kernel_rfl) rfl rfl rfl rfl rfl (yw_move rfl rfl) ?_
        refine DX.takeW 2 7 (by kernel_rfl) rfl rfl rfl rfl rfl (yw_sub rfl rfl rfl (by omega) (by omega)) ?_
        refine DX.takeW 3 15 (by kernel_rfl) rfl rfl rfl rfl rfl (yw_sliceTo (k := (ms.length - 2)) rfl slt_71 rfl rfl (by omega) (by omega)) ?_
        refine DX.takeW 4 31 (by kernel_rfl) rfl rfl rfl rfl rfl (yw_move rfl rfl) ?_
        refine DX.takeW 5 63 (by kernel_rfl) rfl rfl rfl rfl rfl (yw_move rfl rfl) ?_
        refine DX.takeW 6 127 (by kernel_rfl) rfl rfl rfl rfl rfl (yw_sub rfl rfl rfl (by omega) (by omega)) ?_
        refine DX.takeW 7 255 (by kernel_rfl) rfl rfl rfl rfl rfl (yw_index (k := (ms.length - 1)) rfl slt_71 rfl rfl (by omega) (by omega) hA2) ?_
        refine DX.take 8 511 (by kernel_rfl) rfl rfl rfl rfl rfl (List.Sublist.refl _) (y_rowElem1 (i := 2) rfl rfl one_3 rfl (map_get hm2)) ?_
        refine DX.takeW 9 1023 (by kernel_rfl) rfl rfl rfl rfl rfl (yw_mul rfl rfl rfl (by omega) (by omega)) ?_
        refine DX.know (t := 70) (u := .int .i64 ((2 * c.length : Nat) : Int)) rfl (congrArg (Value.int .i64) (by omega)) ?_
        refine DX.step 10 2047 (by kernel_rfl) rfl rfl rfl (op_buildSlice rfl rfl rfl slb_71 rfl rfl (by intro v hv; simp only [List.mem_cons, List.not_mem_nil, or_false] at hv; subst hv; exact ⟨rfl, (plain_of rfl)⟩) (by decide) fun g4 => (DXs.mk (List.Sublist.cons _ (List.Sublist.refl _)) ?_))
        refine DX.stepT 11 4095 (by kernel_rfl) rfl rfl rfl rfl (op_appendMT intC (i := 3) (j := 0) (xs := ms) ([2 * c.length]) rfl rfl rfl slb_71 rfl rfl (by omega) (by decide) rfl rfl rfl rfl (by simp only [List.length_singleton]; omega) (by simp only [List.length_singleton]; omega) fun B4 d4 => ?_)
        refine DX.takeW 12 8191 (by kernel_rfl) rfl rfl rfl rfl rfl (yw_assign rfl rfl) ?_
        refine DX.done (by kernel_rfl) (XX.inBlock (V' := [(0, .slice A xs.length cap), (2, .string .empty), (3, .slice B3 (((List.take (ms.length - 2) vs ++ [nodeH sum (root sum d) (root sum c)])).length) d3), (4, .slice B4 (((List.take (ms.length - 2) ms ++ [2 * c.length])).length) d4), (6, .string s0), (7, .int .i64 ((ms.length : Nat) : Int)), (11, .slice A xs.length cap), (12, .int .i64 ((xs.length : Nat) : Int)), (13, .int .i64 ((i : Nat) : Int)), (15, .pointer (some ⟨ab A, ao A + i * 1, none⟩)), (16, .string s0), (17, .slice A1 (List.length (ws : List ByteArray)) c1), (18, .string s0), (19, .string (leafH sum s0)), (20, .slice (some ⟨g1, 0, none⟩) 1 1), (21, .slice A3 ((ws ++ [leafH sum s0]).length) c3), (22, .slice A2 (List.length (ns : List Nat)) c2), (23, .slice (some ⟨g2, 0, none⟩) 1 1), (24, .slice A4 ((ns ++ [1]).length) c4), (25, .slice A4 ((ns ++ [1]).length) c4), (26, .int .i64 (((ns ++ [1]).length : Nat) : Int)), (30, .slice B2 (List.length (ms : List Nat)) d2), (31, .int .i64 ((ms.length : Nat) : Int)), (32, .int .i64 (((ms.length : Nat) : Int) - 2)), (33, .pointer (some ⟨ab B2, ao B2 + (ms.length - 2) * 1, none⟩)), (34, .int .i64 ((d.length : Nat) : Int)), (35, .slice B2 (List.length (ms : List Nat)) d2), (36, .int .i64 ((ms.length : Nat) : Int)), (37, .int .i64 (((ms.length : Nat) : Int) - 1)), (38, .pointer (some ⟨ab B2, ao B2 + (ms.length - 1) * 1, none⟩)), (39, .int .i64 ((c.length : Nat) : Int)), (40, .bool (decide (((d.length : Nat) : Int) = ((c.length : Nat) : Int)))), (44, .slice B1 (List.length (vs : List ByteArray)) d1), (45, .int .i64 ((ms.length : Nat) : Int)), (46, .int .i64 (((ms.length : Nat) : Int) - 2)), (47, .slice B1 (ms.length - 2) d1), (48, .slice B1 (List.length (vs : List ByteArray)) d1), (49, .int .i64 ((ms.length : Nat) : Int)), (50, .int .i64 (((ms.length : Nat) : Int) - 2)), (51, .pointer (some ⟨ab B1, ao B1 + (ms.length - 2) * 1, none⟩)), (52, .string (root sum d)), (53, .slice B1 (List.length (vs : List ByteArray)) d1), (54, .int .i64 ((ms.length : Nat) : Int)), (55, .int .i64 (((ms.length : Nat) : Int) - 1)), (56, .pointer (some ⟨ab B1, ao B1 + (ms.length - 1) * 1, none⟩)), (57, .string (root sum c)), (58, .string (nodeH sum (root sum d) (root sum c))), (59, .slice (some ⟨g3, 0, none⟩) 1 1), (60, .slice B3 (((List.take (ms.length - 2) vs ++ [nodeH sum (root sum d) (root sum c)])).length) d3), (61, .slice B2 (List.length (ms : List Nat)) d2), (62, .int .i64 ((ms.length : Nat) : Int)), (63, .int .i64 (((ms.length : Nat) : Int) - 2)), (64, .slice B2 (ms.length - 2) d2), (65, .slice B2 (List.length (ms : List Nat)) d2), (66, .int .i64 ((ms.length : Nat) : Int)), (67, .int .i64 (((ms.length : Nat) : Int) - 1)), (68, .pointer (some ⟨ab B2, ao B2 + (ms.length - 1) * 1, none⟩)), (69, .int .i64 ((c.length : Nat) : Int)), (70, .int .i64 ((2 * c.length : Nat) : Int)), (71, .slice (some ⟨g4, 0, none⟩) 1 1), (72, .slice B4 (((List.take (ms.length - 2) ms ++ [2 * c.length])).length) d4)]) ⟨rfl, rfl, rfl, rfl, rfl, rfl, rfl, rfl, rfl, rfl, rfl, rfl, rfl, rfl, rfl, rfl, rfl, rfl, rfl, rfl, rfl, rfl, rfl, rfl, rfl, rfl, rfl, rfl, rfl, rfl, rfl, rfl, rfl, rfl, rfl, rfl, rfl, rfl, rfl, rfl, rfl, rfl, rfl, rfl, rfl, rfl, rfl, rfl, rfl, rfl, rfl, rfl, rfl, rfl, rfl, rfl, rfl, rfl, rfl, rfl, rfl, trivial⟩ ?_)
        refine XX.next (V' := [(0, .slice A xs.length cap), (2, .string .empty), (3, .slice B3 (((List.take (ms.length - 2) vs ++ [nodeH sum (root sum d) (root sum c)])).length) d3), (4, .slice B4 (((List.take (ms.length - 2) ms ++ [2 * c.length])).length) d4), (6, .string s0), (7, .int .i64 ((ms.length : Nat) : Int)), (11, .slice A xs.length cap), (12, .int .i64 ((xs.length : Nat) : Int)), (13, .int .i64 ((i : Nat) : Int)), (15, .pointer (some ⟨ab A, ao A + i * 1, none⟩)), (16, .string s0), (17, .slice A1 (List.length (ws : List ByteArray)) c1), (18, .string s0), (19, .string (leafH sum s0)), (20, .slice (some ⟨g1, 0, none⟩) 1 1), (21, .slice A3 ((ws ++ [leafH sum s0]).length) c3), (22, .slice A2 (List.length (ns : List Nat)) c2), (23, .slice (some ⟨g2, 0, none⟩) 1 1), (24, .slice A4 ((ns ++ [1]).length) c4), (25, .slice A4 ((ns ++ [1]).length) c4), (26, .int .i64 (((ns ++ [1]).length : Nat) : Int)), (30, .slice B2 (List.length (ms : List Nat)) d2), (31, .int .i64 ((ms.length : Nat) : Int)), (32, .int .i64 (((ms.length : Nat) : Int) - 2)), (33, .pointer (some ⟨ab B2, ao B2 + (ms.length - 2) * 1, none⟩)), (34, .int .i64 ((d.length : Nat) : Int)), (35, .slice B2 (List.length (ms : List Nat)) d2), (36, .int .i64 ((ms.length : Nat) : Int)), (37, .int .i64 (((ms.length : Nat) : Int) - 1)), (38, .pointer (some ⟨ab B2, ao B2 + (ms.length - 1) * 1, none⟩)), (39, .int .i64 ((c.length : Nat) : Int)), (40, .bool (decide (((d.length : Nat) : Int) = ((c.length : Nat) : Int)))), (44, .slice B1 (List.length (vs : List ByteArray)) d1), (45, .int .i64 ((ms.length : Nat) : Int)), (46, .int .i64 (((ms.length : Nat) : Int) - 2)), (47, .slice B1 (ms.length - 2) d1), (48, .slice B1 (List.length (vs : List ByteArray)) d1), (49, .int .i64 ((ms.length : Nat) : Int)), (50, .int .i64 (((ms.length : Nat) : Int) - 2)), (51, .pointer (some ⟨ab B1, ao B1 + (ms.length - 2) * 1, none⟩)), (52, .string (root sum d)), (53, .slice B1 (List.length (vs : List ByteArray)) d1), (54, .int .i64 ((ms.length : Nat) : Int)), (55, .int .i64 (((ms.length : Nat) : Int) - 1)), (56, .pointer (some ⟨ab B1, ao B1 + (ms.length - 1) * 1, none⟩)), (57, .string (root sum c)), (58, .string (nodeH sum (root sum d) (root sum c))), (59, .slice (some ⟨g3, 0, none⟩) 1 1), (60, .slice B3 (((List.take (ms.length - 2) vs ++ [nodeH sum (root sum d) (root sum c)])).length) d3), (61, .slice B2 (List.length (ms : List Nat)) d2), (62, .int .i64 ((ms.length : Nat) : Int)), (63, .int .i64 (((ms.length : Nat) : Int) - 2)), (64, .slice B2 (ms.length - 2) d2), (65, .slice B2 (List.length (ms : List Nat)) d2), (66, .int .i64 ((ms.length : Nat) : Int)), (67, .int .i64 (((ms.length : Nat) : Int) - 1)), (68, .pointer (some ⟨ab B2, ao B2 + (ms.length - 1) * 1, none⟩)), (69, .int .i64 ((c.length : Nat) : Int)), (70, .int .i64 ((2 * c.length : Nat) : Int)), (71, .slice (some ⟨g4, 0, none⟩) 1 1), (72, .slice B4 (((List.take (ms.length - 2) ms ++ [2 * c.length])).length) d4)]) ⟨rfl, rfl, rfl, rfl, rfl, rfl, rfl, rfl, rfl, rfl, rfl, rfl, rfl, rfl, rfl, rfl, rfl, rfl, rfl, rfl, rfl, rfl, rfl, rfl, rfl, rfl, rfl, rfl, rfl, rfl, rfl, rfl, rfl, rfl, rfl, rfl, rfl, rfl, rfl, rfl, rfl, rfl, rfl, rfl, rfl, rfl, rfl, rfl, rfl, rfl, rfl, rfl, rfl, rfl, rfl, rfl, rfl, rfl, rfl, rfl, rfl, trivial⟩ ?_
        refine CX.region ?_
        refine RX.cons rfl rfl (op_w (yw_move rfl rfl) rfl rfl ?_)
        refine RX.cons rfl rfl (op_w (yw_sub rfl rfl rfl (by omega) (by omega)) rfl rfl ?_)
        refine RX.know (t := 43) (u := .int .i64 (((List.take (ms.length - 2) ms ++ [2 * c.length]).length : Nat) : Int)) rfl (congrArg (Value.int .i64) (by simp; omega)) ?_
        refine RX.cons rfl rfl (op_w (yw_assign rfl rfl) rfl rfl ?_)
        refine RX.nil (XX.againP ([.row (some ⟨g4, 0, none⟩) 1 3 1 (List.map intC ([2 * c.length])), .row (some ⟨g3, 0, none⟩) 1 9 1 (List.map strC ([nodeH sum (root sum d) (root sum c)]))]) ((B3, d3), (B4, d4), List.take (ms.length - 2) vs ++ [nodeH sum (root sum d) (root sum c)], List.take (ms.length - 2) ms ++ [2 * c.length]) (by simp; omega) ⟨E.take (E.length - 2) ++ [d ++ c], hM1, hM2.trans hEf, by rw [hvs, ← hM3, List.map_append, List.map_take, hml]; rfl, by rw [hms, List.map_append, List.map_take, ← hms, hml]; simp; omega⟩ ⟨rfl, rfl, rfl, rfl, rfl, rfl, rfl, rfl, rfl, rfl, rfl, rfl, rfl, rfl, rfl, rfl, rfl, rfl, rfl, rfl, rfl, trivial⟩ ((perm_pick 2 rfl).trans (List.Perm.cons _ ((perm_pick 2 rfl).trans (List.Perm.cons _ (List.Perm.refl _))))))
      · have hEn : ∀ d' c', 2 ≤ E.length → E[E.length - 2]? = some d' → E[E.length - 1]? = some c' → d'.length ≠ c'.length := fun d' c' _ h1 h2 => by rw [hd] at h1; rw [hc] at h2; injection h1 with h1; injection h2 with h2; subst h1; subst h2; omega
        refine CX.exit ?_
        refine XX.then_exit ?_
        refine XX.then_exit ?_
        refine XX.block_exit ?_
        refine XX.inBlock (V' := [(0, .slice A xs.length cap), (2, .string .empty), (3, .slice B1 (List.length (vs : List ByteArray)) d1), (4, .slice B2 (List.length (ms : List Nat)) d2), (6, .string s0), (7, .int .i64 ((ms.length : Nat) : Int)), (11, .slice A xs.length cap), (12, .int .i64 ((xs.length : Nat) : Int)), (13, .int .i64 ((i : Nat) : Int)), (15, .pointer (some ⟨ab A, ao A + i * 1, none⟩)), (16, .string s0), (17, .slice A1 (List.length (ws : List ByteArray)) c1), (18, .string s0), (19, .string (leafH sum s0)), (20, .slice (some ⟨g1, 0, none⟩) 1 1), (21, .slice A3 ((ws ++ [leafH sum s0]).length) c3), (22, .slice A2 (List.length (ns : List Nat)) c2), (23, .slice (some ⟨g2, 0, none⟩) 1 1), (24, .slice A4 ((ns ++ [1]).length) c4), (25, .slice A4 ((ns ++ [1]).length) c4), (26, .int .i64 (((ns ++ [1]).length : Nat) : Int)), (27, .int .i64 ((ms.length : Nat) : Int)), (28, .bool (decide (1 < ((ms.length : Nat) : Int)))), (29, .bool true), (30, .slice B2 (List.length (ms : List Nat)) d2), (31, .int .i64 ((ms.length : Nat) : Int)), (32, .int .i64 (((ms.length : Nat) : Int) - 2)), (33, .pointer (some ⟨ab B2, ao B2 + (ms.length - 2) * 1, none⟩)), (34, .int .i64 ((d.length : Nat) : Int)), (35, .slice B2 (List.length (ms : List Nat)) d2), (36, .int .i64 ((ms.length : Nat) : Int)), (37, .int .i64 (((ms.length : Nat) : Int) - 1)), (38, .pointer (some ⟨ab B2, ao B2 + (ms.length - 1) * 1, none⟩)), (39, .int .i64 ((c.length : Nat) : Int)), (40, .bool (decide (((d.length : Nat) : Int) = ((c.length : Nat) : Int)))), (41, .bool (decide (((d.length : Nat) : Int) = ((c.length : Nat) : Int))))]) ⟨rfl, rfl, rfl, rfl, rfl, rfl, rfl, rfl, rfl, rfl, rfl, rfl, rfl, rfl, rfl, rfl, rfl, rfl, rfl, rfl, rfl, rfl, rfl, rfl, rfl, rfl, rfl, rfl, rfl, rfl, rfl, rfl, rfl, rfl, rfl, rfl, trivial⟩ ?_
        refine XX.next (V' := [(0, .slice A xs.length cap), (2, .string .empty), (3, .slice B1 (List.length (vs : List ByteArray)) d1), (4, .slice B2 (List.length (ms : List Nat)) d2), (6, .string s0), (7, .int .i64 ((ms.length : Nat) : Int)), (11, .slice A xs.length cap), (12, .int .i64 ((xs.length : Nat) : Int)), (13, .int .i64 ((i : Nat) : Int)), (15, .pointer (some ⟨ab A, ao A + i * 1, none⟩)), (16, .string s0), (17, .slice A1 (List.length (ws : List ByteArray)) c1), (18, .string s0), (19, .string (leafH sum s0)), (20, .slice (some ⟨g1, 0, none⟩) 1 1), (21, .slice A3 ((ws ++ [leafH sum s0]).length) c3), (22, .slice A2 (List.length (ns : List Nat)) c2), (23, .slice (some ⟨g2, 0, none⟩) 1 1), (24, .slice A4 ((ns ++ [1]).length) c4), (25, .slice A4 ((ns ++ [1]).length) c4), (26, .int .i64 (((ns ++ [1]).length : Nat) : Int)), (27, .int .i64 ((ms.length : Nat) : Int)), (28, .bool (decide (1 < ((ms.length : Nat) : Int)))), (29, .bool true), (30, .slice B2 (List.length (ms : List Nat)) d2), (31, .int .i64 ((ms.length : Nat) : Int)), (32, .int .i64 (((ms.length : Nat) : Int) - 2)), (33, .pointer (some ⟨ab B2, ao B2 + (ms.length - 2) * 1, none⟩)), (34, .int .i64 ((d.length : Nat) : Int)), (35, .slice B2 (List.length (ms : List Nat)) d2), (36, .int .i64 ((ms.length : Nat) : Int)), (37, .int .i64 (((ms.length : Nat) : Int) - 1)), (38, .pointer (some ⟨ab B2, ao B2 + (ms.length - 1) * 1, none⟩)), (39, .int .i64 ((c.length : Nat) : Int)), (40, .bool (decide (((d.length : Nat) : Int) = ((c.length : Nat) : Int)))), (41, .bool (decide (((d.length : Nat) : Int) = ((c.length : Nat) : Int))))]) ⟨rfl, rfl, rfl, rfl, rfl, rfl, rfl, rfl, rfl, rfl, rfl, rfl, rfl, rfl, rfl, rfl, rfl, rfl, rfl, rfl, rfl, rfl, rfl, rfl, rfl, rfl, rfl, rfl, rfl, rfl, rfl, rfl, rfl, rfl, rfl, rfl, trivial⟩ ?_
        refine CX.region ?_
        refine RX.cons rfl rfl (op_w (yw_add rfl rfl rfl (by omega) (by omega)) rfl rfl ?_)
        refine RX.cons rfl rfl (op_w (yw_move rfl rfl) rfl rfl ?_)
        refine RX.nil (XX.againP ([]) (i + 1, (B1, d1), (B2, d2), vs, ms) (by dsimp only; omega) ⟨by dsimp only; omega, E, hE.done hEn, hEf, hvs, hms⟩ ⟨rfl, rfl, rfl, rfl, rfl, rfl, rfl, trivial⟩ ((perm_pick 0 rfl).trans (List.Perm.cons _ ((perm_pick 0 rfl).trans (List.Perm.cons _ (List.Perm.refl _))))))
    · have hEn : ∀ d' c', 2 ≤ E.length → E[E.length - 2]? = some d' → E[E.length - 1]? = some c' → d'.length ≠ c'.length := fun d' c' h _ _ => by omega
      refine DX.skip 3 15 (by kernel_rfl) rfl rfl rfl rfl rfl rfl rfl rfl ?_
      refine DX.skip 4 31 (by kernel_rfl) rfl rfl rfl rfl rfl rfl rfl rfl ?_
      refine DX.skip 5 63 (by kernel_rfl) rfl rfl rfl rfl rfl rfl rfl rfl ?_
      refine DX.skip 6 127 (by kernel_rfl) rfl rfl rfl rfl rfl rfl rfl rfl ?_
      refine DX.skip 7 255 (by kernel_rfl) rfl rfl rfl rfl rfl rfl rfl rfl ?_
      refine DX.skip 8 511 (by kernel_rfl) rfl rfl rfl rfl rfl rfl rfl rfl ?_
      refine DX.skip 9 1023 (by kernel_rfl) rfl rfl rfl rfl rfl rfl rfl rfl ?_
      refine DX.skip 10 2047 (by kernel_rfl) rfl rfl rfl rfl rfl rfl rfl rfl ?_
      refine DX.skip 11 4095 (by kernel_rfl) rfl rfl rfl rfl rfl rfl rfl rfl ?_
      refine DX.skip 12 8191 (by kernel_rfl) rfl rfl rfl rfl rfl rfl rfl rfl ?_
      refine DX.skip 13 16383 (by kernel_rfl) rfl rfl rfl rfl rfl rfl rfl rfl ?_
      refine DX.takeW 14 32767 (by kernel_rfl) rfl rfl rfl rfl rfl (yw_pickF rfl rfl rfl) ?_
      refine DX.done (by kernel_rfl) (XX.next (V' := [(0, .slice A xs.length cap), (2, .string .empty), (3, .slice B1 (List.length (vs : List ByteArray)) d1), (4, .slice B2 (List.length (ms : List Nat)) d2), (6, .string s0), (7, .int .i64 ((ms.length : Nat) : Int)), (11, .slice A xs.length cap), (12, .int .i64 ((xs.length : Nat) : Int)), (13, .int .i64 ((i : Nat) : Int)), (15, .pointer (some ⟨ab A, ao A + i * 1, none⟩)), (16, .string s0), (17, .slice A1 (List.length (ws : List ByteArray)) c1), (18, .string s0), (19, .string (leafH sum s0)), (20, .slice (some ⟨g1, 0, none⟩) 1 1), (21, .slice A3 ((ws ++ [leafH sum s0]).length) c3), (22, .slice A2 (List.length (ns : List Nat)) c2), (23, .slice (some ⟨g2, 0, none⟩) 1 1), (24, .slice A4 ((ns ++ [1]).length) c4), (25, .slice A4 ((ns ++ [1]).length) c4), (26, .int .i64 (((ns ++ [1]).length : Nat) : Int)), (27, .int .i64 ((ms.length : Nat) : Int)), (28, .bool (decide (1 < ((ms.length : Nat) : Int)))), (29, .bool false), (30, undef), (31, undef), (32, undef), (33, undef), (34, undef), (35, undef), (36, undef), (37, undef), (38, undef), (39, undef), (40, undef), (41, .bool false)]) ⟨rfl, rfl, rfl, rfl, rfl, rfl, rfl, rfl, rfl, rfl, rfl, rfl, rfl, rfl, rfl, rfl, rfl, rfl, rfl, rfl, rfl, rfl, rfl, rfl, rfl, rfl, rfl, rfl, rfl, rfl, rfl, rfl, rfl, rfl, rfl, rfl, trivial⟩ ?_)
      refine CX.condF rfl ?_
      refine CX.exit ?_
      refine XX.then_exit ?_
      refine XX.then_exit ?_
      refine XX.block_exit ?_
      refine XX.inBlock (V' := [(0, .slice A xs.length cap), (2, .string .empty), (3, .slice B1 (List.length (vs : List ByteArray)) d1), (4, .slice B2 (List.length (ms : List Nat)) d2), (6, .string s0), (7, .int .i64 ((ms.length : Nat) : Int)), (11, .slice A xs.length cap), (12, .int .i64 ((xs.length : Nat) : Int)), (13, .int .i64 ((i : Nat) : Int)), (15, .pointer (some ⟨ab A, ao A + i * 1, none⟩)), (16, .string s0), (17, .slice A1 (List.length (ws : List ByteArray)) c1), (18, .string s0), (19, .string (leafH sum s0)), (20, .slice (some ⟨g1, 0, none⟩) 1 1), (21, .slice A3 ((ws ++ [leafH sum s0]).length) c3), (22, .slice A2 (List.length (ns : List Nat)) c2), (23, .slice (some ⟨g2, 0, none⟩) 1 1), (24, .slice A4 ((ns ++ [1]).length) c4), (25, .slice A4 ((ns ++ [1]).length) c4), (26, .int .i64 (((ns ++ [1]).length : Nat) : Int)), (27, .int .i64 ((ms.length : Nat) : Int)), (28, .bool (decide (1 < ((ms.length : Nat) : Int)))), (29, .bool false), (30, undef), (31, undef), (32, undef), (33, undef), (34, undef), (35, undef), (36, undef), (37, undef), (38, undef), (39, undef), (40, undef), (41, .bool false)]) ⟨rfl, rfl, rfl, rfl, rfl, rfl, rfl, rfl, rfl, rfl, rfl, rfl, rfl, rfl, rfl, rfl, rfl, rfl, rfl, rfl, rfl, rfl, rfl, rfl, rfl, rfl, rfl, rfl, rfl, rfl, rfl, rfl, rfl, rfl, rfl, rfl, trivial⟩ ?_
      refine XX.next (V' := [(0, .slice A xs.length cap), (2, .string .empty), (3, .slice B1 (List.length (vs : List ByteArray)) d1), (4, .slice B2 (List.length (ms : List Nat)) d2), (6, .string s0), (7, .int .i64 ((ms.length : Nat) : Int)), (11, .slice A xs.length cap), (12, .int .i64 ((xs.length : Nat) : Int)), (13, .int .i64 ((i : Nat) : Int)), (15, .pointer (some ⟨ab A, ao A + i * 1, none⟩)), (16, .string s0), (17, .slice A1 (List.length (ws : List ByteArray)) c1), (18, .string s0), (19, .string (leafH sum s0)), (20, .slice (some ⟨g1, 0, none⟩) 1 1), (21, .slice A3 ((ws ++ [leafH sum s0]).length) c3), (22, .slice A2 (List.length (ns : List Nat)) c2), (23, .slice (some ⟨g2, 0, none⟩) 1 1), (24, .slice A4 ((ns ++ [1]).length) c4), (25, .slice A4 ((ns ++ [1]).length) c4), (26, .int .i64 (((ns ++ [1]).length : Nat) : Int)), (27, .int .i64 ((ms.length : Nat) : Int)), (28, .bool (decide (1 < ((ms.length : Nat) : Int)))), (29, .bool false), (30, undef), (31, undef), (32, undef), (33, undef), (34, undef), (35, undef), (36, undef), (37, undef), (38, undef), (39, undef), (40, undef), (41, .bool false)]) ⟨rfl, rfl, rfl, rfl, rfl, rfl, rfl, rfl, rfl, rfl, rfl, rfl, rfl, rfl, rfl, rfl, rfl, rfl, rfl, rfl, rfl, rfl, rfl, rfl, rfl, rfl, rfl, rfl, rfl, rfl, rfl, rfl, rfl, rfl, rfl, rfl, trivial⟩ ?_
      refine CX.region ?_
      refine RX.cons rfl rfl (op_w (yw_add rfl rfl rfl (by omega) (by omega)) rfl rfl ?_)
      refine RX.cons rfl rfl (op_w (yw_move rfl rfl) rfl rfl ?_)
      refine RX.nil (XX.againP ([]) (i + 1, (B1, d1), (B2, d2), vs, ms) (by dsimp only; omega) ⟨by dsimp only; omega, E, hE.done hEn, hEf, hvs, hms⟩ ⟨rfl, rfl, rfl, rfl, rfl, rfl, rfl, trivial⟩ ((perm_pick 0 rfl).trans (List.Perm.cons _ ((perm_pick 0 rfl).trans (List.Perm.cons _ (List.Perm.refl _))))))
  · refine CX.exit ?_
    refine XX.then_exit ?_
    refine XX.then_exit ?_
    refine XX.block_exit ?_
    refine XX.next (V' := [(0, .slice A xs.length cap), (2, .string .empty), (3, .slice A1 (List.length (ws : List ByteArray)) c1), (4, .slice A2 (List.length (ns : List Nat)) c2), (11, .slice A xs.length cap), (12, .int .i64 ((xs.length : Nat) : Int)), (13, .int .i64 ((i : Nat) : Int)), (14, .bool (decide (((i : Nat) : Int) < ((xs.length : Nat) : Int))))]) ⟨rfl, rfl, rfl, rfl, rfl, rfl, rfl, rfl, trivial⟩ ?_
    refine CX.seq ?_
    refine CX.seq ?_
    refine CX.region ?_
    refine RX.cons rfl rfl (op_w (yw_move rfl rfl) rfl rfl ?_)
    refine RX.cons rfl rfl (op_w (yw_lenS rfl Tryd.underlying35 rfl) rfl rfl ?_)
    refine RX.cons rfl rfl (op_w (yw_eql rfl rfl rfl) rfl rfl ?_)
    refine RX.nil (XX.next (V' := [(0, .slice A xs.length cap), (2, .string .empty), (3, .slice A1 (List.length (ws : List ByteArray)) c1), (4, .slice A2 (List.length (ns : List Nat)) c2), (11, .slice A xs.length cap), (12, .int .i64 ((xs.length : Nat) : Int)), (13, .int .i64 ((i : Nat) : Int)), (14, .bool (decide (((i : Nat) : Int) < ((xs.length : Nat) : Int)))), (74, .slice A1 (List.length (ws : List ByteArray)) c1), (75, .int .i64 ((List.length (ws : List ByteArray) : Nat) : Int)), (76, .bool (decide (((List.length (ws : List ByteArray) : Nat) : Int) = 0)))]) ⟨rfl, rfl, rfl, rfl, rfl, rfl, rfl, rfl, rfl, rfl, rfl, trivial⟩ ?_)
    refine CX.condD (p := ((List.length (ws : List ByteArray) : Nat) : Int) = 0) rfl (fun c76 => ?_) (fun c76 => ?_)
    · refine CX.seq ?_
      refine CX.region ?_
      refine RX.cons rfl rfl (op_callV (v := .string (sum .empty)) rfl rfl rfl rfl rfl ent_46 (fun w hw => w_sum .empty (hG.keep hw (by simp)) (by decide)) ?_)
      refine RX.cons rfl rfl (op_w (yw_assign rfl rfl) rfl rfl ?_)
      refine RX.nil (XX.next (V' := [(2, .string (sum .empty))]) ⟨rfl, trivial⟩ ?_)
      refine CX.ret ?_
      refine XX.then_ret ?_
      exact ret_tmpM0 rfl rfl fun w1 hw => ⟨by obtain rfl : C = [] := List.eq_nil_of_length_eq_zero (by omega); rw [List.take_of_length_le (by omega)] at hCf; rw [← hCf]; rfl, hw.sub (List.nil_sublist _)⟩
    · obtain ⟨c, hc⟩ := get_some (l := C) (k := C.length - 1) (by omega)
      have hw1 : ws[ws.length - 1]? = some (root sum c) := by rw [hwl, hws, List.getElem?_map, hc]; rfl
      have hxs : xs.take i = xs := List.take_of_length_le (by omega)
      refine CX.rowSome 0 rfl (by simp; omega) (fun hA1 => ?_)
      refine CX.rowCap 0 rfl (fun hd1 => ?_)
      have hx32 : ∀ s ∈ List.take (ws.length - 1) ws, s.size = 32 := by
        intro s hs
        have hm := List.mem_of_mem_take hs
        rw [hws] at hm
        obtain ⟨b, _, rfl⟩ := List.mem_map.1 hm
        exact sum_root_size b
      refine CX.skip (XX.next (V' := [(0, .slice A xs.length cap), (2, .string .empty), (3, .slice A1 (List.length (ws : List ByteArray)) c1), (4, .slice A2 (List.length (ns : List Nat)) c2), (11, .slice A xs.length cap), (12, .int .i64 ((xs.length : Nat) : Int)), (13, .int .i64 ((i : Nat) : Int)), (14, .bool (decide (((i : Nat) : Int) < ((xs.length : Nat) : Int)))), (74, .slice A1 (List.length (ws : List ByteArray)) c1), (75, .int .i64 ((List.length (ws : List ByteArray) : Nat) : Int)), (76, .bool (decide (((List.length (ws : List ByteArray) : Nat) : Int) = 0)))]) ⟨rfl, rfl, rfl, rfl, rfl, rfl, rfl, rfl, rfl, rfl, rfl, trivial⟩ ?_)
      refine CX.seq ?_
      refine CX.region ?_
      refine RX.cons rfl rfl (op_w (yw_move rfl rfl) rfl rfl ?_)
      refine RX.cons rfl rfl (op_w (yw_move rfl rfl) rfl rfl ?_)
      refine RX.cons rfl rfl (op_w (yw_lenS rfl Tryd.underlying35 rfl) rfl rfl ?_)
      refine RX.cons rfl rfl (op_w (yw_sub rfl rfl rfl (by omega) (by omega)) rfl rfl ?_)
      refine RX.cons rfl rfl (op_w (yw_index (k := (ws.length - 1)) rfl slt_35 rfl rfl (by omega) (by omega) hA1) rfl rfl ?_)
      refine RX.cons rfl rfl (op_yld (y_rowElem1 (i := 0) rfl rfl one_9 rfl (map_get hw1)) rfl rfl ?_)
      refine RX.cons rfl rfl (op_alloc rfl rfl rfl zero_9 fun go => ?_)
      refine RX.cons rfl rfl (op_storeAll (i := 0) rfl rfl rfl rfl szt_9 rfl (plain_of rfl) rfl rfl ?_)
      refine RX.nil (XX.next (V' := [(0, .slice A xs.length cap), (2, .string .empty), (3, .slice A1 (List.length (ws : List ByteArray)) c1), (4, .slice A2 (List.length (ns : List Nat)) c2), (8, .pointer (some ⟨go, 0, none⟩)), (11, .slice A xs.length cap), (12, .int .i64 ((xs.length : Nat) : Int)), (13, .int .i64 ((i : Nat) : Int)), (14, .bool (decide (((i : Nat) : Int) < ((xs.length : Nat) : Int)))), (74, .slice A1 (List.length (ws : List ByteArray)) c1), (75, .int .i64 ((List.length (ws : List ByteArray) : Nat) : Int)), (76, .bool (decide (((List.length (ws : List ByteArray) : Nat) : Int) = 0))), (78, .slice A1 (List.length (ws : List ByteArray)) c1), (79, .slice A1 (List.length (ws : List ByteArray)) c1), (80, .int .i64 ((List.length (ws : List ByteArray) : Nat) : Int)), (81, .int .i64 (((List.length (ws : List ByteArray) : Nat) : Int) - 1)), (82, .pointer (some ⟨ab A1, ao A1 + (ws.length - 1) * 1, none⟩)), (83, .string (root sum c))]) ⟨rfl, rfl, rfl, rfl, rfl, rfl, rfl, rfl, rfl, rfl, rfl, rfl, rfl, rfl, rfl, rfl, rfl, rfl, trivial⟩ ?_)
      refine CX.seq ?_
      refine CX.seq ?_
      refine CX.region ?_
      refine RX.cons rfl rfl (op_w (yw_move rfl rfl) rfl rfl ?_)
      refine RX.cons rfl rfl (op_w (yw_move rfl rfl) rfl rfl ?_)
      refine RX.cons rfl rfl (op_w (yw_lenS rfl Tryd.underlying35 rfl) rfl rfl ?_)
      refine RX.cons rfl rfl (op_w (yw_sub rfl rfl rfl (by omega) (by omega)) rfl rfl ?_)
      refine RX.cons rfl rfl (op_w (yw_sliceTo (k := (ws.length - 1)) rfl slt_35 rfl rfl (by omega) (by omega)) rfl rfl ?_)
      refine RX.cons rfl rfl (op_callE rfl rfl rfl rfl rfl ent_55 (fun w _ => w_backS A1 (ws.length - 1) c1) (fun zbbackS _ => ?_))
      refine RX.nil (XX.next (V' := [(0, .slice A xs.length cap), (2, .string .empty), (3, .slice A1 (List.length (ws : List ByteArray)) c1), (4, .slice A2 (List.length (ns : List Nat)) c2), (8, .pointer (some ⟨go, 0, none⟩)), (11, .slice A xs.length cap), (12, .int .i64 ((xs.length : Nat) : Int)), (13, .int .i64 ((i : Nat) : Int)), (14, .bool (decide (((i : Nat) : Int) < ((xs.length : Nat) : Int)))), (74, .slice A1 (List.length (ws : List ByteArray)) c1), (75, .int .i64 ((List.length (ws : List ByteArray) : Nat) : Int)), (76, .bool (decide (((List.length (ws : List ByteArray) : Nat) : Int) = 0))), (78, .slice A1 (List.length (ws : List ByteArray)) c1), (79, .slice A1 (List.length (ws : List ByteArray)) c1), (80, .int .i64 ((List.length (ws : List ByteArray) : Nat) : Int)), (81, .int .i64 (((List.length (ws : List ByteArray) : Nat) : Int) - 1)), (82, .pointer (some ⟨ab A1, ao A1 + (ws.length - 1) * 1, none⟩)), (83, .string (root sum c)), (84, .slice A1 (List.length (ws : List ByteArray)) c1), (85, .slice A1 (List.length (ws : List ByteArray)) c1), (86, .int .i64 ((List.length (ws : List ByteArray) : Nat) : Int)), (87, .int .i64 (((List.length (ws : List ByteArray) : Nat) : Int) - 1)), (88, .slice A1 (ws.length - 1) c1), (89, .func (.func 78) #[] #[.pointer (some ⟨zbbackS, 0, none⟩)])]) ⟨rfl, rfl, rfl, rfl, rfl, rfl, rfl, rfl, rfl, rfl, rfl, rfl, rfl, rfl, rfl, rfl, rfl, rfl, rfl, rfl, rfl, rfl, rfl, rfl, trivial⟩ ?_)
      refine CX.block ?_
      refine CX.rangeFunc (σ := D32) (LL := fun h => [.blk go (.cells (#[.string (Subtype.val h)]) 9 (0, 0))]) (post := fun h => h = (List.foldr (fun a s => nodeD s a) (⟨root sum c, sum_root_size c⟩ : D32) (List.take (ws.length - 1) ws))) [.blk go (.cells (#[.string (Subtype.val (⟨root sum c, sum_root_size c⟩ : D32))]) 9 (0, 0))] [.blk zbbackS (.cells (#[.slice A1 (ws.length - 1) c1]) 35 (0, 0)), .row A1 c1 9 1 (List.map strC ws), .row A2 c2 3 1 (List.map intC ns)] ((perm_pick 1 rfl).trans (List.Perm.cons _ (List.Perm.refl _))) rfl ent_78 ?_ ?_
      · intro l Dk fn a w1 ha hw hs
        have hM : SL w [] w1 ((RB l Dk (mkRec fn a.tmps _ _ _ Dk) ++ (fun h : D32 => [.blk go (.cells (#[.string (Subtype.val h)]) 9 (0, 0))]) (⟨root sum c, sum_root_size c⟩ : D32)) ++ [.blk zbbackS (.cells (#[.slice A1 (ws.length - 1) c1]) 35 (0, 0)), .row A1 c1 9 1 (List.map strC ws), .row A2 c2 3 1 (List.map intC ns)]) := hw
        have hO0 := hM.fresh (List.subset_append_left _ _) (World.block_lt_of_cell? w _ (hG 0 _ rfl))
        have hGw : Rounds w1 := hG.keep hw (by simp)
        refine (w_backS1 (l := l) (Dk := Dk) (St := (fun h : D32 => [.blk go (.cells (#[.string (Subtype.val h)]) 9 (0, 0))])) (Rl := (fun (h : D32) (x : List Value) (h' : D32) => ∀ q a0, (List.take (ws.length - 1) ws)[List.length (List.take (ws.length - 1) ws) - 1 - q]? = some a0 → x = [.int .i64 ((List.length (List.take (ws.length - 1) ws) - 1 - q : Nat) : Int), .string a0] → h' = nodeD h a0)) (ok := (fun x => ∃ q a0, (List.take (ws.length - 1) ws)[List.length (List.take (ws.length - 1) ws) - 1 - q]? = some a0 ∧ x = [.int .i64 ((List.length (List.take (ws.length - 1) ws) - 1 - q : Nat) : Int), .string a0])) (⟨root sum c, sum_root_size c⟩ : D32) ?_ (List.take (ws.length - 1) ws) (Rd.takeM (Ent.rd (hM.ents _ (List.mem_of_getElem? (i := 4) rfl))) (ws.length - 1)) (hM.apartA hO0 1 rfl) (hM.cellOf (i := 3) rfl (by rw [List.length_take, Nat.min_eq_left (Nat.sub_le _ _)]; rfl)) (hM.apart 0 rfl (by simp [Ent.blocks])) (by simp; omega) (fun q hq => by obtain ⟨a0, ha0⟩ := get_some (l := (List.take (ws.length - 1) ws)) (k := List.length (List.take (ws.length - 1) ws) - 1 - q) (by omega); exact ⟨q, a0, ha0, backI_at ha0⟩) hs).mono ?_
        · rintro h x w2 ⟨q, a0, ha0, rfl⟩ hag hs2
          have ha32 := hx32 a0 (List.mem_of_getElem? ha0)
          have hh32 := h.2
          have hO3 := hO0
          simp [Ent.blocks, mrow] at hO3
          have hnd := hs2.nodup
          simp [Ent.blocks, mrow] at hnd
          have hG2 : Rounds w2 := fun p y hp => by
            have h0 := hGw p y hp
            rw [← h0]
            exact World.cell?_of_block (hag 0 (World.block_lt_of_cell? w1 _ h0) hO0)
          refine round_of_CX2 (n := Tryd.f30.ntmps) (V0 := [(91, .string a0), (90, .int .i64 ((List.length (List.take (ws.length - 1) ws) - 1 - q : Nat) : Int)), (8, .pointer (some ⟨go, 0, none⟩))]) (σ := Unit) (τ := D32) (M := [.blk go (.cells (#[.string (Subtype.val h)]) 9 (0, 0))]) (fun _ => [(8, .pointer (some ⟨go, 0, none⟩)), (10, .string a0)]) (fun _ => [.blk go (.cells (#[.string (Subtype.val h)]) 9 (0, 0))]) (fun _ => True) (LL := (fun h : D32 => [.blk go (.cells (#[.string (Subtype.val h)]) 9 (0, 0))])) (post := fun h' => ∀ q' a', (List.take (ws.length - 1) ws)[List.length (List.take (ws.length - 1) ws) - 1 - q']? = some a' → [Value.int .i64 ((List.length (List.take (ws.length - 1) ws) - 1 - q : Nat) : Int), .string a0] = [.int .i64 ((List.length (List.take (ws.length - 1) ws) - 1 - q' : Nat) : Int), .string a'] → h' = nodeD h a') rfl rfl rfl ?_ ?_ ?_ hs2
          · exact ((ha.sub (V' := [(8, .pointer (some ⟨go, 0, none⟩))]) ⟨rfl, trivial⟩).round 90 rfl _).round 91 rfl _
          · refine CX.region ?_
            refine RX.cons rfl rfl (op_w (yw_assign rfl rfl) rfl rfl ?_)
            refine RX.nil (XX.meetP ([]) () trivial ⟨rfl, rfl, trivial⟩ ((perm_pick 0 rfl).trans (List.Perm.cons _ ((perm_pick 0 rfl).trans (List.Perm.cons _ ((perm_pick 0 rfl).trans (List.Perm.cons _ (List.Perm.refl _))))))))
          · intro _ _
            refine CX.block ?_
            refine CX.region ?_
            refine RX.cons rfl rfl (op_w (yw_move rfl rfl) rfl rfl ?_)
            refine RX.cons rfl rfl (op_yld (y_load (i := 2) rfl rfl one_9 rfl rfl) rfl rfl ?_)
            refine RX.cons rfl rfl (op_callV (v := .string (nodeH sum a0 (Subtype.val h))) rfl rfl rfl rfl rfl ent_54 (fun w hw => w_node a0 (Subtype.val h) (hG2.keep hw hO0) (by omega)) ?_)
            refine RX.cons rfl rfl (op_storeAll (i := 2) rfl rfl rfl rfl szt_9 rfl (plain_of rfl) rfl rfl ?_)
            refine RX.nil (XX.inBlock (V' := []) trivial ?_)
            refine XX.meetP ([]) (nodeD h a0) (fun q' a' _ he => by rw [str_inj he]) trivial ((perm_pick 0 rfl).trans (List.Perm.cons _ ((perm_pick 0 rfl).trans (List.Perm.cons _ ((perm_pick 0 rfl).trans (List.Perm.cons _ (List.Perm.refl _)))))))
        · exact fun e w' ⟨h, hst, he, hz⟩ => ⟨h, Steps.backAll (f := strV) (step := fun (h : D32) (a : ByteArray) => nodeD h a) (List.take (ws.length - 1) ws) (fun s q a0 s' h0 hr => hr q a0 h0 (backI_at h0)) hst, ⟨_, he⟩, hz⟩
      · intro h l Dk ob hh
        have hhv : h.1 = root sum C.flatten := by rw [hh, nodeD_fold]; exact hC.end (by intro e; simp [e] at hc) hc hws
        refine XX.inBlock (V' := [(8, .pointer (some ⟨go, 0, none⟩))]) ⟨rfl, trivial⟩ ?_
        refine XX.next (V' := [(8, .pointer (some ⟨go, 0, none⟩))]) ⟨rfl, trivial⟩ ?_
        refine CX.seq ?_
        refine CX.region ?_
        refine RX.cons rfl rfl (op_yld (y_load (i := 2) rfl rfl one_9 rfl rfl) rfl rfl ?_)
        refine RX.cons rfl rfl (op_w (yw_assign rfl rfl) rfl rfl ?_)
        refine RX.nil (XX.next (V' := [(2, .string (Subtype.val h))]) ⟨rfl, trivial⟩ ?_)
        refine CX.ret ?_
        exact ret_tmpM (k := 1) rfl rfl rfl fun w1 hw => ⟨by rw [hhv, hCf, hxs], hw.sub (List.nil_sublist _)⟩

end Go.Proofs.YtnadipjlhlbfoaaDoor
namespace Go.Proofs.YtnadipjlhlbfoaaDoor
set_option linter.all false
open Go Go.RowKit
section
variable (h : B → B)
theorem pathF_fuel : ∀ (k j : Nat) (l : List B) (i : Nat), l.length ≤ k → l.length ≤ j → pathF h k l i = pathF h j l i
  | 0, 0, _, _, _, _ => rfl
  | 0, j + 1, l, i, h1, _ => by unfold pathF; rw [if_pos (by omega)]
  | k + 1, 0, l, i, _, h2 => by unfold pathF; rw [if_pos (by omega)]
  | k + 1, j + 1, l, i, h1, h2 => by
    unfold pathF
    by_cases hl : l.length ≤ 1
    · rw [if_pos hl, if_pos hl]
    · have hp := lft_pos l.length
      have hq := lft_lt (n := l.length) (by omega)
      rw [if_neg hl, if_neg hl, pathF_fuel k j (l.take _) i (by simp; omega) (by simp; omega), pathF_fuel k j (l.drop _) _ (by simp; omega) (by simp; omega)]
def path (l : List B) (i : Nat) : List B := pathF h l.length l i
theorem path_one {l : List B} (hl : l.length ≤ 1) (i : Nat) : path h l i = [] := by
  unfold path
  match hn : l.length, hl with
  | 0, _ => rfl
  | 1, _ => unfold pathF; rw [if_pos (by omega)]
theorem path_lt {l : List B} (hl : 2 ≤ l.length) {i : Nat} (hi : i < lft l.length) : path h l i = root h (l.drop (lft l.length)) :: path h (l.take (lft l.length)) i := by
  obtain ⟨k, hk⟩ : ∃ k, l.length = k + 1 := ⟨l.length - 1, by omega⟩
  have hp := lft_pos l.length
  have hq := lft_lt (n := l.length) (by omega)
  have e : path h l i = pathF h (k + 1) l i := by unfold path; rw [hk]
  rw [e, pathF, if_neg (by omega), if_pos hi, path, pathF_fuel h k _ (l.take _) i (by simp; omega) (Nat.le_refl _)]
theorem path_ge {l : List B} (hl : 2 ≤ l.length) {i : Nat} (hi : lft l.length ≤ i) : path h l i = root h (l.take (lft l.length)) :: path h (l.drop (lft l.length)) (i - lft l.length) := by
  obtain ⟨k, hk⟩ : ∃ k, l.length = k + 1 := ⟨l.length - 1, by omega⟩
  have hp := lft_pos l.length
  have hq := lft_lt (n := l.length) (by omega)
  have e : path h l i = pathF h (k + 1) l i := by unfold path; rw [hk]
  rw [e, pathF, if_neg (by omega), if_neg (by omega), path, pathF_fuel h k _ (l.drop _) _ (by simp; omega) (Nat.le_refl _)]
theorem extF_fuel : ∀ (k j : Nat) (l : List B) (m : Nat) (w : Bool), 1 ≤ m → m ≤ l.length → l.length ≤ k → l.length ≤ j → extF h k l m w = extF h j l m w
  | 0, _, _, _, _, h0, h3, h1, _ => by omega
  | _ + 1, 0, _, _, _, h0, h3, _, h2 => by omega
  | k + 1, j + 1, l, m, w, h0, h3, h1, h2 => by
    unfold extF
    by_cases hl : l.length ≤ m
    · rw [if_pos hl, if_pos hl]
    · rw [if_neg hl, if_neg hl]
      have hp := lft_pos l.length
      have hq := lft_lt (n := l.length) (by omega)
      by_cases hm : m ≤ lft l.length
      · rw [if_pos hm, if_pos hm, extF_fuel k j (l.take _) m w h0 (by simp; omega) (by simp; omega) (by simp; omega)]
      · rw [if_neg hm, if_neg hm, extF_fuel k j (l.drop _) _ false (by omega) (by simp; omega) (by simp; omega) (by simp; omega)]
def ext (l : List B) (m : Nat) (w : Bool) : List B := extF h l.length l m w
theorem ext_done {l : List B} {m : Nat} (hm : l.length ≤ m) (h0 : 1 ≤ l.length) (w : Bool) : ext h l m w = if w then [] else [root h l] := by
  obtain ⟨k, hk⟩ : ∃ k, l.length = k + 1 := ⟨l.length - 1, by omega⟩
  have e : ext h l m w = extF h (k + 1) l m w := by unfold ext; rw [hk]
  rw [e, extF, if_pos hm]
theorem ext_le {l : List B} {m : Nat} (h1 : 1 ≤ m) (hl : m < l.length) (hm : m ≤ lft l.length) (w : Bool) : ext h l m w = root h (l.drop (lft l.length)) :: ext h (l.take (lft l.length)) m w := by
  obtain ⟨k, hk⟩ : ∃ k, l.length = k + 1 := ⟨l.length - 1, by omega⟩
  have hp := lft_pos l.length
  have hq := lft_lt (n := l.length) (by omega)
  have e : ext h l m w = extF h (k + 1) l m w := by unfold ext; rw [hk]
  rw [e, extF, if_neg (by omega), if_pos hm, ext, extF_fuel h k _ (l.take _) m w h1 (by simp; omega) (by simp; omega) (Nat.le_refl _)]
theorem ext_gt {l : List B} {m : Nat} (h1 : 1 ≤ m) (hl : m < l.length) (hm : lft l.length < m) (w : Bool) : ext h l m w = root h (l.take (lft l.length)) :: ext h (l.drop (lft l.length)) (m - lft l.length) false := by
  obtain ⟨k, hk⟩ : ∃ k, l.length = k + 1 := ⟨l.length - 1, by omega⟩
  have hp := lft_pos l.length
  have hq := lft_lt (n := l.length) (by omega)
  have e : ext h l m w = extF h (k + 1) l m w := by unfold ext; rw [hk]
  rw [e, extF, if_neg (by omega), if_neg (by omega), ext, extF_fuel h k _ (l.drop _) _ false (by omega) (by simp; omega) (by simp; omega) (Nat.le_refl _)]
end
end Go.Proofs.YtnadipjlhlbfoaaDoor
namespace Go.Proofs.YtnadipjlhlbfoaaDoor
set_option linter.all false
open Go Go.RowKit
set_option maxRecDepth 100000
theorem ent_63 : ∀ args w, (callFunc 63 args).run Tryd.prog w = .ok (.enter 63 args) w := enters_of Tryd.func63 (by kernel_rfl) rfl
theorem ent_48 : ∀ args w, (callFunc 48 args).run Tryd.prog w = .ok (.enter 48 args) w := enters_of Tryd.func48 (by kernel_rfl) rfl
theorem ent_30 : ∀ args w, (callFunc 30 args).run Tryd.prog w = .ok (.enter 30 args) w := enters_of Tryd.func30 (by kernel_rfl) rfl
set_option maxRecDepth 100000 in
theorem w_proof {w : World} {A : Option Addr} {cap : Nat} (xs : List ByteArray) (i : Nat) (hG : Rounds w) (hr : Rd w A 1 (xs.map strC)) (hcap : xs.length ≤ cap) (hl : xs.length ≤ 1099511627776) (hsz : ∀ s ∈ xs, s.size ≤ 4294967296) (hi : i < xs.length) :
    Calls Tryd.prog 36 #[.slice A xs.length cap, .int .i64 ((i : Nat) : Int)] w (fun e w' => ∃ z : Option Addr × Nat, True ∧ e = .returned (.tuple #[.slice z.1 (List.length ((path sum xs i).reverse)) z.2, .int .i64 0]) ∧ SL w [] w' [.row z.1 z.2 9 1 (List.map strC ((path sum xs i).reverse))]) := by
  refine calls_of_CX (O := []) (L := []) (args := [.slice A xs.length cap, .int .i64 ((i : Nat) : Int)]) Tryd.func36 rfl (by simp [Tryd.ntmps36]) (SL.refl w) ?_
  refine CX.sub (V' := [(0, .slice A xs.length cap), (1, .int .i64 ((i : Nat) : Int))]) ⟨rfl, rfl, trivial⟩ ?_
  refine CX.seq ?_
  refine CX.region ?_
  refine RX.cons rfl rfl (op_w (yw_assign rfl rfl) rfl rfl ?_)
  refine RX.cons rfl rfl (op_w (yw_assign rfl rfl) rfl rfl ?_)
  refine RX.nil (XX.next (V' := [(0, .slice A xs.length cap), (1, .int .i64 ((i : Nat) : Int))]) ⟨rfl, rfl, trivial⟩ ?_)
  refine CX.scope ?_
  refine CX.seq ?_
  refine CX.seq ?_
  refine CX.region ?_
  refine RX.cons rfl rfl (op_w (yw_move rfl rfl) rfl rfl ?_)
  refine RX.cons rfl rfl (op_w (yw_lss rfl rfl rfl) rfl rfl ?_)
  refine RX.cons rfl rfl (op_w (yw_move rfl rfl) rfl rfl ?_)
  refine RX.splitD (t := 12) (p := ((i : Nat) : Int) < 0) rfl (fun d12 => ?_) (fun d12 => ?_)
  · exfalso; omega
  · refine RX.consG rfl rfl rfl rfl rfl (op_w (yw_move rfl rfl) rfl rfl ?_)
    refine RX.consG rfl rfl rfl rfl rfl (op_w (yw_move rfl rfl) rfl rfl ?_)
    refine RX.consG rfl rfl rfl rfl rfl (op_w (yw_lenS rfl Tryd.underlying35 rfl) rfl rfl ?_)
    refine RX.consG rfl rfl rfl rfl rfl (op_w (yw_geq rfl rfl rfl) rfl rfl ?_)
    refine RX.cons rfl rfl (op_w (yw_pickF rfl rfl rfl) rfl rfl ?_)
    refine RX.nil (XX.next (V' := [(0, .slice A xs.length cap), (1, .int .i64 ((i : Nat) : Int)), (17, .bool (decide (((xs.length : Nat) : Int) ≤ ((i : Nat) : Int))))]) ⟨rfl, rfl, rfl, trivial⟩ ?_)
    refine CX.condD (p := ((xs.length : Nat) : Int) ≤ ((i : Nat) : Int)) rfl (fun c17 => ?_) (fun c17 => ?_)
    · exfalso; omega
    · refine CX.skip (XX.next (V' := [(0, .slice A xs.length cap), (1, .int .i64 ((i : Nat) : Int))]) ⟨rfl, rfl, trivial⟩ ?_)
      refine CX.seq ?_
      refine CX.region ?_
      refine RX.cons rfl rfl (op_w (yw_assign rfl rfl) rfl rfl ?_)
      refine RX.nil (XX.next (V' := [(0, .slice A xs.length cap), (1, .int .i64 ((i : Nat) : Int)), (6, .slice none 0 0)]) ⟨rfl, rfl, rfl, trivial⟩ ?_)
      refine CX.seq ?_
      refine CX.label (XX.next (V' := [(0, .slice A xs.length cap), (1, .int .i64 ((i : Nat) : Int)), (6, .slice none 0 0)]) ⟨rfl, rfl, rfl, trivial⟩ ?_)
      refine CX.seq ?_
      refine CX.block ?_
      refine CX.rowNil 9 1 ?_
      refine CX.loop (σ := (Option Addr × Nat × List ByteArray × Nat) × (Option Addr × Nat) × List ByteArray) (fun z => [(0, .slice z.1.1 z.1.2.2.1.length z.1.2.1), (1, .int .i64 ((z.1.2.2.2 : Nat) : Int)), (6, .slice z.2.1.1 (List.length (z.2.2 : List ByteArray)) z.2.1.2)]) (fun z => [.row z.2.1.1 z.2.1.2 9 1 (List.map strC z.2.2)]) (fun z => Rd w z.1.1 1 (z.1.2.2.1.map strC) ∧ z.1.2.2.1.length ≤ z.1.2.1 ∧ z.1.2.2.1.length ≤ xs.length ∧ z.1.2.2.2 < z.1.2.2.1.length ∧ (∀ s ∈ z.1.2.2.1, s.size ≤ 4294967296) ∧ z.2.2 ++ path sum z.1.2.2.1 z.1.2.2.2 = path sum xs i ∧ z.2.2.length + z.1.2.2.1.length ≤ xs.length) (fun z => z.1.2.2.1.length) ((A, cap, xs, i), (none, 0), []) ⟨hr, hcap, Nat.le_refl _, hi, hsz, rfl, by simp⟩ ⟨rfl, rfl, rfl, trivial⟩ rfl (fun z hI => ?_)
      obtain ⟨⟨A', cp, ls, j⟩, ⟨B1, d1⟩, os⟩ := z
      dsimp only at hI ⊢
      obtain ⟨hR, hcp, hll, hj, hs2, hpath, hol⟩ := hI
      obtain ⟨b0, q0, hA'⟩ := hR.some (k := 0) (by simp; omega)
      refine CX.block ?_
      refine CX.seq ?_
      refine CX.seq ?_
      refine CX.region ?_
      refine RX.cons rfl rfl (op_w (yw_move rfl rfl) rfl rfl ?_)
      refine RX.cons rfl rfl (op_w (yw_lenS rfl Tryd.underlying35 rfl) rfl rfl ?_)
      refine RX.cons rfl rfl (op_w (yw_eql rfl rfl rfl) rfl rfl ?_)
      refine RX.nil (XX.next (V' := [(0, .slice A' ls.length cp), (1, .int .i64 ((j : Nat) : Int)), (6, .slice B1 (List.length (os : List ByteArray)) d1), (20, .bool (decide (((ls.length : Nat) : Int) = 1)))]) ⟨rfl, rfl, rfl, rfl, trivial⟩ ?_)
      refine CX.condD (p := ((ls.length : Nat) : Int) = 1) rfl (fun c20 => ?_) (fun c20 => ?_)
      · refine CX.exit ?_
        refine XX.then_exit ?_
        refine XX.block_pass rfl ?_
        refine XX.then_exit ?_
        refine XX.block_exit ?_
        refine XX.next (V' := [(6, .slice B1 (List.length (os : List ByteArray)) d1)]) ⟨rfl, trivial⟩ ?_
        refine CX.seq ?_
        have hpe : os = path sum xs i := by rw [path_one sum (by omega), List.append_nil] at hpath; exact hpath
        refine CX.region ?_
        refine RX.cons rfl rfl (op_w (yw_move rfl rfl) rfl rfl ?_)
        refine RX.cons rfl rfl (op_callP [.row B1 d1 9 1 (List.map strC os)] [] rfl rfl rfl rfl rfl ent_63 ((perm_pick 0 rfl).trans (List.Perm.cons _ (List.Perm.refl _))) (σ := Unit) (val := fun _ => .tuple #[]) (LL := fun _ => [.row B1 d1 9 1 (List.map strC (List.reverse os))]) (post := fun _ => True) (fun w hw hs => (w_reverse os (by omega) hs).mono fun e w' h => ⟨(), trivial, h⟩) (fun _ _ => ?_))
        refine RX.nil (XX.next (V' := [(6, .slice B1 (List.length (os : List ByteArray)) d1)]) ⟨rfl, trivial⟩ ?_)
        refine CX.seq ?_
        refine CX.region ?_
        refine RX.cons rfl rfl (op_w (yw_move rfl rfl) rfl rfl ?_)
        refine RX.cons rfl rfl (op_w (yw_assign rfl rfl) rfl rfl ?_)
        refine RX.cons rfl rfl (op_w (yw_assign rfl rfl) rfl rfl ?_)
        refine RX.nil (XX.next (V' := [(4, .slice B1 (List.length (os : List ByteArray)) d1), (5, .int .i64 0)]) ⟨rfl, rfl, trivial⟩ ?_)
        refine CX.ret ?_
        refine XX.scope_ret ?_
        exact ret_tmp2 rfl rfl rfl fun w1 hw => ⟨(B1, d1), trivial, by rw [← hpe, List.length_reverse], by rw [← hpe]; exact hw⟩
      · have hq1 := lft_pos ls.length
        have hq2 := lft_lt (n := ls.length) (by omega)
        have htl : (List.take (lft ls.length) ls).length = lft ls.length := by simp; omega
        have hdl : (List.drop (lft ls.length) ls).length = ls.length - lft ls.length := by simp
        refine CX.skip (XX.next (V' := [(0, .slice A' ls.length cp), (1, .int .i64 ((j : Nat) : Int)), (6, .slice B1 (List.length (os : List ByteArray)) d1)]) ⟨rfl, rfl, rfl, trivial⟩ ?_)
        refine CX.seq ?_
        refine CX.region ?_
        refine RX.cons rfl rfl (op_w (yw_move rfl rfl) rfl rfl ?_)
        refine RX.cons rfl rfl (op_w (yw_lenS rfl Tryd.underlying35 rfl) rfl rfl ?_)
        refine RX.cons rfl rfl (op_callV (v := .int .i64 ((lft ls.length : Nat) : Int)) rfl rfl rfl rfl rfl ent_48 (fun w hw => w_left ls.length (by omega) (by omega)) ?_)
        refine RX.cons rfl rfl (op_w (yw_assign rfl rfl) rfl rfl ?_)
        refine RX.nil (XX.next (V' := [(0, .slice A' ls.length cp), (1, .int .i64 ((j : Nat) : Int)), (6, .slice B1 (List.length (os : List ByteArray)) d1), (7, .int .i64 ((lft ls.length : Nat) : Int))]) ⟨rfl, rfl, rfl, rfl, trivial⟩ ?_)
        refine CX.seq ?_
        refine CX.draw 8 [(0, 1, 16777216), (0, 128, 33554432), (3, 50331648, 67108864), (0, 1, 134217728), (0, 128, 268435456), (24, 402653184, 536870912), (7, 67108864, 256), (127, 536870912, 512)] (by kernel_rfl) (by kernel_rfl) (by kernel_rfl) ?_
        refine DX.takeW 0 1 (by kernel_rfl) rfl rfl rfl rfl rfl (yw_move rfl rfl) ?_
        refine DX.takeW 1 3 (by kernel_rfl) rfl rfl rfl rfl rfl (yw_move rfl rfl) ?_
        refine DX.takeW 2 7 (by kernel_rfl) rfl rfl rfl rfl rfl (yw_sliceTo (k := (lft ls.length)) rfl slt_35 rfl rfl (by omega) (by omega)) ?_
        refine DX.know (t := 26) (u := .slice A' ((List.take (lft ls.length) ls).length) cp) rfl (congrArg (fun n => Value.slice A' n cp) htl.symm) ?_
        refine DX.takeW 3 15 (by kernel_rfl) rfl rfl rfl rfl rfl (yw_move rfl rfl) ?_
        refine DX.takeW 4 31 (by kernel_rfl) rfl rfl rfl rfl rfl (yw_move rfl rfl) ?_
        refine DX.takeW 5 63 (by kernel_rfl) rfl rfl rfl rfl rfl (yw_sliceFromS (k := (lft ls.length)) hA' rfl slt_35 rfl rfl (by omega) (by omega) (by omega) (by omega)) ?_
        refine DX.know (t := 29) (u := .slice (some ⟨b0, q0 + (lft ls.length) * 1, none⟩) ((List.drop (lft ls.length) ls).length) (cp - (lft ls.length))) rfl (congrArg (fun n => Value.slice (some ⟨b0, q0 + (lft ls.length) * 1, none⟩) n (cp - (lft ls.length))) hdl.symm) ?_
        refine DX.takeW 6 127 (by kernel_rfl) rfl rfl rfl rfl rfl (yw_assign rfl rfl) ?_
        refine DX.takeW 7 255 (by kernel_rfl) rfl rfl rfl rfl rfl (yw_assign rfl rfl) ?_
        refine DX.done (by kernel_rfl) (XX.next (V' := [(1, .int .i64 ((j : Nat) : Int)), (6, .slice B1 (List.length (os : List ByteArray)) d1), (7, .int .i64 ((lft ls.length : Nat) : Int)), (8, .slice A' ((List.take (lft ls.length) ls).length) cp), (9, .slice (some ⟨b0, q0 + (lft ls.length) * 1, none⟩) ((List.drop (lft ls.length) ls).length) (cp - (lft ls.length)))]) ⟨rfl, rfl, rfl, rfl, rfl, trivial⟩ ?_)
        refine CX.seq ?_
        refine CX.seq ?_
        refine CX.region ?_
        refine RX.cons rfl rfl (op_w (yw_move rfl rfl) rfl rfl ?_)
        refine RX.cons rfl rfl (op_w (yw_move rfl rfl) rfl rfl ?_)
        refine RX.cons rfl rfl (op_w (yw_geq rfl rfl rfl) rfl rfl ?_)
        refine RX.nil (XX.next (V' := [(1, .int .i64 ((j : Nat) : Int)), (6, .slice B1 (List.length (os : List ByteArray)) d1), (7, .int .i64 ((lft ls.length : Nat) : Int)), (8, .slice A' ((List.take (lft ls.length) ls).length) cp), (9, .slice (some ⟨b0, q0 + (lft ls.length) * 1, none⟩) ((List.drop (lft ls.length) ls).length) (cp - (lft ls.length))), (32, .bool (decide (((lft ls.length : Nat) : Int) ≤ ((j : Nat) : Int))))]) ⟨rfl, rfl, rfl, rfl, rfl, rfl, trivial⟩ ?_)
        refine CX.condD (p := ((lft ls.length : Nat) : Int) ≤ ((j : Nat) : Int)) rfl (fun c32 => ?_) (fun c32 => ?_)
        · refine CX.region ?_
          refine RX.cons rfl rfl (op_w (yw_move rfl rfl) rfl rfl ?_)
          refine RX.cons rfl rfl (op_w (yw_move rfl rfl) rfl rfl ?_)
          refine RX.cons rfl rfl (op_w (yw_move rfl rfl) rfl rfl ?_)
          refine RX.cons rfl rfl (op_w (yw_move rfl rfl) rfl rfl ?_)
          refine RX.cons rfl rfl (op_w (yw_sub rfl rfl rfl (by omega) (by omega)) rfl rfl ?_)
          refine RX.know (t := 37) (u := .int .i64 ((j - (lft ls.length) : Nat) : Int)) rfl (congrArg (Value.int .i64) (by omega)) ?_
          refine RX.cons rfl rfl (op_w (yw_assign rfl rfl) rfl rfl ?_)
          refine RX.cons rfl rfl (op_w (yw_assign rfl rfl) rfl rfl ?_)
          refine RX.cons rfl rfl (op_w (yw_assign rfl rfl) rfl rfl ?_)
          refine RX.nil (XX.next (V' := [(1, .int .i64 ((j - (lft ls.length) : Nat) : Int)), (6, .slice B1 (List.length (os : List ByteArray)) d1), (8, .slice (some ⟨b0, q0 + (lft ls.length) * 1, none⟩) ((List.drop (lft ls.length) ls).length) (cp - (lft ls.length))), (9, .slice A' ((List.take (lft ls.length) ls).length) cp)]) ⟨rfl, rfl, rfl, rfl, trivial⟩ ?_)
          refine CX.seq ?_
          refine CX.region ?_
          refine RX.cons rfl rfl (op_w (yw_move rfl rfl) rfl rfl ?_)
          refine RX.cons rfl rfl (op_w (yw_move rfl rfl) rfl rfl ?_)
          refine RX.cons rfl rfl (op_callV (v := .string (root sum (List.take (lft ls.length) ls))) rfl rfl rfl rfl rfl ent_30 (fun w hw => w_root (List.take (lft ls.length) ls) (hG.keep hw (by simp)) (hw.rd (hR.takeM (lft ls.length)) (by simp)) (by simp; omega) (fun s hs => hs2 s (List.mem_of_mem_take hs))) ?_)
          refine RX.cons rfl rfl (op_buildSlice rfl rfl rfl slb_35 rfl rfl (by intro v hv; simp only [List.mem_cons, List.not_mem_nil, or_false] at hv; subst hv; exact ⟨rfl, (plain_of rfl)⟩) (by decide) fun g1 => ?_)
          refine RX.cons rfl rfl (op_appendM strC (i := 1) (j := 0) (xs := os) ([root sum (List.take (lft ls.length) ls)]) rfl rfl rfl slb_35 rfl rfl rfl rfl rfl rfl (by simp only [List.length_singleton]; omega) (by simp only [List.length_singleton]; omega) fun B2 d2 => ?_)
          refine RX.cons rfl rfl (op_w (yw_assign rfl rfl) rfl rfl ?_)
          refine RX.nil (XX.next (V' := [(1, .int .i64 ((j - (lft ls.length) : Nat) : Int)), (6, .slice B2 ((os ++ [root sum (List.take (lft ls.length) ls)]).length) d2), (8, .slice (some ⟨b0, q0 + (lft ls.length) * 1, none⟩) ((List.drop (lft ls.length) ls).length) (cp - (lft ls.length)))]) ⟨rfl, rfl, rfl, trivial⟩ ?_)
          refine CX.region ?_
          refine RX.cons rfl rfl (op_w (yw_move rfl rfl) rfl rfl ?_)
          refine RX.cons rfl rfl (op_w (yw_assign rfl rfl) rfl rfl ?_)
          refine RX.nil (XX.inBlock (V' := [(0, .slice (some ⟨b0, q0 + (lft ls.length) * 1, none⟩) ((List.drop (lft ls.length) ls).length) (cp - (lft ls.length))), (1, .int .i64 ((j - (lft ls.length) : Nat) : Int)), (6, .slice B2 ((os ++ [root sum (List.take (lft ls.length) ls)]).length) d2)]) ⟨rfl, rfl, rfl, trivial⟩ ?_)
          refine XX.againP ([.row (some ⟨g1, 0, none⟩) 1 9 1 (List.map strC ([root sum (List.take (lft ls.length) ls)]))]) ((some ⟨b0, q0 + (lft ls.length) * 1, none⟩, cp - (lft ls.length), List.drop (lft ls.length) ls, j - (lft ls.length)), (B2, d2), os ++ [root sum (List.take (lft ls.length) ls)]) (by simp; omega) ⟨hR.dropM hA' _, by simp; omega, by simp; omega, by simp; omega, fun s hs => hs2 s (List.mem_of_mem_drop hs), by dsimp only; rw [← hpath, path_ge sum (l := ls) (i := j) (by omega) (by omega), List.append_assoc]; rfl, by simp; omega⟩ ⟨rfl, rfl, rfl, trivial⟩ ((perm_pick 1 rfl).trans (List.Perm.cons _ (List.Perm.refl _)))
        · refine CX.skip (XX.next (V' := [(1, .int .i64 ((j : Nat) : Int)), (6, .slice B1 (List.length (os : List ByteArray)) d1), (8, .slice A' ((List.take (lft ls.length) ls).length) cp), (9, .slice (some ⟨b0, q0 + (lft ls.length) * 1, none⟩) ((List.drop (lft ls.length) ls).length) (cp - (lft ls.length)))]) ⟨rfl, rfl, rfl, rfl, trivial⟩ ?_)
          refine CX.seq ?_
          refine CX.region ?_
          refine RX.cons rfl rfl (op_w (yw_move rfl rfl) rfl rfl ?_)
          refine RX.cons rfl rfl (op_w (yw_move rfl rfl) rfl rfl ?_)
          refine RX.cons rfl rfl (op_callV (v := .string (root sum (List.drop (lft ls.length) ls))) rfl rfl rfl rfl rfl ent_30 (fun w hw => w_root (List.drop (lft ls.length) ls) (hG.keep hw (by simp)) (hw.rd (hR.dropM hA' (lft ls.length)) (by simp)) (by simp; omega) (fun s hs => hs2 s (List.mem_of_mem_drop hs))) ?_)
          refine RX.cons rfl rfl (op_buildSlice rfl rfl rfl slb_35 rfl rfl (by intro v hv; simp only [List.mem_cons, List.not_mem_nil, or_false] at hv; subst hv; exact ⟨rfl, (plain_of rfl)⟩) (by decide) fun g1 => ?_)
          refine RX.cons rfl rfl (op_appendM strC (i := 1) (j := 0) (xs := os) ([root sum (List.drop (lft ls.length) ls)]) rfl rfl rfl slb_35 rfl rfl rfl rfl rfl rfl (by simp only [List.length_singleton]; omega) (by simp only [List.length_singleton]; omega) fun B2 d2 => ?_)
          refine RX.cons rfl rfl (op_w (yw_assign rfl rfl) rfl rfl ?_)
          refine RX.nil (XX.next (V' := [(1, .int .i64 ((j : Nat) : Int)), (6, .slice B2 ((os ++ [root sum (List.drop (lft ls.length) ls)]).length) d2), (8, .slice A' ((List.take (lft ls.length) ls).length) cp)]) ⟨rfl, rfl, rfl, trivial⟩ ?_)
          refine CX.region ?_
          refine RX.cons rfl rfl (op_w (yw_move rfl rfl) rfl rfl ?_)
          refine RX.cons rfl rfl (op_w (yw_assign rfl rfl) rfl rfl ?_)
          refine RX.nil (XX.inBlock (V' := [(0, .slice A' ((List.take (lft ls.length) ls).length) cp), (1, .int .i64 ((j : Nat) : Int)), (6, .slice B2 ((os ++ [root sum (List.drop (lft ls.length) ls)]).length) d2)]) ⟨rfl, rfl, rfl, trivial⟩ ?_)
          refine XX.againP ([.row (some ⟨g1, 0, none⟩) 1 9 1 (List.map strC ([root sum (List.drop (lft ls.length) ls)]))]) ((A', cp, List.take (lft ls.length) ls, j), (B2, d2), os ++ [root sum (List.drop (lft ls.length) ls)]) (by simp; omega) ⟨hR.takeM _, by simp; omega, by simp; omega, by simp; omega, fun s hs => hs2 s (List.mem_of_mem_take hs), by dsimp only; rw [← hpath, path_lt sum (l := ls) (i := j) (by omega) (by omega), List.append_assoc]; rfl, by simp; omega⟩ ⟨rfl, rfl, rfl, trivial⟩ ((perm_pick 1 rfl).trans (List.Perm.cons _ (List.Perm.refl _)))

end Go.Proofs.YtnadipjlhlbfoaaDoor
namespace Go.Proofs.YtnadipjlhlbfoaaDoor
set_option linter.all false
open Go Go.RowKit
set_option maxRecDepth 100000
set_option maxRecDepth 100000 in
theorem w_ext1 {w : World} {A : Option Addr} {cap : Nat} (xs : List ByteArray) (i : Nat) (hG : Rounds w) (hr : Rd w A 1 (xs.map strC)) (hcap : xs.length ≤ cap) (hl : xs.length ≤ 1099511627776) (hsz : ∀ s ∈ xs, s.size ≤ 4294967296) (hi0 : 1 ≤ i) (hi : i ≤ xs.length) :
    Calls Tryd.prog 42 #[.slice A xs.length cap, .int .i64 ((i : Nat) : Int)] w (fun e w' => ∃ z : Option Addr × Nat, True ∧ e = .returned (.tuple #[.slice z.1 (List.length ((ext sum xs i true).reverse)) z.2, .int .i64 0]) ∧ SL w [] w' [.row z.1 z.2 9 1 (List.map strC ((ext sum xs i true).reverse))]) := by
  refine calls_of_CX (O := []) (L := []) (args := [.slice A xs.length cap, .int .i64 ((i : Nat) : Int)]) Tryd.func42 rfl (by simp [Tryd.ntmps42]) (SL.refl w) ?_
  refine CX.sub (V' := [(0, .slice A xs.length cap), (1, .int .i64 ((i : Nat) : Int))]) ⟨rfl, rfl, trivial⟩ ?_
  refine CX.seq ?_
  refine CX.region ?_
  refine RX.cons rfl rfl (op_w (yw_assign rfl rfl) rfl rfl ?_)
  refine RX.cons rfl rfl (op_w (yw_assign rfl rfl) rfl rfl ?_)
  refine RX.nil (XX.next (V' := [(0, .slice A xs.length cap), (1, .int .i64 ((i : Nat) : Int))]) ⟨rfl, rfl, trivial⟩ ?_)
  refine CX.seq ?_
  refine CX.block ?_
  refine CX.seq ?_
  refine CX.region ?_
  refine RX.cons rfl rfl (op_w (yw_move rfl rfl) rfl rfl ?_)
  refine RX.cons rfl rfl (op_w (yw_lss rfl rfl rfl) rfl rfl ?_)
  refine RX.cons rfl rfl (op_w (yw_move rfl rfl) rfl rfl ?_)
  refine RX.splitD (t := 14) (p := ((i : Nat) : Int) < 0) rfl (fun d14 => ?_) (fun d14 => ?_)
  · exfalso; omega
  · refine RX.consG rfl rfl rfl rfl rfl (op_w (yw_move rfl rfl) rfl rfl ?_)
    refine RX.consG rfl rfl rfl rfl rfl (op_w (yw_move rfl rfl) rfl rfl ?_)
    refine RX.consG rfl rfl rfl rfl rfl (op_w (yw_lenS rfl Tryd.underlying35 rfl) rfl rfl ?_)
    refine RX.consG rfl rfl rfl rfl rfl (op_w (yw_gtr rfl rfl rfl) rfl rfl ?_)
    refine RX.cons rfl rfl (op_w (yw_pickF rfl rfl rfl) rfl rfl ?_)
    refine RX.cons rfl rfl (op_w (yw_assign rfl rfl) rfl rfl ?_)
    refine RX.nil (XX.next (V' := [(0, .slice A xs.length cap), (1, .int .i64 ((i : Nat) : Int)), (11, .bool (decide (((xs.length : Nat) : Int) < ((i : Nat) : Int))))]) ⟨rfl, rfl, rfl, trivial⟩ ?_)
    refine CX.condD (p := ((xs.length : Nat) : Int) < ((i : Nat) : Int)) rfl (fun c11 => ?_) (fun c11 => ?_)
    · exfalso; omega
    · refine CX.seq ?_
      refine CX.region ?_
      refine RX.cons rfl rfl (op_w (yw_move rfl rfl) rfl rfl ?_)
      refine RX.cons rfl rfl (op_w (yw_eql rfl rfl rfl) rfl rfl ?_)
      refine RX.cons rfl rfl (op_w (yw_assign rfl rfl) rfl rfl ?_)
      refine RX.nil (XX.next (V' := [(0, .slice A xs.length cap), (1, .int .i64 ((i : Nat) : Int)), (20, .bool (decide (((i : Nat) : Int) = 0)))]) ⟨rfl, rfl, rfl, trivial⟩ ?_)
      refine CX.condD (p := ((i : Nat) : Int) = 0) rfl (fun c20 => ?_) (fun c20 => ?_)
      · exfalso; omega
      · refine CX.skip (XX.inBlock (V' := [(0, .slice A xs.length cap), (1, .int .i64 ((i : Nat) : Int))]) ⟨rfl, rfl, trivial⟩ ?_)
        refine XX.next (V' := [(0, .slice A xs.length cap), (1, .int .i64 ((i : Nat) : Int))]) ⟨rfl, rfl, trivial⟩ ?_
        refine CX.seq ?_
        refine CX.region ?_
        refine RX.cons rfl rfl (op_w (yw_assign rfl rfl) rfl rfl ?_)
        refine RX.nil (XX.next (V' := [(0, .slice A xs.length cap), (1, .int .i64 ((i : Nat) : Int)), (6, .slice none 0 0)]) ⟨rfl, rfl, rfl, trivial⟩ ?_)
        refine CX.seq ?_
        refine CX.region ?_
        refine RX.cons rfl rfl (op_w (yw_assign rfl rfl) rfl rfl ?_)
        refine RX.nil (XX.next (V' := [(0, .slice A xs.length cap), (1, .int .i64 ((i : Nat) : Int)), (6, .slice none 0 0), (7, .bool true)]) ⟨rfl, rfl, rfl, rfl, trivial⟩ ?_)
        refine CX.seq ?_
        refine CX.block ?_
        refine CX.rowNil 9 1 ?_
        refine CX.loop (σ := (Option Addr × Nat × List ByteArray × Nat) × (Option Addr × Nat) × List ByteArray × Bool) (fun z => [(0, .slice z.1.1 z.1.2.2.1.length z.1.2.1), (1, .int .i64 ((z.1.2.2.2 : Nat) : Int)), (6, .slice z.2.1.1 (List.length (z.2.2.1 : List ByteArray)) z.2.1.2), (7, .bool z.2.2.2)]) (fun z => [.row z.2.1.1 z.2.1.2 9 1 (List.map strC z.2.2.1)]) (fun z => Rd w z.1.1 1 (z.1.2.2.1.map strC) ∧ z.1.2.2.1.length ≤ z.1.2.1 ∧ z.1.2.2.1.length ≤ xs.length ∧ (1 ≤ z.1.2.2.2 ∧ z.1.2.2.2 ≤ z.1.2.2.1.length) ∧ (∀ s ∈ z.1.2.2.1, s.size ≤ 4294967296) ∧ z.2.2.1 ++ ext sum z.1.2.2.1 z.1.2.2.2 z.2.2.2 = ext sum xs i true ∧ z.2.2.1.length + z.1.2.2.1.length ≤ xs.length) (fun z => z.1.2.2.1.length) ((A, cap, xs, i), (none, 0), [], true) ⟨hr, hcap, Nat.le_refl _, ⟨hi0, hi⟩, hsz, rfl, by simp⟩ ⟨rfl, rfl, rfl, rfl, trivial⟩ rfl (fun z hI => ?_)
        obtain ⟨⟨A', cp, ls, j⟩, ⟨B1, d1⟩, os, wh⟩ := z
        dsimp only at hI ⊢
        obtain ⟨hR, hcp, hll, ⟨hj0, hj⟩, hs2, hpath, hol⟩ := hI
        obtain ⟨b0, q0, hA'⟩ := hR.some (k := 0) (by simp; omega)
        refine CX.seq ?_
        refine CX.seq ?_
        refine CX.region ?_
        refine RX.cons rfl rfl (op_w (yw_move rfl rfl) rfl rfl ?_)
        refine RX.cons rfl rfl (op_w (yw_move rfl rfl) rfl rfl ?_)
        refine RX.cons rfl rfl (op_w (yw_lenS rfl Tryd.underlying35 rfl) rfl rfl ?_)
        refine RX.cons rfl rfl (op_w (yw_lss rfl rfl rfl) rfl rfl ?_)
        refine RX.nil (XX.next (V' := [(0, .slice A' ls.length cp), (1, .int .i64 ((j : Nat) : Int)), (6, .slice B1 (List.length (os : List ByteArray)) d1), (7, .bool wh), (26, .bool (decide (((j : Nat) : Int) < ((ls.length : Nat) : Int))))]) ⟨rfl, rfl, rfl, rfl, rfl, trivial⟩ ?_)
        refine CX.condD (p := ((j : Nat) : Int) < ((ls.length : Nat) : Int)) rfl (fun c26 => ?_) (fun c26 => ?_)
        · have hq1 := lft_pos ls.length
          have hq2 := lft_lt (n := ls.length) (by omega)
          have htl : (List.take (lft ls.length) ls).length = lft ls.length := by simp; omega
          have hdl : (List.drop (lft ls.length) ls).length = ls.length - lft ls.length := by simp
          refine CX.skip (XX.next (V' := [(0, .slice A' ls.length cp), (1, .int .i64 ((j : Nat) : Int)), (6, .slice B1 (List.length (os : List ByteArray)) d1), (7, .bool wh)]) ⟨rfl, rfl, rfl, rfl, trivial⟩ ?_)
          refine CX.block ?_
          refine CX.seq ?_
          refine CX.region ?_
          refine RX.cons rfl rfl (op_w (yw_move rfl rfl) rfl rfl ?_)
          refine RX.cons rfl rfl (op_w (yw_lenS rfl Tryd.underlying35 rfl) rfl rfl ?_)
          refine RX.cons rfl rfl (op_callV (v := .int .i64 ((lft ls.length : Nat) : Int)) rfl rfl rfl rfl rfl ent_48 (fun w hw => w_left ls.length (by omega) (by omega)) ?_)
          refine RX.cons rfl rfl (op_w (yw_assign rfl rfl) rfl rfl ?_)
          refine RX.nil (XX.next (V' := [(0, .slice A' ls.length cp), (1, .int .i64 ((j : Nat) : Int)), (6, .slice B1 (List.length (os : List ByteArray)) d1), (7, .bool wh), (8, .int .i64 ((lft ls.length : Nat) : Int))]) ⟨rfl, rfl, rfl, rfl, rfl, trivial⟩ ?_)
          refine CX.seq ?_
          refine CX.draw 8 [(0, 1, 1073741824), (0, 256, 2147483648), (3, 3221225472, 4294967296), (0, 1, 8589934592), (0, 256, 17179869184), (24, 25769803776, 34359738368), (7, 4294967296, 512), (127, 34359738368, 1024)] (by kernel_rfl) (by kernel_rfl) (by kernel_rfl) ?_
          refine DX.takeW 0 1 (by kernel_rfl) rfl rfl rfl rfl rfl (yw_move rfl rfl) ?_
          refine DX.takeW 1 3 (by kernel_rfl) rfl rfl rfl rfl rfl (yw_move rfl rfl) ?_
          refine DX.takeW 2 7 (by kernel_rfl) rfl rfl rfl rfl rfl (yw_sliceTo (k := (lft ls.length)) rfl slt_35 rfl rfl (by omega) (by omega)) ?_
          refine DX.know (t := 32) (u := .slice A' ((List.take (lft ls.length) ls).length) cp) rfl (congrArg (fun n => Value.slice A' n cp) htl.symm) ?_
          refine DX.takeW 3 15 (by kernel_rfl) rfl rfl rfl rfl rfl (yw_move rfl rfl) ?_
          refine DX.takeW 4 31 (by kernel_rfl) rfl rfl rfl rfl rfl (yw_move rfl rfl) ?_
          refine DX.takeW 5 63 (by kernel_rfl) rfl rfl rfl rfl rfl (yw_sliceFromS (k := (lft ls.length)) hA' rfl slt_35 rfl rfl (by omega) (by omega) (by omega) (by omega)) ?_
          refine DX.know (t := 35) (u := .slice (some ⟨b0, q0 + (lft ls.length) * 1, none⟩) ((List.drop (lft ls.length) ls).length) (cp - (lft ls.length))) rfl (congrArg (fun n => Value.slice (some ⟨b0, q0 + (lft ls.length) * 1, none⟩) n (cp - (lft ls.length))) hdl.symm) ?_
          refine DX.takeW 6 127 (by kernel_rfl) rfl rfl rfl rfl rfl (yw_assign rfl rfl) ?_
          refine DX.takeW 7 255 (by kernel_rfl) rfl rfl rfl rfl rfl (yw_assign rfl rfl) ?_
          refine DX.done (by kernel_rfl) (XX.next (V' := [(1, .int .i64 ((j : Nat) : Int)), (6, .slice B1 (List.length (os : List ByteArray)) d1), (7, .bool wh), (8, .int .i64 ((lft ls.length : Nat) : Int)), (9, .slice A' ((List.take (lft ls.length) ls).length) cp), (10, .slice (some ⟨b0, q0 + (lft ls.length) * 1, none⟩) ((List.drop (lft ls.length) ls).length) (cp - (lft ls.length)))]) ⟨rfl, rfl, rfl, rfl, rfl, rfl, trivial⟩ ?_)
          refine CX.seq ?_
          refine CX.seq ?_
          refine CX.region ?_
          refine RX.cons rfl rfl (op_w (yw_move rfl rfl) rfl rfl ?_)
          refine RX.cons rfl rfl (op_w (yw_move rfl rfl) rfl rfl ?_)
          refine RX.cons rfl rfl (op_w (yw_gtr rfl rfl rfl) rfl rfl ?_)
          refine RX.nil (XX.next (V' := [(1, .int .i64 ((j : Nat) : Int)), (6, .slice B1 (List.length (os : List ByteArray)) d1), (7, .bool wh), (8, .int .i64 ((lft ls.length : Nat) : Int)), (9, .slice A' ((List.take (lft ls.length) ls).length) cp), (10, .slice (some ⟨b0, q0 + (lft ls.length) * 1, none⟩) ((List.drop (lft ls.length) ls).length) (cp - (lft ls.length))), (38, .bool (decide (((lft ls.length : Nat) : Int) < ((j : Nat) : Int))))]) ⟨rfl, rfl, rfl, rfl, rfl, rfl, rfl, trivial⟩ ?_)
          refine CX.condD (p := ((lft ls.length : Nat) : Int) < ((j : Nat) : Int)) rfl (fun c38 => ?_) (fun c38 => ?_)
          · refine CX.region ?_
            refine RX.cons rfl rfl (op_w (yw_move rfl rfl) rfl rfl ?_)
            refine RX.cons rfl rfl (op_w (yw_move rfl rfl) rfl rfl ?_)
            refine RX.cons rfl rfl (op_w (yw_move rfl rfl) rfl rfl ?_)
            refine RX.cons rfl rfl (op_w (yw_move rfl rfl) rfl rfl ?_)
            refine RX.cons rfl rfl (op_w (yw_sub rfl rfl rfl (by omega) (by omega)) rfl rfl ?_)
            refine RX.know (t := 43) (u := .int .i64 ((j - (lft ls.length) : Nat) : Int)) rfl (congrArg (Value.int .i64) (by omega)) ?_
            refine RX.cons rfl rfl (op_w (yw_assign rfl rfl) rfl rfl ?_)
            refine RX.cons rfl rfl (op_w (yw_assign rfl rfl) rfl rfl ?_)
            refine RX.cons rfl rfl (op_w (yw_assign rfl rfl) rfl rfl ?_)
            refine RX.cons rfl rfl (op_w (yw_assign rfl rfl) rfl rfl ?_)
            refine RX.nil (XX.next (V' := [(1, .int .i64 ((j - (lft ls.length) : Nat) : Int)), (6, .slice B1 (List.length (os : List ByteArray)) d1), (7, .bool false), (9, .slice (some ⟨b0, q0 + (lft ls.length) * 1, none⟩) ((List.drop (lft ls.length) ls).length) (cp - (lft ls.length))), (10, .slice A' ((List.take (lft ls.length) ls).length) cp)]) ⟨rfl, rfl, rfl, rfl, rfl, trivial⟩ ?_)
            refine CX.seq ?_
            refine CX.region ?_
            refine RX.cons rfl rfl (op_w (yw_move rfl rfl) rfl rfl ?_)
            refine RX.cons rfl rfl (op_w (yw_move rfl rfl) rfl rfl ?_)
            refine RX.cons rfl rfl (op_callV (v := .string (root sum (List.take (lft ls.length) ls))) rfl rfl rfl rfl rfl ent_30 (fun w hw => w_root (List.take (lft ls.length) ls) (hG.keep hw (by simp)) (hw.rd (hR.takeM (lft ls.length)) (by simp)) (by simp; omega) (fun s hs => hs2 s (List.mem_of_mem_take hs))) ?_)
            refine RX.cons rfl rfl (op_buildSlice rfl rfl rfl slb_35 rfl rfl (by intro v hv; simp only [List.mem_cons, List.not_mem_nil, or_false] at hv; subst hv; exact ⟨rfl, (plain_of rfl)⟩) (by decide) fun g1 => ?_)
            refine RX.cons rfl rfl (op_appendM strC (i := 1) (j := 0) (xs := os) ([root sum (List.take (lft ls.length) ls)]) rfl rfl rfl slb_35 rfl rfl rfl rfl rfl rfl (by simp only [List.length_singleton]; omega) (by simp only [List.length_singleton]; omega) fun B2 d2 => ?_)
            refine RX.cons rfl rfl (op_w (yw_assign rfl rfl) rfl rfl ?_)
            refine RX.nil (XX.next (V' := [(1, .int .i64 ((j - (lft ls.length) : Nat) : Int)), (6, .slice B2 ((os ++ [root sum (List.take (lft ls.length) ls)]).length) d2), (7, .bool false), (9, .slice (some ⟨b0, q0 + (lft ls.length) * 1, none⟩) ((List.drop (lft ls.length) ls).length) (cp - (lft ls.length)))]) ⟨rfl, rfl, rfl, rfl, trivial⟩ ?_)
            refine CX.region ?_
            refine RX.cons rfl rfl (op_w (yw_move rfl rfl) rfl rfl ?_)
            refine RX.cons rfl rfl (op_w (yw_assign rfl rfl) rfl rfl ?_)
            refine RX.nil (XX.inBlock (V' := [(0, .slice (some ⟨b0, q0 + (lft ls.length) * 1, none⟩) ((List.drop (lft ls.length) ls).length) (cp - (lft ls.length))), (1, .int .i64 ((j - (lft ls.length) : Nat) : Int)), (6, .slice B2 ((os ++ [root sum (List.take (lft ls.length) ls)]).length) d2), (7, .bool false)]) ⟨rfl, rfl, rfl, rfl, trivial⟩ ?_)
            refine XX.againP ([.row (some ⟨g1, 0, none⟩) 1 9 1 (List.map strC ([root sum (List.take (lft ls.length) ls)]))]) ((some ⟨b0, q0 + (lft ls.length) * 1, none⟩, cp - (lft ls.length), List.drop (lft ls.length) ls, j - (lft ls.length)), (B2, d2), os ++ [root sum (List.take (lft ls.length) ls)], false) (by simp; omega) ⟨hR.dropM hA' _, by simp; omega, by simp; omega, by simp; omega, fun s hs => hs2 s (List.mem_of_mem_drop hs), by dsimp only; rw [← hpath, ext_gt sum (l := ls) (m := j) (by omega) (by omega) (by omega), List.append_assoc]; rfl, by simp; omega⟩ ⟨rfl, rfl, rfl, rfl, trivial⟩ ((perm_pick 1 rfl).trans (List.Perm.cons _ (List.Perm.refl _)))
          · refine CX.skip (XX.next (V' := [(1, .int .i64 ((j : Nat) : Int)), (6, .slice B1 (List.length (os : List ByteArray)) d1), (7, .bool wh), (9, .slice A' ((List.take (lft ls.length) ls).length) cp), (10, .slice (some ⟨b0, q0 + (lft ls.length) * 1, none⟩) ((List.drop (lft ls.length) ls).length) (cp - (lft ls.length)))]) ⟨rfl, rfl, rfl, rfl, rfl, trivial⟩ ?_)
            refine CX.seq ?_
            refine CX.region ?_
            refine RX.cons rfl rfl (op_w (yw_move rfl rfl) rfl rfl ?_)
            refine RX.cons rfl rfl (op_w (yw_move rfl rfl) rfl rfl ?_)
            refine RX.cons rfl rfl (op_callV (v := .string (root sum (List.drop (lft ls.length) ls))) rfl rfl rfl rfl rfl ent_30 (fun w hw => w_root (List.drop (lft ls.length) ls) (hG.keep hw (by simp)) (hw.rd (hR.dropM hA' (lft ls.length)) (by simp)) (by simp; omega) (fun s hs => hs2 s (List.mem_of_mem_drop hs))) ?_)
            refine RX.cons rfl rfl (op_buildSlice rfl rfl rfl slb_35 rfl rfl (by intro v hv; simp only [List.mem_cons, List.not_mem_nil, or_false] at hv; subst hv; exact ⟨rfl, (plain_of rfl)⟩) (by decide) fun g1 => ?_)
            refine RX.cons rfl rfl (op_appendM strC (i := 1) (j := 0) (xs := os) ([root sum (List.drop (lft ls.length) ls)]) rfl rfl rfl slb_35 rfl rfl rfl rfl rfl rfl (by simp only [List.length_singleton]; omega) (by simp only [List.length_singleton]; omega) fun B2 d2 => ?_)
            refine RX.cons rfl rfl (op_w (yw_assign rfl rfl) rfl rfl ?_)
            refine RX.nil (XX.next (V' := [(1, .int .i64 ((j : Nat) : Int)), (6, .slice B2 ((os ++ [root sum (List.drop (lft ls.length) ls)]).length) d2), (7, .bool wh), (9, .slice A' ((List.take (lft ls.length) ls).length) cp)]) ⟨rfl, rfl, rfl, rfl, trivial⟩ ?_)
            refine CX.region ?_
            refine RX.cons rfl rfl (op_w (yw_move rfl rfl) rfl rfl ?_)
            refine RX.cons rfl rfl (op_w (yw_assign rfl rfl) rfl rfl ?_)
            refine RX.nil (XX.inBlock (V' := [(0, .slice A' ((List.take (lft ls.length) ls).length) cp), (1, .int .i64 ((j : Nat) : Int)), (6, .slice B2 ((os ++ [root sum (List.drop (lft ls.length) ls)]).length) d2), (7, .bool wh)]) ⟨rfl, rfl, rfl, rfl, trivial⟩ ?_)
            refine XX.againP ([.row (some ⟨g1, 0, none⟩) 1 9 1 (List.map strC ([root sum (List.drop (lft ls.length) ls)]))]) ((A', cp, List.take (lft ls.length) ls, j), (B2, d2), os ++ [root sum (List.drop (lft ls.length) ls)], wh) (by simp; omega) ⟨hR.takeM _, by simp; omega, by simp; omega, by simp; omega, fun s hs => hs2 s (List.mem_of_mem_take hs), by dsimp only; rw [← hpath, ext_le sum (l := ls) (m := j) (by omega) (by omega) (by omega), List.append_assoc]; rfl, by simp; omega⟩ ⟨rfl, rfl, rfl, rfl, trivial⟩ ((perm_pick 1 rfl).trans (List.Perm.cons _ (List.Perm.refl _)))
        · refine CX.exit ?_
          refine XX.then_exit ?_
          refine XX.then_exit ?_
          refine XX.block_exit ?_
          refine XX.next (V' := [(0, .slice A' ls.length cp), (6, .slice B1 (List.length (os : List ByteArray)) d1), (7, .bool wh)]) ⟨rfl, rfl, rfl, trivial⟩ ?_
          refine CX.seq ?_
          refine CX.seq ?_
          rw [ext_done sum (by omega) (by omega)] at hpath
          refine CX.region ?_
          refine RX.cons rfl rfl (op_w (yw_move rfl rfl) rfl rfl ?_)
          refine RX.cons rfl rfl (op_w (yw_not rfl rfl) rfl rfl ?_)
          refine RX.nil (XX.next (V' := [(0, .slice A' ls.length cp), (6, .slice B1 (List.length (os : List ByteArray)) d1), (51, .bool (!wh))]) ⟨rfl, rfl, rfl, trivial⟩ ?_)
          refine CX.cond (b := !wh) rfl (fun c51 => ?_) (fun c51 => ?_)
          · have hpe : os ++ [root sum ls] = ext sum xs i true := by rw [← hpath]; cases wh <;> simp_all
            have hol2 : (os ++ [root sum ls]).length ≤ 281474976710656 := by simp; omega
            refine CX.region ?_
            refine RX.cons rfl rfl (op_w (yw_move rfl rfl) rfl rfl ?_)
            refine RX.cons rfl rfl (op_w (yw_move rfl rfl) rfl rfl ?_)
            refine RX.cons rfl rfl (op_callV (v := .string (root sum ls)) rfl rfl rfl rfl rfl ent_30 (fun w hw => w_root ls (hG.keep hw (by simp)) (hw.rd hR (by simp)) (by omega) hs2) ?_)
            refine RX.cons rfl rfl (op_buildSlice rfl rfl rfl slb_35 rfl rfl (by intro v hv; simp only [List.mem_cons, List.not_mem_nil, or_false] at hv; subst hv; exact ⟨rfl, (plain_of rfl)⟩) (by decide) fun g1 => ?_)
            refine RX.cons rfl rfl (op_appendM strC (i := 1) (j := 0) (xs := os) ([root sum ls]) rfl rfl rfl slb_35 rfl rfl rfl rfl rfl rfl (by simp only [List.length_singleton]; omega) (by simp only [List.length_singleton]; omega) fun B2 d2 => ?_)
            refine RX.cons rfl rfl (op_w (yw_assign rfl rfl) rfl rfl ?_)
            refine RX.nil (XX.next (V' := [(6, .slice B2 ((os ++ [root sum ls]).length) d2)]) ⟨rfl, trivial⟩ ?_)
            refine CX.seq ?_
            refine CX.region ?_
            refine RX.cons rfl rfl (op_w (yw_move rfl rfl) rfl rfl ?_)
            refine RX.cons rfl rfl (op_callP [.row B2 d2 9 1 (List.map strC (os ++ [root sum ls]))] [.row (some ⟨g1, 0, none⟩) 1 9 1 (List.map strC ([root sum ls]))] rfl rfl rfl rfl rfl ent_63 ((perm_pick 1 rfl).trans (List.Perm.cons _ (List.Perm.refl _))) (σ := Unit) (val := fun _ => .tuple #[]) (LL := fun _ => [.row B2 d2 9 1 (List.map strC (List.reverse (os ++ [root sum ls])))]) (post := fun _ => True) (fun w hw hs => (w_reverse (os ++ [root sum ls]) hol2 hs).mono fun e w' h => ⟨(), trivial, h⟩) (fun _ _ => ?_))
            refine RX.nil (XX.next (V' := [(6, .slice B2 ((os ++ [root sum ls]).length) d2)]) ⟨rfl, trivial⟩ ?_)
            refine CX.seq ?_
            refine CX.region ?_
            refine RX.cons rfl rfl (op_w (yw_move rfl rfl) rfl rfl ?_)
            refine RX.cons rfl rfl (op_w (yw_assign rfl rfl) rfl rfl ?_)
            refine RX.cons rfl rfl (op_w (yw_assign rfl rfl) rfl rfl ?_)
            refine RX.nil (XX.next (V' := [(4, .slice B2 ((os ++ [root sum ls]).length) d2), (5, .int .i64 0)]) ⟨rfl, rfl, trivial⟩ ?_)
            refine CX.ret ?_
            exact ret_tmp2 rfl rfl rfl fun w1 hw => ⟨(B2, d2), trivial, by rw [← hpe, List.length_reverse], by rw [← hpe]; exact hw.pick ((perm_pick 0 rfl).trans (List.Perm.cons _ (List.Perm.refl _)))⟩
          · have hpe : os = ext sum xs i true := by rw [← hpath]; cases wh <;> simp_all
            have hol2 : os.length ≤ 281474976710656 := by omega
            refine CX.skip (XX.next (V' := [(6, .slice B1 (List.length (os : List ByteArray)) d1)]) ⟨rfl, trivial⟩ ?_)
            refine CX.seq ?_
            refine CX.region ?_
            refine RX.cons rfl rfl (op_w (yw_move rfl rfl) rfl rfl ?_)
            refine RX.cons rfl rfl (op_callP [.row B1 d1 9 1 (List.map strC os)] [] rfl rfl rfl rfl rfl ent_63 ((perm_pick 0 rfl).trans (List.Perm.cons _ (List.Perm.refl _))) (σ := Unit) (val := fun _ => .tuple #[]) (LL := fun _ => [.row B1 d1 9 1 (List.map strC (List.reverse os))]) (post := fun _ => True) (fun w hw hs => (w_reverse os hol2 hs).mono fun e w' h => ⟨(), trivial, h⟩) (fun _ _ => ?_))
            refine RX.nil (XX.next (V' := [(6, .slice B1 (List.length (os : List ByteArray)) d1)]) ⟨rfl, trivial⟩ ?_)
            refine CX.seq ?_
            refine CX.region ?_
            refine RX.cons rfl rfl (op_w (yw_move rfl rfl) rfl rfl ?_)
            refine RX.cons rfl rfl (op_w (yw_assign rfl rfl) rfl rfl ?_)
            refine RX.cons rfl rfl (op_w (yw_assign rfl rfl) rfl rfl ?_)
            refine RX.nil (XX.next (V' := [(4, .slice B1 (List.length (os : List ByteArray)) d1), (5, .int .i64 0)]) ⟨rfl, rfl, trivial⟩ ?_)
            refine CX.ret ?_
            exact ret_tmp2 rfl rfl rfl fun w1 hw => ⟨(B1, d1), trivial, by rw [← hpe, List.length_reverse], by rw [← hpe]; exact hw.pick ((perm_pick 0 rfl).trans (List.Perm.cons _ (List.Perm.refl _)))⟩

set_option maxRecDepth 100000 in
theorem w_ext0 {w : World} {A : Option Addr} {cap : Nat} (n : Nat) :
    Calls Tryd.prog 42 #[.slice A n cap, .int .i64 0] w (fun e w' => e = .returned (.tuple #[.slice none 0 0, .int .i64 0]) ∧ SL w [] w' []) := by
  refine calls_of_CX (O := []) (L := []) (args := [.slice A n cap, .int .i64 0]) Tryd.func42 rfl (by simp [Tryd.ntmps42]) (SL.refl w) ?_
  refine CX.sub (V' := [(0, .slice A n cap), (1, .int .i64 0)]) ⟨rfl, rfl, trivial⟩ ?_
  refine CX.seq ?_
  refine CX.region ?_
  refine RX.cons rfl rfl (op_w (yw_assign rfl rfl) rfl rfl ?_)
  refine RX.cons rfl rfl (op_w (yw_assign rfl rfl) rfl rfl ?_)
  refine RX.nil (XX.next (V' := [(0, .slice A n cap), (1, .int .i64 0)]) ⟨rfl, rfl, trivial⟩ ?_)
  refine CX.seq ?_
  refine CX.block ?_
  refine CX.seq ?_
  refine CX.region ?_
  refine RX.cons rfl rfl (op_w (yw_move rfl rfl) rfl rfl ?_)
  refine RX.cons rfl rfl (op_w (yw_lss rfl rfl rfl) rfl rfl ?_)
  refine RX.cons rfl rfl (op_w (yw_move rfl rfl) rfl rfl ?_)
  refine RX.splitD (t := 14) (p := 0 < 0) rfl (fun d14 => ?_) (fun d14 => ?_)
  · exact absurd d14 (by decide)
  · refine RX.consG rfl rfl rfl rfl rfl (op_w (yw_move rfl rfl) rfl rfl ?_)
    refine RX.consG rfl rfl rfl rfl rfl (op_w (yw_move rfl rfl) rfl rfl ?_)
    refine RX.consG rfl rfl rfl rfl rfl (op_w (yw_lenS rfl Tryd.underlying35 rfl) rfl rfl ?_)
    refine RX.consG rfl rfl rfl rfl rfl (op_w (yw_gtr rfl rfl rfl) rfl rfl ?_)
    refine RX.cons rfl rfl (op_w (yw_pickF rfl rfl rfl) rfl rfl ?_)
    refine RX.cons rfl rfl (op_w (yw_assign rfl rfl) rfl rfl ?_)
    refine RX.nil (XX.next (V' := [(0, .slice A n cap), (1, .int .i64 0), (11, .bool (decide (((n : Nat) : Int) < 0)))]) ⟨rfl, rfl, rfl, trivial⟩ ?_)
    refine CX.condD (p := ((n : Nat) : Int) < 0) rfl (fun c11 => ?_) (fun c11 => ?_)
    · exfalso; omega
    · refine CX.seq ?_
      refine CX.region ?_
      refine RX.cons rfl rfl (op_w (yw_move rfl rfl) rfl rfl ?_)
      refine RX.cons rfl rfl (op_w (yw_eql rfl rfl rfl) rfl rfl ?_)
      refine RX.cons rfl rfl (op_w (yw_assign rfl rfl) rfl rfl ?_)
      refine RX.nil (XX.next (V' := [(0, .slice A n cap), (1, .int .i64 0), (20, .bool (decide (0 = 0)))]) ⟨rfl, rfl, rfl, trivial⟩ ?_)
      refine CX.condD (p := 0 = 0) rfl (fun c20 => ?_) (fun c20 => ?_)
      · refine CX.seq ?_
        refine CX.region ?_
        refine RX.cons rfl rfl (op_w (yw_assign rfl rfl) rfl rfl ?_)
        refine RX.cons rfl rfl (op_w (yw_assign rfl rfl) rfl rfl ?_)
        refine RX.nil (XX.next (V' := [(4, .slice none 0 0), (5, .int .i64 0)]) ⟨rfl, rfl, trivial⟩ ?_)
        refine CX.ret ?_
        refine XX.block_ret ?_
        refine XX.then_ret ?_
        exact ret_tmp2 rfl rfl rfl fun w1 hw => ⟨rfl, hw.sub (List.nil_sublist _)⟩
      · exact absurd rfl c20

set_option maxRecDepth 100000 in
theorem w_extBad {w : World} {A : Option Addr} {cap : Nat} (n : Nat) (m : Int) (hm : m < 0 ∨ (n : Int) < m) :
    Calls Tryd.prog 42 #[.slice A n cap, .int .i64 m] w (fun e w' => e = .returned (.tuple #[.slice none 0 0, .int .i64 2]) ∧ SL w [] w' []) := by
  refine calls_of_CX (O := []) (L := []) (args := [.slice A n cap, .int .i64 m]) Tryd.func42 rfl (by simp [Tryd.ntmps42]) (SL.refl w) ?_
  refine CX.sub (V' := [(0, .slice A n cap), (1, .int .i64 m)]) ⟨rfl, rfl, trivial⟩ ?_
  refine CX.seq ?_
  refine CX.region ?_
  refine RX.cons rfl rfl (op_w (yw_assign rfl rfl) rfl rfl ?_)
  refine RX.cons rfl rfl (op_w (yw_assign rfl rfl) rfl rfl ?_)
  refine RX.nil (XX.next (V' := [(0, .slice A n cap), (1, .int .i64 m)]) ⟨rfl, rfl, trivial⟩ ?_)
  refine CX.seq ?_
  refine CX.block ?_
  refine CX.seq ?_
  refine CX.region ?_
  refine RX.cons rfl rfl (op_w (yw_move rfl rfl) rfl rfl ?_)
  refine RX.cons rfl rfl (op_w (yw_lss rfl rfl rfl) rfl rfl ?_)
  refine RX.cons rfl rfl (op_w (yw_move rfl rfl) rfl rfl ?_)
  refine RX.splitD (t := 14) (p := m < 0) rfl (fun d14 => ?_) (fun d14 => ?_)
  · refine RX.skip rfl rfl rfl rfl rfl rfl rfl ?_
    refine RX.skip rfl rfl rfl rfl rfl rfl rfl ?_
    refine RX.skip rfl rfl rfl rfl rfl rfl rfl ?_
    refine RX.skip rfl rfl rfl rfl rfl rfl rfl ?_
    refine RX.cons rfl rfl (op_w (yw_pickT rfl rfl rfl) rfl rfl ?_)
    refine RX.cons rfl rfl (op_w (yw_assign rfl rfl) rfl rfl ?_)
    refine RX.nil (XX.next (V' := [(0, .slice A n cap), (1, .int .i64 m), (11, .bool true)]) ⟨rfl, rfl, rfl, trivial⟩ ?_)
    refine CX.condT rfl ?_
    refine CX.seq ?_
    refine CX.region ?_
    refine RX.cons rfl rfl (op_w (yw_assign rfl rfl) rfl rfl ?_)
    refine RX.cons rfl rfl (op_w (yw_assign rfl rfl) rfl rfl ?_)
    refine RX.nil (XX.next (V' := [(4, .slice none 0 0), (5, .int .i64 2)]) ⟨rfl, rfl, trivial⟩ ?_)
    refine CX.ret ?_
    refine XX.block_ret ?_
    refine XX.then_ret ?_
    exact ret_tmp2 rfl rfl rfl fun w1 hw => ⟨rfl, hw.sub (List.nil_sublist _)⟩
  · refine RX.consG rfl rfl rfl rfl rfl (op_w (yw_move rfl rfl) rfl rfl ?_)
    refine RX.consG rfl rfl rfl rfl rfl (op_w (yw_move rfl rfl) rfl rfl ?_)
    refine RX.consG rfl rfl rfl rfl rfl (op_w (yw_lenS rfl Tryd.underlying35 rfl) rfl rfl ?_)
    refine RX.consG rfl rfl rfl rfl rfl (op_w (yw_gtr rfl rfl rfl) rfl rfl ?_)
    refine RX.cons rfl rfl (op_w (yw_pickF rfl rfl rfl) rfl rfl ?_)
    refine RX.cons rfl rfl (op_w (yw_assign rfl rfl) rfl rfl ?_)
    refine RX.nil (XX.next (V' := [(0, .slice A n cap), (1, .int .i64 m), (11, .bool (decide (((n : Nat) : Int) < m)))]) ⟨rfl, rfl, rfl, trivial⟩ ?_)
    refine CX.condD (p := ((n : Nat) : Int) < m) rfl (fun c11 => ?_) (fun c11 => ?_)
    · refine CX.seq ?_
      refine CX.region ?_
      refine RX.cons rfl rfl (op_w (yw_assign rfl rfl) rfl rfl ?_)
      refine RX.cons rfl rfl (op_w (yw_assign rfl rfl) rfl rfl ?_)
      refine RX.nil (XX.next (V' := [(4, .slice none 0 0), (5, .int .i64 2)]) ⟨rfl, rfl, trivial⟩ ?_)
      refine CX.ret ?_
      refine XX.block_ret ?_
      refine XX.then_ret ?_
      exact ret_tmp2 rfl rfl rfl fun w1 hw => ⟨rfl, hw.sub (List.nil_sublist _)⟩
    · exfalso; omega

end Go.Proofs.YtnadipjlhlbfoaaDoor
namespace Go.Proofs.YtnadipjlhlbfoaaDoor
set_option linter.all false
open Go Go.RowKit
theorem toList_data (a : ByteArray) : a.toList = a.data.toList := ByteArray.toList_eq a
theorem toList_inj {a b : ByteArray} : a.toList = b.toList ↔ a = b := by
  rw [toList_data, toList_data]
  constructor
  · intro h; exact ByteArray.ext (Array.ext' h)
  · rintro rfl; rfl
section
variable (h : B → B)
theorem value_lt (s x : B) (r : List B) {n i : Nat} (hn : 2 ≤ n) (hi : i < lft n) : value h s (x :: r) n i = (value h s r (lft n) i).map (joinS h (x, false)) := by
  rw [value, if_neg (by omega), if_pos hi]; rfl
theorem value_ge (s x : B) (r : List B) {n i : Nat} (hn : 2 ≤ n) (hi : lft n ≤ i) : value h s (x :: r) n i = (value h s r (n - lft n) (i - lft n)).map (joinS h (x, true)) := by
  rw [value, if_neg (by omega), if_neg (by omega)]; rfl
theorem value_end (s : B) {n i : Nat} (hn : n ≤ 1) : ∀ r : List B, value h s r n i = if r = [] then some (leafH h s) else none
  | [] => by rw [value, if_pos hn, if_pos rfl]
  | x :: r => by rw [value, if_pos hn, if_neg (by simp)]
theorem value_out (s : B) {n i : Nat} (hn : 2 ≤ n) : value h s [] n i = none := by rw [value, if_neg (by omega)]
end
theorem last_split {ps : List ByteArray} {x : ByteArray} (h : ps[ps.length - 1]? = some x) : ps = ps.take (ps.length - 1) ++ [x] := by
  have hl := (List.getElem?_eq_some_iff.1 h).1
  have := take_succ h
  rw [show ps.length - 1 + 1 = ps.length from by omega, List.take_length] at this
  exact this
theorem nil_or (ps : List ByteArray) : ps = [] ∨ ∃ x, ps[ps.length - 1]? = some x ∧ 1 ≤ ps.length := by
  rcases ps with _ | ⟨a, l⟩
  · exact .inl rfl
  · exact .inr ⟨_, List.getElem?_eq_getElem (by simp), by simp⟩
def stepJ (h : D32) (x : ByteArray × Bool) : D32 := ⟨joinS sum x h.1, by unfold joinS; split <;> exact sum_size _⟩
theorem stepJ_fold (xs : List (ByteArray × Bool)) (s : D32) : (xs.foldr (fun a s => stepJ s a) s).1 = xs.foldr (fun x out => joinS sum x out) s.1 := by
  induction xs with
  | nil => rfl
  | cons x xs ih => rw [List.foldr_cons, List.foldr_cons, ← ih]; rfl
/-- What Verify answers. -/
def verN (root : ByteArray) (n i : Nat) (s : ByteArray) (p : List ByteArray) : Bool := decide ((∀ x ∈ p, x.size = 32) ∧ value sum s p.reverse n i = some root)
theorem verN_odd {root s : ByteArray} {n i : Nat} {p : List ByteArray} (h : ¬ ∀ x ∈ p, x.size = 32) : verN root n i s p = false := by
  unfold verN; simp only [decide_eq_false_iff_not]; exact fun hh => h hh.1
theorem verN_none {root s : ByteArray} {n i : Nat} {p : List ByteArray} (h : value sum s p.reverse n i = none) : verN root n i s p = false := by
  unfold verN; simp [h]
theorem verN_some {root s v : ByteArray} {n i : Nat} {p : List ByteArray} (hp : ∀ x ∈ p, x.size = 32) (h : value sum s p.reverse n i = some v) : verN root n i s p = decide (v.toList = root.toList) := by
  unfold verN
  rw [h]
  apply decide_eq_decide.2
  rw [toList_inj]
  constructor
  · rintro ⟨_, e⟩; injection e
  · rintro rfl; exact ⟨hp, rfl⟩

/-! ### Extensions -/
def stepX (h : D32 × D32) (x : ByteArray × Bool) : D32 × D32 := (if x.2 then stepJ h.1 x else h.1, stepJ h.2 x)
def foldX (way : List (ByteArray × Bool)) (v : ByteArray × ByteArray) : ByteArray × ByteArray := (way.foldr (fun x o => if x.2 then joinS sum x o else o) v.1, way.foldr (fun x o => joinS sum x o) v.2)
theorem stepX_fold (xs : List (ByteArray × Bool)) (s : D32 × D32) : ((xs.foldr (fun a s => stepX s a) s).1.1, (xs.foldr (fun a s => stepX s a) s).2.1) = foldX xs (s.1.1, s.2.1) := by
  unfold foldX
  induction xs with
  | nil => rfl
  | cons x xs ih =>
    simp only [Prod.mk.injEq] at ih
    simp only [List.foldr_cons, Prod.mk.injEq]
    rw [← ih.1, ← ih.2]
    refine ⟨?_, rfl⟩
    unfold stepX
    cases x.2 <;> rfl
theorem foldX_snoc (way : List (ByteArray × Bool)) (x : ByteArray × Bool) (v : ByteArray × ByteArray) : foldX (way ++ [x]) v = foldX way (if x.2 then joinS sum x v.1 else v.1, joinS sum x v.2) := by
  simp [foldX, List.foldr_append]
theorem both_le (old x : B) (r : List B) {m n : Nat} (hn : m < n) (hm : m ≤ lft n) (w : Bool) : both sum old (x :: r) m n w = (both sum old r m (lft n) w).map (fun v => (v.1, joinS sum (x, false) v.2)) := by
  rw [both, if_neg (by omega), if_pos hm]; rfl
theorem both_gt (old x : B) (r : List B) {m n : Nat} (hn : m < n) (hm : lft n < m) (w : Bool) : both sum old (x :: r) m n w = (both sum old r (m - lft n) (n - lft n) false).map (fun v => (joinS sum (x, true) v.1, joinS sum (x, true) v.2)) := by
  rw [both, if_neg (by omega), if_neg (by omega)]; rfl
theorem both_out (old : B) {m n : Nat} (hn : m < n) (w : Bool) : both sum old [] m n w = none := by rw [both, if_neg (by omega)]
theorem both_true (old : B) {m n : Nat} (hn : n ≤ m) : ∀ r : List B, both sum old r m n true = if r = [] then some (old, old) else none
  | [] => by rw [both, if_pos hn, if_pos rfl, if_pos rfl]
  | x :: r => by rw [both, if_pos hn, if_pos rfl, if_neg (by simp)]
theorem both_one (old x : B) {m n : Nat} (hn : n ≤ m) : both sum old [x] m n false = some (x, x) := by rw [both, if_pos hn]; rfl
theorem both_odd (old : B) {m n : Nat} (hn : n ≤ m) : ∀ r : List B, r.length ≠ 1 → both sum old r m n false = none
  | [], _ => by rw [both, if_pos hn]; rfl
  | [x], h => by simp at h
  | x :: y :: r, _ => by rw [both, if_pos hn]; rfl
/-- What VerifyExtension answers, its digests given. -/
def verX (old : ByteArray) (m : Nat) (root : ByteArray) (n : Nat) (p : List ByteArray) : Bool :=
  if m = 0 then decide (p.length = 0) && decide (old.toList = (sum .empty).toList) else if m = n then decide (p.length = 0) && decide (old.toList = root.toList) else decide (both sum old p.reverse m n true = some (old, root))
theorem verX_none {old root : ByteArray} {m n : Nat} {p : List ByteArray} (h0 : m ≠ 0) (hn : m ≠ n) (h : both sum old p.reverse m n true = none) : verX old m root n p = false := by
  rw [verX, if_neg h0, if_neg hn, h]; rfl
theorem verX_some {old root f s : ByteArray} {m n : Nat} {p : List ByteArray} (h0 : m ≠ 0) (hn : m ≠ n) (h : both sum old p.reverse m n true = some (f, s)) : verX old m root n p = (decide (f.toList = old.toList) && decide (s.toList = root.toList)) := by
  rw [verX, if_neg h0, if_neg hn, h, ← Bool.decide_and]
  apply decide_eq_decide.2
  rw [toList_inj, toList_inj]
  simp
end Go.Proofs.YtnadipjlhlbfoaaDoor
