/- Walks, printed by a program. The reference's groups and measures, plainly. No program's function in it. Walks, printed by a program. Walks, printed by a program. Walks, printed by a program. Walks, printed by a program. -/
import Derived.Test.YtpcfgoadkfajfaaK8
namespace Go.Proofs.Ytpcfgoadkfajfaa
set_option linter.all false
open Go Go.RowKit
set_option maxRecDepth 100000
theorem ent_38 : ∀ args w, (callFunc 38 args).run Try.prog w = .ok (.enter 38 args) w := enters_of Try.func38 (by kernel_rfl) rfl
theorem ent_19 : ∀ args w, (callFunc 19 args).run Try.prog w = .ok (.enter 19 args) w := enters_of Try.func19 (by kernel_rfl) rfl
theorem fld_24_8 : Fld Try.prog 24 8 8 := ⟨_, _, (Try.prog.info? 3).get!, Try.underlying24, rfl, rfl, by kernel_rfl, by decide +kernel⟩
theorem agg_34 : AggT Try.prog 34 10 := ⟨_, _, Try.underlying34, rfl, (by kernel_rfl : Try.prog.info? 34 = some (Try.prog.info? 34).get!), by kernel_rfl⟩
theorem fld_24_1 : Fld Try.prog 24 1 1 := ⟨_, _, (Try.prog.info? 3).get!, Try.underlying24, rfl, rfl, by kernel_rfl, by decide +kernel⟩
theorem ent_24 : ∀ args w, (callFunc 24 args).run Try.prog w = .ok (.enter 24 args) w := enters_of Try.func24 (by kernel_rfl) rfl
abbrev mkS (s : Sm) (m : Int) : Sm := { s with mark := m }
def handM (fs : List Fc) (s : Sm) (m : Int) : Int := if 1 ≤ markOf fs s.dev s.id ∧ markOf fs s.dev s.id ≤ 3 then markOf fs s.dev s.id else m
/-- The streams with their marks. -/
def applyS (fs : List Fc) (rs : List Ru) (ls : List Sm) : List Sm := ls.map fun s => mkS s (handM fs s (jud rs ls s))
theorem set_mark (Y : List Sm) (k : Nat) (x : Sm) (m : Int) : (List.map smC Y).set k ((smC x).setIfInBounds 8 (.int .i64 m)) = List.map smC (Y.set k (mkS x m)) := by rw [List.map_set]; rfl
theorem map_set_step {α : Type} {l : List α} {k : Nat} {x : α} (f : α → α) (hx : l[k]? = some x) : ((l.take k).map f ++ l.drop k).set k (f x) = (l.take (k + 1)).map f ++ l.drop (k + 1) := by
  have hk := (List.getElem?_eq_some_iff.1 hx).1
  rw [take_map_succ hx, List.set_append_right _ _ (by simp; omega), List.length_map, List.length_take, Nat.min_eq_left (by omega), Nat.sub_self, List.drop_eq_getElem_cons hk, List.append_assoc]
  rfl
theorem map_set_at {α : Type} {l : List α} {k : Nat} {x : α} (f : α → α) (hx : l[k]? = some x) : ((l.take k).map f ++ l.drop k)[k]? = some x := by
  have hk := (List.getElem?_eq_some_iff.1 hx).1
  rw [List.getElem?_append_right (by simp; omega), List.length_map, List.length_take, Nat.min_eq_left (by omega), Nat.sub_self, List.getElem?_drop, Nat.add_zero]; exact hx
set_option maxRecDepth 100000 in
theorem w_Apply {w : World} {AM AR A : Option Addr} {capM capR cap : Nat} {v0 v2 v3 v4 v5 v6 v7 v8 v9 : Value} (fs : List Fc) (rs : List Ru) (ls : List Sm) (hrM : Rd w AM 18 (fs.map fcC)) (hrR : Rd w AR 4 (rs.map ruC)) (hr : Rd w A 9 (ls.map smC)) (hlM : fs.length ≤ 1000000) (hlR : rs.length ≤ 1000000) (hl : ls.length ≤ 100000) :
    Calls Try.prog 22 #[.agg (#[v0, .slice AM fs.length capM, v2, v3, v4, v5, v6, v7, v8, v9]), .slice AR rs.length capR, .slice A ls.length cap] w (fun e w' => ∃ z : Option Addr × Nat, True ∧ e = .returned (.slice z.1 (List.length (applyS fs rs ls)) z.2) ∧ SL w [] w' [.row z.1 z.2 24 9 (List.map smC (applyS fs rs ls))]) := by
  refine calls_of_CX (O := []) (L := []) (args := [.agg (#[v0, .slice AM fs.length capM, v2, v3, v4, v5, v6, v7, v8, v9]), .slice AR rs.length capR, .slice A ls.length cap]) Try.func22 rfl (by simp [Try.ntmps22]) (SL.refl w) ?_
  refine CX.sub (V' := [(0, .agg (#[v0, .slice AM fs.length capM, v2, v3, v4, v5, v6, v7, v8, v9])), (1, .slice AR rs.length capR), (2, .slice A ls.length cap)]) ⟨rfl, rfl, rfl, trivial⟩ ?_
  refine CX.seq ?_
  refine CX.region ?_
  refine RX.cons rfl rfl (op_box rfl rfl rfl rfl fun g3 => ?_)
  refine RX.cons rfl rfl (op_w (yw_assign rfl rfl) rfl rfl ?_)
  refine RX.nil (XX.next (V' := [(1, _), (2, _), (3, _)]) ⟨rfl, rfl, rfl, trivial⟩ ?_)
  refine CX.seq ?_
  refine CX.region ?_
  refine RX.cons rfl rfl (op_w (yw_move rfl rfl) rfl rfl ?_)
  refine RX.cons rfl rfl (op_callE rfl rfl rfl rfl rfl ent_38 (fun w hw => w_cloneS ls (hw.rd hr (by simp)) (by omega)) (fun ⟨A1, c1⟩ _ => ?_))
  refine RX.cons rfl rfl (op_w (yw_assign rfl rfl) rfl rfl ?_)
  refine RX.nil (XX.next (V' := [(1, _), (2, _), (3, _), (7, _)]) ⟨rfl, rfl, rfl, rfl, trivial⟩ ?_)
  refine CX.seq ?_
  refine CX.seq ?_
  refine CX.region ?_
  refine RX.cons rfl rfl (op_w (yw_move rfl rfl) rfl rfl ?_)
  refine RX.cons rfl rfl (op_w (yw_move rfl rfl) rfl rfl ?_)
  refine RX.cons rfl rfl (op_callE rfl rfl rfl rfl rfl ent_19 (fun w hw => w_Judge rs ls (hw.rd hrR (by simp)) (hw.rd hr (by simp)) hlR hl) (fun ⟨A2, c2⟩ _ => ?_))
  refine RX.cons rfl rfl (op_w (yw_lenS rfl Try.underlying36 rfl) rfl rfl ?_)
  refine RX.cons rfl rfl (op_w (yw_move rfl rfl) rfl rfl ?_)
  refine RX.nil (XX.next (V' := [(2, _), (3, _), (7, _), (15, _), (16, _), (17, _)]) ⟨rfl, rfl, rfl, rfl, rfl, rfl, trivial⟩ ?_)
  refine CX.block ?_
  refine CX.perm (L' := [.row A1 c1 24 9 (List.map smC ls), .row A2 c2 3 1 (List.map iR (List.map (jud rs ls) ls)), .blk g3 (.cells (#[v0, .slice AM fs.length capM, v2, v3, v4, v5, v6, v7, v8, v9]) 34 (0, 0))]) ((perm_pick 1 rfl).trans (List.Perm.cons _ ((perm_pick 0 rfl).trans (List.Perm.cons _ ((perm_pick 0 rfl).trans (List.Perm.cons _ (List.Perm.refl _))))))) ?_
  refine CX.loop (σ := Nat) (fun k => [(2, .slice A ls.length cap), (3, .pointer (some ⟨g3, 0, none⟩)), (7, .slice A1 ls.length c1), (15, .slice A2 (List.length ((List.map (jud rs ls) ls) : List Int)) c2), (16, .int .i64 ((List.length ((List.map (jud rs ls) ls) : List Int) : Nat) : Int)), (17, .int .i64 ((k : Nat) : Int))]) (fun k => [.row A1 c1 24 9 (List.map smC (List.map (fun s => mkS s (handM fs s (jud rs ls s))) (List.take k ls) ++ List.drop k ls)), .row A2 c2 3 1 (List.map iR (List.map (jud rs ls) ls)), .blk g3 (.cells (#[v0, .slice AM fs.length capM, v2, v3, v4, v5, v6, v7, v8, v9]) 34 (0, 0))]) (fun k => k ≤ ls.length) (fun k => ls.length - k) 0 (Nat.zero_le _) ⟨rfl, rfl, rfl, rfl, rfl, rfl, trivial⟩ (by simp) (fun k hI => ?_)
  have hk := hI
  refine CX.seq ?_
  refine CX.region ?_
  refine RX.cons rfl rfl (op_w (yw_lss rfl rfl rfl) rfl rfl ?_)
  refine RX.nil (XX.next (V' := [(2, _), (3, _), (7, _), (15, _), (16, _), (17, _), (18, _)]) ⟨rfl, rfl, rfl, rfl, rfl, rfl, rfl, trivial⟩ ?_)
  refine CX.seq ?_
  refine CX.condD (p := ((k : Nat) : Int) < ((List.length ((List.map (jud rs ls) ls) : List Int) : Nat) : Int)) rfl (fun c18 => ?_) (fun c18 => ?_)
  · have hkl : k < ls.length := by rw [List.length_map] at c18; omega
    obtain ⟨x0, hx0⟩ := get_some (l := ls) (k := k) (by omega)
    have hx0m := List.mem_of_getElem? hx0
    have hA : ∃ b j, A = some ⟨b, j, none⟩ := hr.some (k := 0) (by simp; omega)
    have hY0 := map_set_at (fun s => mkS s (handM fs s (jud rs ls s))) hx0
    have hYn : (List.map (fun s => mkS s (handM fs s (jud rs ls s))) (List.take k ls) ++ List.drop k ls).length = ls.length := by simp; omega
    refine CX.rowSome 0 rfl (by rw [List.length_map]; omega) (fun hA1 => ?_)
    refine CX.rowSome 1 rfl (by rw [List.length_map, List.length_map]; omega) (fun hA2 => ?_)
    refine CX.skip (XX.next (V' := [(2, _), (3, _), (7, _), (15, _), (16, _), (17, _)]) ⟨rfl, rfl, rfl, rfl, rfl, rfl, trivial⟩ ?_)
    refine CX.seq ?_
    refine CX.block ?_
    refine CX.seq ?_
    refine CX.region ?_
    refine RX.cons rfl rfl (op_w (yw_move rfl rfl) rfl rfl ?_)
    refine RX.cons rfl rfl (op_w (yw_index (k := k) rfl slt_36 rfl rfl (by omega) (by rw [List.length_map]; omega) hA2) rfl rfl ?_)
    refine RX.cons rfl rfl (op_yld (y_rowElem1 (i := 1) rfl rfl one_3 rfl (map_get (map_get hx0))) rfl rfl ?_)
    refine RX.cons rfl rfl (op_w (yw_assign rfl rfl) rfl rfl ?_)
    refine RX.cons rfl rfl (op_w (yw_assign rfl rfl) rfl rfl ?_)
    refine RX.nil (XX.next (V' := [(2, _), (3, _), (7, _), (8, _), (9, _), (15, _), (16, _), (17, _)]) ⟨rfl, rfl, rfl, rfl, rfl, rfl, rfl, rfl, trivial⟩ ?_)
    refine CX.seq ?_
    refine CX.region ?_
    refine RX.cons rfl rfl (op_w (yw_move rfl rfl) rfl rfl ?_)
    refine RX.cons rfl rfl (op_w (yw_move rfl rfl) rfl rfl ?_)
    refine RX.cons rfl rfl (op_w (yw_move rfl rfl) rfl rfl ?_)
    refine RX.cons rfl rfl (op_w (yw_index (k := k) rfl slt_22 rfl rfl (by omega) (by omega) hA1) rfl rfl ?_)
    refine RX.cons rfl rfl (op_w (yw_fieldAddr rfl fld_24_8 rfl) rfl rfl ?_)
    refine RX.cons rfl rfl (op_storeElemF (j := 8) (i := 0) (ys := List.map smC ((List.map (fun s => mkS s (handM fs s (jud rs ls s))) (List.take k ls) ++ List.drop k ls).set k (mkS x0 (jud rs ls x0)))) rfl rfl rfl rfl szt_3 rfl rfl rfl (map_get hY0) (by decide) (set_mark _ k x0 (jud rs ls x0)) ?_)
    refine RX.nil (XX.next (V' := [(2, _), (3, _), (7, _), (8, _), (15, _), (16, _), (17, _)]) ⟨rfl, rfl, rfl, rfl, rfl, rfl, rfl, trivial⟩ ?_)
    refine CX.seq ?_
    refine CX.draw 13 [(0, 8, 134217728), (0, 4, 268435456), (0, 256, 536870912), (6, 805306368, 1073741824), (8, 1073741824, 2147483648), (16, 2147483648, 4294967296), (0, 4, 8589934592), (0, 256, 17179869184), (192, 25769803776, 34359738368), (256, 34359738368, 68719476736), (512, 68719476736, 137438953472), (1057, 141868138496, 274877906944), (4095, 274877906944, 1024)] (by kernel_rfl) (by kernel_rfl) (by kernel_rfl) ?_
    refine DX.take 0 1 (by kernel_rfl) rfl rfl rfl rfl rfl (List.Sublist.refl _) (y_loadA (i := 2) rfl rfl agg_34 rfl rfl) ?_
    refine DX.takeW 1 3 (by kernel_rfl) rfl rfl rfl rfl rfl (yw_move rfl rfl) ?_
    refine DX.takeW 2 7 (by kernel_rfl) rfl rfl rfl rfl rfl (yw_move rfl rfl) ?_
    refine DX.takeW 3 15 (by kernel_rfl) rfl rfl rfl rfl rfl (yw_index (k := k) rfl slt_22 rfl rfl (by omega) (by omega) hA) ?_
    refine DX.takeW 4 31 (by kernel_rfl) rfl rfl rfl rfl rfl (yw_field0 rfl fld_24_0 rfl) ?_
    refine DX.take 5 63 (by kernel_rfl) rfl rfl rfl rfl rfl (List.Sublist.refl _) (y_elemF (j := 0) rfl rfl one_3 hr (by simp) (map_get hx0) rfl) ?_
    refine DX.takeW 6 127 (by kernel_rfl) rfl rfl rfl rfl rfl (yw_move rfl rfl) ?_
    refine DX.takeW 7 255 (by kernel_rfl) rfl rfl rfl rfl rfl (yw_move rfl rfl) ?_
    refine DX.takeW 8 511 (by kernel_rfl) rfl rfl rfl rfl rfl (yw_index (k := k) rfl slt_22 rfl rfl (by omega) (by omega) hA) ?_
    refine DX.takeW 9 1023 (by kernel_rfl) rfl rfl rfl rfl rfl (yw_fieldAddr rfl fld_24_1 rfl) ?_
    refine DX.take 10 2047 (by kernel_rfl) rfl rfl rfl rfl rfl (List.Sublist.refl _) (y_elemF rfl rfl one_3 hr (by simp) (map_get hx0) rfl) ?_
    refine DX.step 11 4095 (by kernel_rfl) rfl rfl rfl (op_callV (v := .int .i64 (markOf fs (Sm.dev x0) (Sm.id x0))) rfl rfl rfl rfl rfl ent_24 (fun w hw => w_Mark fs (hw.rd hrM (by simp)) hlM (Sm.dev x0) (Sm.id x0)) (DXs.mk (List.Sublist.refl _) ?_))
    refine DX.takeW 12 8191 (by kernel_rfl) rfl rfl rfl rfl rfl (yw_assign rfl rfl) ?_
    refine DX.done (by kernel_rfl) (XX.next (V' := [(2, _), (3, _), (7, _), (8, _), (10, _), (15, _), (16, _), (17, _)]) ⟨rfl, rfl, rfl, rfl, rfl, rfl, rfl, rfl, trivial⟩ ?_)
    refine CX.seq ?_
    refine CX.region ?_
    refine RX.cons rfl rfl (op_w (yw_move rfl rfl) rfl rfl ?_)
    refine RX.cons rfl rfl (op_w (yw_geq rfl rfl rfl) rfl rfl ?_)
    refine RX.cons rfl rfl (op_w (yw_move rfl rfl) rfl rfl ?_)
    refine RX.splitD (t := 41) (p := 1 ≤ markOf fs (Sm.dev x0) (Sm.id x0)) rfl (fun d41 => ?_) (fun d41 => ?_)
    · refine RX.consG rfl rfl rfl rfl rfl (op_w (yw_move rfl rfl) rfl rfl ?_)
      refine RX.consG rfl rfl rfl rfl rfl (op_w (yw_leq rfl rfl rfl) rfl rfl ?_)
      refine RX.cons rfl rfl (op_w (yw_pickT rfl rfl rfl) rfl rfl ?_)
      refine RX.nil (XX.next (V' := [(2, _), (3, _), (7, _), (8, _), (10, _), (15, _), (16, _), (17, _), (44, _)]) ⟨rfl, rfl, rfl, rfl, rfl, rfl, rfl, rfl, rfl, trivial⟩ ?_)
      refine CX.condD (p := markOf fs (Sm.dev x0) (Sm.id x0) ≤ 3) rfl (fun c44 => ?_) (fun c44 => ?_)
      · refine CX.region ?_
        refine RX.cons rfl rfl (op_w (yw_move rfl rfl) rfl rfl ?_)
        refine RX.cons rfl rfl (op_w (yw_move rfl rfl) rfl rfl ?_)
        refine RX.cons rfl rfl (op_w (yw_move rfl rfl) rfl rfl ?_)
        refine RX.cons rfl rfl (op_w (yw_index (k := k) rfl slt_22 rfl rfl (by omega) (by omega) hA1) rfl rfl ?_)
        refine RX.cons rfl rfl (op_w (yw_fieldAddr rfl fld_24_8 rfl) rfl rfl ?_)
        refine RX.cons rfl rfl (op_storeElemF (j := 8) (i := 0) (ys := List.map smC (((List.map (fun s => mkS s (handM fs s (jud rs ls s))) (List.take k ls) ++ List.drop k ls).set k (mkS x0 (jud rs ls x0))).set k (mkS (mkS x0 (jud rs ls x0)) (markOf fs (Sm.dev x0) (Sm.id x0))))) rfl rfl rfl rfl szt_3 rfl rfl rfl (map_get (l := ((List.map (fun s => mkS s (handM fs s (jud rs ls s))) (List.take k ls) ++ List.drop k ls).set k (mkS x0 (jud rs ls x0)))) (by rw [List.getElem?_set_self (by omega)])) (by decide) (set_mark _ k (mkS x0 (jud rs ls x0)) (markOf fs (Sm.dev x0) (Sm.id x0))) ?_)
        refine RX.nil (XX.inBlock (V' := [(2, _), (3, _), (7, _), (15, _), (16, _), (17, _)]) ⟨rfl, rfl, rfl, rfl, rfl, rfl, trivial⟩ ?_)
        refine XX.next (V' := [(2, _), (3, _), (7, _), (15, _), (16, _), (17, _)]) ⟨rfl, rfl, rfl, rfl, rfl, rfl, trivial⟩ ?_
        refine CX.ents (L' := [.row A1 c1 24 9 (List.map smC (List.map (fun s => mkS s (handM fs s (jud rs ls s))) (List.take (k + 1) ls) ++ List.drop (k + 1) ls)), .row A2 c2 3 1 (List.map iR (List.map (jud rs ls) ls)), .blk g3 (.cells (#[v0, .slice AM fs.length capM, v2, v3, v4, v5, v6, v7, v8, v9]) 34 (0, 0))]) (by rw [← map_set_step (fun s => mkS s (handM fs s (jud rs ls s))) hx0, List.set_set, List.set_set, handM, if_pos ⟨by omega, by omega⟩]; rfl) ?_
        refine CX.region ?_
        refine RX.cons rfl rfl (op_w (yw_add rfl rfl rfl (by omega) (by omega)) rfl rfl ?_)
        refine RX.cons rfl rfl (op_w (yw_move rfl rfl) rfl rfl ?_)
        refine RX.nil (XX.againP ([]) (k + 1) (by omega) (by omega) ⟨rfl, rfl, rfl, rfl, rfl, rfl, trivial⟩ ((perm_pick 0 rfl).trans (List.Perm.cons _ ((perm_pick 0 rfl).trans (List.Perm.cons _ ((perm_pick 0 rfl).trans (List.Perm.cons _ (List.Perm.refl _))))))))
      · refine CX.skip (XX.inBlock (V' := [(2, _), (3, _), (7, _), (15, _), (16, _), (17, _)]) ⟨rfl, rfl, rfl, rfl, rfl, rfl, trivial⟩ ?_)
        refine XX.next (V' := [(2, _), (3, _), (7, _), (15, _), (16, _), (17, _)]) ⟨rfl, rfl, rfl, rfl, rfl, rfl, trivial⟩ ?_
        refine CX.ents (L' := [.row A1 c1 24 9 (List.map smC (List.map (fun s => mkS s (handM fs s (jud rs ls s))) (List.take (k + 1) ls) ++ List.drop (k + 1) ls)), .row A2 c2 3 1 (List.map iR (List.map (jud rs ls) ls)), .blk g3 (.cells (#[v0, .slice AM fs.length capM, v2, v3, v4, v5, v6, v7, v8, v9]) 34 (0, 0))]) (by rw [← map_set_step (fun s => mkS s (handM fs s (jud rs ls s))) hx0, handM, if_neg (by omega)]; rfl) ?_
        refine CX.region ?_
        refine RX.cons rfl rfl (op_w (yw_add rfl rfl rfl (by omega) (by omega)) rfl rfl ?_)
        refine RX.cons rfl rfl (op_w (yw_move rfl rfl) rfl rfl ?_)
        refine RX.nil (XX.againP ([]) (k + 1) (by omega) (by omega) ⟨rfl, rfl, rfl, rfl, rfl, rfl, trivial⟩ ((perm_pick 0 rfl).trans (List.Perm.cons _ ((perm_pick 0 rfl).trans (List.Perm.cons _ ((perm_pick 0 rfl).trans (List.Perm.cons _ (List.Perm.refl _))))))))
    · refine RX.skip rfl rfl rfl rfl rfl rfl rfl ?_
      refine RX.skip rfl rfl rfl rfl rfl rfl rfl ?_
      refine RX.cons rfl rfl (op_w (yw_pickF rfl rfl rfl) rfl rfl ?_)
      refine RX.nil (XX.next (V' := [(2, _), (3, _), (7, _), (8, _), (10, _), (15, _), (16, _), (17, _), (44, _)]) ⟨rfl, rfl, rfl, rfl, rfl, rfl, rfl, rfl, rfl, trivial⟩ ?_)
      refine CX.condF rfl ?_
      refine CX.skip (XX.inBlock (V' := [(2, _), (3, _), (7, _), (15, _), (16, _), (17, _)]) ⟨rfl, rfl, rfl, rfl, rfl, rfl, trivial⟩ ?_)
      refine XX.next (V' := [(2, _), (3, _), (7, _), (15, _), (16, _), (17, _)]) ⟨rfl, rfl, rfl, rfl, rfl, rfl, trivial⟩ ?_
      refine CX.ents (L' := [.row A1 c1 24 9 (List.map smC (List.map (fun s => mkS s (handM fs s (jud rs ls s))) (List.take (k + 1) ls) ++ List.drop (k + 1) ls)), .row A2 c2 3 1 (List.map iR (List.map (jud rs ls) ls)), .blk g3 (.cells (#[v0, .slice AM fs.length capM, v2, v3, v4, v5, v6, v7, v8, v9]) 34 (0, 0))]) (by rw [← map_set_step (fun s => mkS s (handM fs s (jud rs ls s))) hx0, handM, if_neg (by omega)]; rfl) ?_
      refine CX.region ?_
      refine RX.cons rfl rfl (op_w (yw_add rfl rfl rfl (by omega) (by omega)) rfl rfl ?_)
      refine RX.cons rfl rfl (op_w (yw_move rfl rfl) rfl rfl ?_)
      refine RX.nil (XX.againP ([]) (k + 1) (by omega) (by omega) ⟨rfl, rfl, rfl, rfl, rfl, rfl, trivial⟩ ((perm_pick 0 rfl).trans (List.Perm.cons _ ((perm_pick 0 rfl).trans (List.Perm.cons _ ((perm_pick 0 rfl).trans (List.Perm.cons _ (List.Perm.refl _))))))))
  · rw [List.length_map] at c18
    obtain rfl : k = ls.length := by omega
    refine CX.exit ?_
    refine XX.then_exit ?_
    refine XX.then_exit ?_
    refine XX.block_exit ?_
    refine XX.next (V' := [(7, _)]) ⟨rfl, trivial⟩ ?_
    refine CX.seq ?_
    refine CX.region ?_
    refine RX.cons rfl rfl (op_w (yw_move rfl rfl) rfl rfl ?_)
    refine RX.cons rfl rfl (op_w (yw_assign rfl rfl) rfl rfl ?_)
    refine RX.nil (XX.next (V' := [(6, .slice A1 ls.length c1)]) ⟨rfl, trivial⟩ ?_)
    refine CX.ret ?_
    exact ret_tmp rfl rfl fun w1 hw => ⟨(A1, c1), trivial, by rw [applyS, List.length_map], by rw [List.take_length, List.drop_length, List.append_nil] at hw; exact hw.pick ((perm_pick 0 rfl).trans (List.Perm.cons _ (List.Perm.refl _)))⟩

end Go.Proofs.Ytpcfgoadkfajfaa
namespace Go.Proofs.Ytpcfgoadkfajfaa
set_option linter.all false
theorem filter_snocB {α : Type} {p : α → Bool} {l : List α} {i : Nat} {x : α} (h : l[i]? = some x) : (l.take (i + 1)).filter p = (l.take i).filter p ++ (if p x = true then [x] else []) := by
  rw [take_succ h, List.filter_append]; congr 1
  cases e : p x <;> simp [e]
variable {ls : List Sm} {s t : Sm} {k : Int} {As : List Int}
theorem inGrp_acc (h : k = 1) : inGrp ls s k t = decide (t.acc = s.acc) := by unfold inGrp; rw [if_pos h]
theorem inGrp_dev (h1 : ¬ k = 1) (h : k = 2) : inGrp ls s k t = decide (t.dev = s.dev) := by unfold inGrp; rw [if_neg h1, if_pos h]
theorem inGrp_clu (h1 : ¬ k = 1) (h2 : ¬ k = 2) (h : k = 3) (hAs : ∀ x, x ∈ As ↔ s.acc ∈ (edgesOf ls).map Prod.fst ∧ Conn (edgesOf ls) (false, x) (false, s.acc)) : inGrp ls s k t = decide (t.acc ∈ As) := by
  unfold inGrp; rw [if_neg h1, if_neg h2, if_pos h, Bool.eq_iff_iff, Bool.and_eq_true, decide_eq_true_eq, decide_eq_true_eq, hAs, fst_edges]
  unfold joinA; rw [decide_eq_true_eq, rep_eq]
theorem inGrp_none (h1 : ¬ k = 1) (h2 : ¬ k = 2) (h3 : ¬ k = 3) : inGrp ls s k t = false := by unfold inGrp; rw [if_neg h1, if_neg h2, if_neg h3]
/-- What is counted of the first streams of a group. -/
def valsM (m : Int) (G : List Sm) (i : Nat) : List Int := if m = 1 then (List.range i).map Int.ofNat else (G.take i).map fun t => if m = 2 then t.acc else if m = 3 then t.dev else t.song
def valM (m : Int) (i : Nat) (t : Sm) : Int := if m = 1 then ((i : Nat) : Int) else if m = 2 then t.acc else if m = 3 then t.dev else t.song
theorem valsM_snoc {m : Int} {G : List Sm} {i : Nat} {t : Sm} (h : G[i]? = some t) : valsM m G (i + 1) = valsM m G i ++ [valM m i t] := by
  unfold valsM valM
  split
  · rw [List.range_succ, List.map_append]; rfl
  · rw [take_map_succ h]
def SeenOk (m : Int) (G : List Sm) (i : Nat) (seen : List Int) : Prop := seen.Nodup ∧ ∀ v, v ∈ seen ↔ v ∈ valsM m G i
theorem SeenOk.nil (m : Int) (G : List Sm) : SeenOk m G 0 [] := ⟨List.nodup_nil, fun v => by simp [valsM]⟩
theorem SeenOk.more {m : Int} {G : List Sm} {i : Nat} {seen : List Int} {t : Sm} {v : Int} (h : SeenOk m G i seen) (ht : G[i]? = some t) (hv : valM m i t = v) (hn : v ∉ seen) : SeenOk m G (i + 1) (seen ++ [v]) := by
  subst hv
  refine ⟨List.nodup_append.2 ⟨h.1, by simp, fun a ha b hb e => ?_⟩, fun v => ?_⟩
  · rw [List.mem_singleton.1 hb] at e; rw [e] at ha; exact hn ha
  · rw [valsM_snoc ht, List.mem_append, List.mem_append, h.2]
theorem SeenOk.known {m : Int} {G : List Sm} {i : Nat} {seen : List Int} {t : Sm} {v : Int} (h : SeenOk m G i seen) (ht : G[i]? = some t) (hv : valM m i t = v) (hn : v ∈ seen) : SeenOk m G (i + 1) seen := by
  subst hv
  refine ⟨h.1, fun v => ?_⟩
  rw [valsM_snoc ht, List.mem_append, h.2, List.mem_singleton]
  exact ⟨.inl, fun h2 => h2.elim id fun e => by rw [e]; exact (h.2 _).1 hn⟩
theorem SeenOk.is {m : Int} {G : List Sm} {seen : List Int} (h : SeenOk m G G.length seen) (hm : 1 ≤ m ∧ m ≤ 4) : seen.length = cnt G m := by
  have h1 := dcount_unique h.1 h.2
  rw [← h1]
  unfold valsM cnt
  by_cases e1 : m = 1
  · rw [if_pos e1, if_pos e1, dcount_nodup, List.length_map, List.length_range]
    refine List.Pairwise.map _ (fun a b (hab : a ≠ b) => ?_) List.nodup_range
    exact fun e => hab (Int.ofNat.inj e)
  · rw [if_neg e1, if_neg e1, List.take_length]
    by_cases e2 : m = 2
    · rw [if_pos e2]; simp only [e2, if_true]
    · rw [if_neg e2]
      by_cases e3 : m = 3
      · rw [if_pos e3]; simp only [e3, if_true]; simp
      · rw [if_neg e3, if_pos (by omega)]; simp only [if_neg e2, if_neg e3]
theorem cnt_nil (m : Int) : cnt [] m = 0 := by unfold cnt; repeat' split
                                               all_goals rfl
theorem cnt_none (G : List Sm) {m : Int} (h : ¬ (1 ≤ m ∧ m ≤ 4)) : cnt G m = 0 := by unfold cnt; rw [if_neg (by omega), if_neg (by omega), if_neg (by omega), if_neg (by omega)]
theorem SeenOk.fin {m : Int} {G : List Sm} {seen : List Int} (h : SeenOk m G G.length seen) (h0 : ¬ (1 ≤ m ∧ m ≤ 4) → G.length = 0) (hn : seen.length ≤ G.length) : seen.length = cnt G m := by
  by_cases hm : 1 ≤ m ∧ m ≤ 4
  · exact h.is hm
  · rw [cnt_none _ hm]; have := h0 hm; omega
/-- One judgement of a rule. -/
def meetsOne (ls : List Sm) (s : Sm) (a : Int) (r : Ru) : Bool := okR r && decide (r.act = a) && decide (r.n < ((meas ls s r.sub r.mea : Nat) : Int))
def matchR (rs : List Ru) (ls : List Sm) (s : Sm) (a : Int) : Bool := !(free rs s) && meets rs ls s a
theorem free_iff (rs : List Ru) (s : Sm) : (∃ x ∈ rs, okR x = true ∧ Ru.act x = 3 ∧ Ru.n x = s.acc) ↔ free rs s = true := by
  unfold free; rw [List.any_eq_true]
  constructor
  · rintro ⟨x, h1, h2, h3, h4⟩; exact ⟨x, h1, by simp [h2, h3, h4]⟩
  · rintro ⟨x, h1, h2⟩; exact ⟨x, h1, by simpa [and_assoc] using h2⟩
theorem jud_match (rs : List Ru) (ls : List Sm) (s : Sm) : jud rs ls s = if matchR rs ls s 2 = true then 3 else if matchR rs ls s 1 = true then 2 else 1 := by
  unfold jud matchR
  cases free rs s <;> simp
end Go.Proofs.Ytpcfgoadkfajfaa
namespace Go.Proofs.Ytpcfgoadkfajfaa
set_option linter.all false
open Go Go.RowKit
set_option maxRecDepth 100000
theorem ent_25 : ∀ args w, (callFunc 25 args).run Try.prog w = .ok (.enter 25 args) w := enters_of Try.func25 (by kernel_rfl) rfl
theorem ent_48 : ∀ args w, (callFunc 48 args).run Try.prog w = .ok (.enter 48 args) w := enters_of Try.func48 (by kernel_rfl) rfl
theorem ent_31 : ∀ args w, (callFunc 31 args).run Try.prog w = .ok (.enter 31 args) w := enters_of Try.func31 (by kernel_rfl) rfl
set_option maxRecDepth 100000 in
theorem w_group11 {w : World} {A : Option Addr} {cap : Nat} (ls : List Sm) (hr : Rd w A 9 (ls.map smC)) (hl : ls.length ≤ 100000) (s : Sm) (k : Int) :
    Calls Try.prog 30 #[.slice A ls.length cap, .agg (smC s), .int .i64 k] w (fun e w' => ∃ z : Option Addr × Nat, True ∧ e = .returned (.slice z.1 (List.length (grp ls s k)) z.2) ∧ SL w [] w' [.row z.1 z.2 24 9 (List.map smC (grp ls s k))]) := by
  refine calls_of_CX (O := []) (L := []) (args := [.slice A ls.length cap, .agg (smC s), .int .i64 k]) Try.func30 rfl (by simp [Try.ntmps30]) (SL.refl w) ?_
  refine CX.sub (V' := [(0, .slice A ls.length cap), (1, .agg (smC s)), (2, .int .i64 k)]) ⟨rfl, rfl, rfl, trivial⟩ ?_
  refine CX.seq ?_
  refine CX.region ?_
  refine RX.cons rfl rfl (op_box rfl rfl rfl rfl fun g4 => ?_)
  refine RX.cons rfl rfl (op_w (yw_assign rfl rfl) rfl rfl ?_)
  refine RX.nil (XX.next (V' := [(0, _), (2, _), (4, _)]) ⟨rfl, rfl, rfl, trivial⟩ ?_)
  refine CX.seq ?_
  have hlE : (edgesOf ls).length ≤ 100000 := by rw [edgesOf, List.length_map]; exact hl
  refine CX.drawL 10 ([.blk g4 (.cells (smC s) 24 (0, 0))]) [(0, 1, 8192), (1, 8192, 16384), (0, 16, 32768), (4, 32768, 65536), (10, 81920, 131072), (16, 131072, 4096), (32, 4096, 262144), (32, 4096, 524288), (127, 262144, 128), (511, 524288, 256)] (by kernel_rfl) (by kernel_rfl) (by kernel_rfl) ?_
  refine DX.takeW 0 1 (by kernel_rfl) rfl rfl rfl rfl rfl (yw_move rfl rfl) ?_
  refine DX.takeW 2 5 (by kernel_rfl) rfl rfl rfl rfl rfl (yw_fieldAddr rfl fld_24_2 rfl) ?_
  refine DX.take 3 13 (by kernel_rfl) rfl rfl rfl rfl rfl (List.Sublist.refl _) (y_load (i := 0) rfl rfl one_3 rfl rfl) ?_
  refine DX.step 1 15 (by kernel_rfl) rfl rfl rfl (op_callE rfl rfl rfl rfl rfl ent_25 (fun w hw => w_graph11 ls (hw.rd hr (by simp)) (by omega)) (fun ⟨A1, c1⟩ _ => (DXs.mk (List.Sublist.cons _ (List.Sublist.refl _)) ?_)))
  refine DX.step 4 31 (by kernel_rfl) rfl rfl rfl (op_callE rfl rfl rfl rfl rfl ent_48 (fun w hw => w_cluster10 (edgesOf ls) (Ent.rd (hw.ents _ (List.mem_of_getElem? (i := 0) rfl))) hlE (Sm.acc s)) (fun ⟨⟨⟨A2, c2⟩, As⟩, ⟨⟨A3, c3⟩, Ds⟩⟩ ⟨hAs, hAn⟩ => (DXs.mk (List.Sublist.cons _ (List.Sublist.cons _ (List.Sublist.cons _ (List.Sublist.refl _)))) ?_)))
  refine DX.takeW 5 63 (by kernel_rfl) rfl rfl rfl rfl rfl (yw_move rfl rfl) ?_
  refine DX.takeW 6 127 (by kernel_rfl) rfl rfl rfl rfl rfl (yw_extract rfl rfl rfl) ?_
  refine DX.takeW 7 255 (by kernel_rfl) rfl rfl rfl rfl rfl (yw_extract rfl rfl rfl) ?_
  refine DX.takeW 8 511 (by kernel_rfl) rfl rfl rfl rfl rfl (yw_assign rfl rfl) ?_
  refine DX.takeW 9 1023 (by kernel_rfl) rfl rfl rfl rfl rfl (yw_assign rfl rfl) ?_
  refine DX.done (by kernel_rfl) (XX.next (V' := [(0, _), (2, _), (4, _), (7, _)]) ⟨rfl, rfl, rfl, rfl, trivial⟩ ?_)
  refine CX.seq ?_
  refine CX.region ?_
  refine RX.cons rfl rfl (op_w (yw_assign rfl rfl) rfl rfl ?_)
  refine RX.nil (XX.next (V' := [(0, _), (2, _), (4, _), (7, _), (9, _)]) ⟨rfl, rfl, rfl, rfl, rfl, trivial⟩ ?_)
  refine CX.seq ?_
  refine CX.seq ?_
  refine CX.region ?_
  refine RX.cons rfl rfl (op_w (yw_assign rfl rfl) rfl rfl ?_)
  refine RX.nil (XX.next (V' := [(0, _), (2, _), (4, _), (7, _), (9, _), (10, _)]) ⟨rfl, rfl, rfl, rfl, rfl, rfl, trivial⟩ ?_)
  refine CX.block ?_
  refine CX.rowNil 24 9 ?_
  dsimp only at hAs hAn
  have hEl : (edgesOf ls).length = ls.length := by rw [edgesOf, List.length_map]
  refine CX.perm (L' := [.row none 0 24 9 (List.map smC ([])), .row A2 c2 3 1 (List.map iR As), .blk g4 (.cells (smC s) 24 (0, 0)), .row A3 c3 3 1 (List.map iR Ds), .row A1 c1 73 2 (List.map edC (edgesOf ls))]) ((perm_pick 0 rfl).trans (List.Perm.cons _ ((perm_pick 0 rfl).trans (List.Perm.cons _ ((perm_pick 2 rfl).trans (List.Perm.cons _ (List.Perm.refl _))))))) ?_
  refine CX.drop (L' := [.row none 0 24 9 (List.map smC ([])), .row A2 c2 3 1 (List.map iR As), .blk g4 (.cells (smC s) 24 (0, 0))]) (List.Sublist.cons_cons _ (List.Sublist.cons_cons _ (List.Sublist.cons_cons _ (List.nil_sublist _)))) ?_
  refine CX.loop (σ := Nat × (Option Addr × Nat) × List Sm) (fun z => [(0, .slice A ls.length cap), (2, .int .i64 k), (4, .pointer (some ⟨g4, 0, none⟩)), (7, .slice A2 (List.length (As : List Int)) c2), (9, .slice z.2.1.1 (List.length (z.2.2 : List Sm)) z.2.1.2), (10, .int .i64 ((z.1 : Nat) : Int))]) (fun z => [.row z.2.1.1 z.2.1.2 24 9 (List.map smC z.2.2), .row A2 c2 3 1 (List.map iR As), .blk g4 (.cells (smC s) 24 (0, 0))]) (fun z => z.1 ≤ ls.length ∧ z.2.2 = List.filter (inGrp ls s k) (List.take z.1 ls)) (fun z => ls.length - z.1) (0, (none, 0), []) ⟨Nat.zero_le _, rfl⟩ ⟨rfl, rfl, rfl, rfl, rfl, rfl, trivial⟩ rfl (fun z hI => ?_)
  obtain ⟨i, ⟨A4, c4⟩, G⟩ := z
  dsimp only at hI ⊢
  obtain ⟨hi, hG⟩ := hI
  have hGn : G.length ≤ i := by rw [hG]; exact Nat.le_trans (List.length_filter_le _ _) (by rw [List.length_take]; omega)
  refine CX.seq ?_
  refine CX.seq ?_
  refine CX.region ?_
  refine RX.cons rfl rfl (op_w (yw_move rfl rfl) rfl rfl ?_)
  refine RX.cons rfl rfl (op_w (yw_move rfl rfl) rfl rfl ?_)
  refine RX.cons rfl rfl (op_w (yw_lenS rfl Try.underlying22 rfl) rfl rfl ?_)
  refine RX.cons rfl rfl (op_w (yw_lss rfl rfl rfl) rfl rfl ?_)
  refine RX.nil (XX.next (V' := [(0, _), (2, _), (4, _), (7, _), (9, _), (10, _), (23, _)]) ⟨rfl, rfl, rfl, rfl, rfl, rfl, rfl, trivial⟩ ?_)
  refine CX.condD (p := ((i : Nat) : Int) < ((ls.length : Nat) : Int)) rfl (fun c23 => ?_) (fun c23 => ?_)
  · obtain ⟨x0, hx0⟩ := get_some (l := ls) (k := i) (by omega)
    have hx0m := List.mem_of_getElem? hx0
    have hA : ∃ b j, A = some ⟨b, j, none⟩ := hr.some (k := 0) (by simp; omega)
    refine CX.skip (XX.next (V' := [(0, _), (2, _), (4, _), (7, _), (9, _), (10, _)]) ⟨rfl, rfl, rfl, rfl, rfl, rfl, trivial⟩ ?_)
    refine CX.seq ?_
    refine CX.block ?_
    refine CX.seq ?_
    refine CX.region ?_
    refine RX.cons rfl rfl (op_w (yw_assign rfl rfl) rfl rfl ?_)
    refine RX.nil (XX.next (V' := [(0, _), (2, _), (4, _), (7, _), (9, _), (10, _), (11, _)]) ⟨rfl, rfl, rfl, rfl, rfl, rfl, rfl, trivial⟩ ?_)
    refine CX.seq ?_
    refine CX.seq ?_
    refine CX.region ?_
    refine RX.cons rfl rfl (op_w (yw_move rfl rfl) rfl rfl ?_)
    refine RX.nil (XX.next (V' := [(0, _), (2, _), (4, _), (7, _), (9, _), (10, _), (11, _), (26, _)]) ⟨rfl, rfl, rfl, rfl, rfl, rfl, rfl, rfl, trivial⟩ ?_)
    refine CX.block ?_
    refine CX.seq ?_
    refine CX.region ?_
    refine RX.cons rfl rfl (op_w (yw_eql rfl rfl rfl) rfl rfl ?_)
    refine RX.cons rfl rfl (op_w (yw_assign rfl rfl) rfl rfl ?_)
    refine RX.nil (XX.next (V' := [(0, _), (2, _), (4, _), (7, _), (9, _), (10, _), (11, _), (26, _), (27, _)]) ⟨rfl, rfl, rfl, rfl, rfl, rfl, rfl, rfl, rfl, trivial⟩ ?_)
    refine CX.condD (p := k = 1) rfl (fun c27 => ?_) (fun c27 => ?_)
    · refine CX.draw 9 [(0, 1, 536870912), (0, 1024, 1073741824), (3, 1610612736, 2147483648), (4, 2147483648, 4294967296), (8, 4294967296, 8589934592), (0, 16, 17179869184), (32, 17179869184, 34359738368), (80, 42949672960, 68719476736), (255, 68719476736, 2048)] (by kernel_rfl) (by kernel_rfl) (by kernel_rfl) ?_
      refine DX.takeW 0 1 (by kernel_rfl) rfl rfl rfl rfl rfl (yw_move rfl rfl) ?_
      refine DX.takeW 1 3 (by kernel_rfl) rfl rfl rfl rfl rfl (yw_move rfl rfl) ?_
      refine DX.takeW 2 7 (by kernel_rfl) rfl rfl rfl rfl rfl (yw_index (k := i) rfl slt_22 rfl rfl (by omega) (by omega) hA) ?_
      refine DX.takeW 3 15 (by kernel_rfl) rfl rfl rfl rfl rfl (yw_fieldAddr rfl fld_24_2 rfl) ?_
      refine DX.take 4 31 (by kernel_rfl) rfl rfl rfl rfl rfl (List.Sublist.refl _) (y_elemF rfl rfl one_3 hr (by simp) (map_get hx0) rfl) ?_
      refine DX.takeW 5 63 (by kernel_rfl) rfl rfl rfl rfl rfl (yw_fieldAddr rfl fld_24_2 rfl) ?_
      refine DX.take 6 127 (by kernel_rfl) rfl rfl rfl rfl rfl (List.Sublist.refl _) (y_load (i := 2) rfl rfl one_3 rfl rfl) ?_
      refine DX.takeW 7 255 (by kernel_rfl) rfl rfl rfl rfl rfl (yw_eql rfl rfl rfl) ?_
      refine DX.takeW 8 511 (by kernel_rfl) rfl rfl rfl rfl rfl (yw_assign rfl rfl) ?_
      refine DX.done (by kernel_rfl) (XX.inBlock (V' := [(0, _), (2, _), (4, _), (7, _), (9, _), (10, _), (11, _)]) ⟨rfl, rfl, rfl, rfl, rfl, rfl, rfl, trivial⟩ ?_)
      refine XX.next (V' := [(0, _), (2, _), (4, _), (7, _), (9, _), (10, _), (11, _)]) ⟨rfl, rfl, rfl, rfl, rfl, rfl, rfl, trivial⟩ ?_
      refine CX.seq ?_
      refine CX.region ?_
      refine RX.cons rfl rfl (op_w (yw_move rfl rfl) rfl rfl ?_)
      refine RX.nil (XX.next (V' := [(0, _), (2, _), (4, _), (7, _), (9, _), (10, _), (56, _)]) ⟨rfl, rfl, rfl, rfl, rfl, rfl, rfl, trivial⟩ ?_)
      refine CX.condD (p := Sm.acc x0 = Sm.acc s) rfl (fun c56 => ?_) (fun c56 => ?_)
      · refine CX.region ?_
        refine RX.cons rfl rfl (op_w (yw_move rfl rfl) rfl rfl ?_)
        refine RX.cons rfl rfl (op_w (yw_move rfl rfl) rfl rfl ?_)
        refine RX.cons rfl rfl (op_w (yw_move rfl rfl) rfl rfl ?_)
        refine RX.cons rfl rfl (op_w (yw_index (k := i) rfl slt_22 rfl rfl (by omega) (by omega) hA) rfl rfl ?_)
        refine RX.cons rfl rfl (op_yld (y_elem rfl rfl agg_24 hr (by simp) (map_get hx0)) rfl rfl ?_)
        refine RX.cons rfl rfl (op_buildSlice rfl rfl rfl slb_22 rfl rfl (by intro v hv; simp only [List.mem_cons, List.not_mem_nil, or_false] at hv; subst hv; exact ⟨rfl, (plain_of rfl)⟩) (by decide) fun g7 => ?_)
        refine RX.cons rfl rfl (op_appendM smC (i := 1) (j := 0) (xs := G) ([x0]) rfl rfl rfl slb_22 rfl rfl rfl rfl rfl rfl (by rw [List.length_singleton]; omega) (by rw [List.length_singleton]; omega) fun A5 c5 => ?_)
        refine RX.cons rfl rfl (op_w (yw_assign rfl rfl) rfl rfl ?_)
        refine RX.nil (XX.inBlock (V' := [(0, _), (2, _), (4, _), (7, _), (9, _), (10, _)]) ⟨rfl, rfl, rfl, rfl, rfl, rfl, trivial⟩ ?_)
        refine XX.next (V' := [(0, _), (2, _), (4, _), (7, _), (9, _), (10, _)]) ⟨rfl, rfl, rfl, rfl, rfl, rfl, trivial⟩ ?_
        refine CX.region ?_
        refine RX.cons rfl rfl (op_w (yw_move rfl rfl) rfl rfl ?_)
        refine RX.cons rfl rfl (op_w (yw_add rfl rfl rfl (by omega) (by omega)) rfl rfl ?_)
        refine RX.cons rfl rfl (op_w (yw_assign rfl rfl) rfl rfl ?_)
        refine RX.nil (XX.againP ([.row (some ⟨g7, 0, none⟩) 1 24 9 (List.map smC ([x0]))]) (i + 1, (A5, c5), G ++ [x0]) (by dsimp only; omega) ⟨by dsimp only; omega, by dsimp only; rw [filter_snocB hx0, inGrp_acc c27, decide_eq_true c56, if_pos rfl, hG]⟩ ⟨rfl, rfl, rfl, rfl, rfl, rfl, trivial⟩ ((perm_pick 1 rfl).trans (List.Perm.cons _ ((perm_pick 1 rfl).trans (List.Perm.cons _ ((perm_pick 1 rfl).trans (List.Perm.cons _ (List.Perm.refl _))))))))
      · refine CX.skip (XX.inBlock (V' := [(0, _), (2, _), (4, _), (7, _), (9, _), (10, _)]) ⟨rfl, rfl, rfl, rfl, rfl, rfl, trivial⟩ ?_)
        refine XX.next (V' := [(0, _), (2, _), (4, _), (7, _), (9, _), (10, _)]) ⟨rfl, rfl, rfl, rfl, rfl, rfl, trivial⟩ ?_
        refine CX.region ?_
        refine RX.cons rfl rfl (op_w (yw_move rfl rfl) rfl rfl ?_)
        refine RX.cons rfl rfl (op_w (yw_add rfl rfl rfl (by omega) (by omega)) rfl rfl ?_)
        refine RX.cons rfl rfl (op_w (yw_assign rfl rfl) rfl rfl ?_)
        refine RX.nil (XX.againP ([]) (i + 1, (A4, c4), G) (by dsimp only; omega) ⟨by dsimp only; omega, by dsimp only; rw [filter_snocB hx0, inGrp_acc c27, decide_eq_false c56, if_neg (by decide), List.append_nil, hG]⟩ ⟨rfl, rfl, rfl, rfl, rfl, rfl, trivial⟩ ((perm_pick 0 rfl).trans (List.Perm.cons _ ((perm_pick 0 rfl).trans (List.Perm.cons _ ((perm_pick 0 rfl).trans (List.Perm.cons _ (List.Perm.refl _))))))))
    · refine CX.seq ?_
      refine CX.region ?_
      refine RX.cons rfl rfl (op_w (yw_eql rfl rfl rfl) rfl rfl ?_)
      refine RX.cons rfl rfl (op_w (yw_assign rfl rfl) rfl rfl ?_)
      refine RX.nil (XX.next (V' := [(0, _), (2, _), (4, _), (7, _), (9, _), (10, _), (11, _), (26, _), (37, _)]) ⟨rfl, rfl, rfl, rfl, rfl, rfl, rfl, rfl, rfl, trivial⟩ ?_)
      refine CX.condD (p := k = 2) rfl (fun c37 => ?_) (fun c37 => ?_)
      · refine CX.draw 9 [(0, 1, 549755813888), (0, 1024, 1099511627776), (3, 1649267441664, 2199023255552), (4, 2199023255552, 4398046511104), (8, 4398046511104, 8796093022208), (0, 16, 17592186044416), (32, 17592186044416, 35184372088832), (80, 43980465111040, 70368744177664), (255, 70368744177664, 2048)] (by kernel_rfl) (by kernel_rfl) (by kernel_rfl) ?_
        refine DX.takeW 0 1 (by kernel_rfl) rfl rfl rfl rfl rfl (yw_move rfl rfl) ?_
        refine DX.takeW 1 3 (by kernel_rfl) rfl rfl rfl rfl rfl (yw_move rfl rfl) ?_
        refine DX.takeW 2 7 (by kernel_rfl) rfl rfl rfl rfl rfl (yw_index (k := i) rfl slt_22 rfl rfl (by omega) (by omega) hA) ?_
        refine DX.takeW 3 15 (by kernel_rfl) rfl rfl rfl rfl rfl (yw_field0 rfl fld_24_0 rfl) ?_
        refine DX.take 4 31 (by kernel_rfl) rfl rfl rfl rfl rfl (List.Sublist.refl _) (y_elemF (j := 0) rfl rfl one_3 hr (by simp) (map_get hx0) rfl) ?_
        refine DX.takeW 5 63 (by kernel_rfl) rfl rfl rfl rfl rfl (yw_field0 rfl fld_24_0 rfl) ?_
        refine DX.take 6 127 (by kernel_rfl) rfl rfl rfl rfl rfl (List.Sublist.refl _) (y_load (i := 2) rfl rfl one_3 rfl rfl) ?_
        refine DX.takeW 7 255 (by kernel_rfl) rfl rfl rfl rfl rfl (yw_eql rfl rfl rfl) ?_
        refine DX.takeW 8 511 (by kernel_rfl) rfl rfl rfl rfl rfl (yw_assign rfl rfl) ?_
        refine DX.done (by kernel_rfl) (XX.inBlock (V' := [(0, _), (2, _), (4, _), (7, _), (9, _), (10, _), (11, _)]) ⟨rfl, rfl, rfl, rfl, rfl, rfl, rfl, trivial⟩ ?_)
        refine XX.next (V' := [(0, _), (2, _), (4, _), (7, _), (9, _), (10, _), (11, _)]) ⟨rfl, rfl, rfl, rfl, rfl, rfl, rfl, trivial⟩ ?_
        refine CX.seq ?_
        refine CX.region ?_
        refine RX.cons rfl rfl (op_w (yw_move rfl rfl) rfl rfl ?_)
        refine RX.nil (XX.next (V' := [(0, _), (2, _), (4, _), (7, _), (9, _), (10, _), (56, _)]) ⟨rfl, rfl, rfl, rfl, rfl, rfl, rfl, trivial⟩ ?_)
        refine CX.condD (p := Sm.dev x0 = Sm.dev s) rfl (fun c56 => ?_) (fun c56 => ?_)
        · refine CX.region ?_
          refine RX.cons rfl rfl (op_w (yw_move rfl rfl) rfl rfl ?_)
          refine RX.cons rfl rfl (op_w (yw_move rfl rfl) rfl rfl ?_)
          refine RX.cons rfl rfl (op_w (yw_move rfl rfl) rfl rfl ?_)
          refine RX.cons rfl rfl (op_w (yw_index (k := i) rfl slt_22 rfl rfl (by omega) (by omega) hA) rfl rfl ?_)
          refine RX.cons rfl rfl (op_yld (y_elem rfl rfl agg_24 hr (by simp) (map_get hx0)) rfl rfl ?_)
          refine RX.cons rfl rfl (op_buildSlice rfl rfl rfl slb_22 rfl rfl (by intro v hv; simp only [List.mem_cons, List.not_mem_nil, or_false] at hv; subst hv; exact ⟨rfl, (plain_of rfl)⟩) (by decide) fun g7 => ?_)
          refine RX.cons rfl rfl (op_appendM smC (i := 1) (j := 0) (xs := G) ([x0]) rfl rfl rfl slb_22 rfl rfl rfl rfl rfl rfl (by rw [List.length_singleton]; omega) (by rw [List.length_singleton]; omega) fun A5 c5 => ?_)
          refine RX.cons rfl rfl (op_w (yw_assign rfl rfl) rfl rfl ?_)
          refine RX.nil (XX.inBlock (V' := [(0, _), (2, _), (4, _), (7, _), (9, _), (10, _)]) ⟨rfl, rfl, rfl, rfl, rfl, rfl, trivial⟩ ?_)
          refine XX.next (V' := [(0, _), (2, _), (4, _), (7, _), (9, _), (10, _)]) ⟨rfl, rfl, rfl, rfl, rfl, rfl, trivial⟩ ?_
          refine CX.region ?_
          refine RX.cons rfl rfl (op_w (yw_move rfl rfl) rfl rfl ?_)
          refine RX.cons rfl rfl (op_w (yw_add rfl rfl rfl (by omega) (by omega)) rfl rfl ?_)
          refine RX.cons rfl rfl (op_w (yw_assign rfl rfl) rfl rfl ?_)
          refine RX.nil (XX.againP ([.row (some ⟨g7, 0, none⟩) 1 24 9 (List.map smC ([x0]))]) (i + 1, (A5, c5), G ++ [x0]) (by dsimp only; omega) ⟨by dsimp only; omega, by dsimp only; rw [filter_snocB hx0, inGrp_dev c27 c37, decide_eq_true c56, if_pos rfl, hG]⟩ ⟨rfl, rfl, rfl, rfl, rfl, rfl, trivial⟩ ((perm_pick 1 rfl).trans (List.Perm.cons _ ((perm_pick 1 rfl).trans (List.Perm.cons _ ((perm_pick 1 rfl).trans (List.Perm.cons _ (List.Perm.refl _))))))))
        · refine CX.skip (XX.inBlock (V' := [(0, _), (2, _), (4, _), (7, _), (9, _), (10, _)]) ⟨rfl, rfl, rfl, rfl, rfl, rfl, trivial⟩ ?_)
          refine XX.next (V' := [(0, _), (2, _), (4, _), (7, _), (9, _), (10, _)]) ⟨rfl, rfl, rfl, rfl, rfl, rfl, trivial⟩ ?_
          refine CX.region ?_
          refine RX.cons rfl rfl (op_w (yw_move rfl rfl) rfl rfl ?_)
          refine RX.cons rfl rfl (op_w (yw_add rfl rfl rfl (by omega) (by omega)) rfl rfl ?_)
          refine RX.cons rfl rfl (op_w (yw_assign rfl rfl) rfl rfl ?_)
          refine RX.nil (XX.againP ([]) (i + 1, (A4, c4), G) (by dsimp only; omega) ⟨by dsimp only; omega, by dsimp only; rw [filter_snocB hx0, inGrp_dev c27 c37, decide_eq_false c56, if_neg (by decide), List.append_nil, hG]⟩ ⟨rfl, rfl, rfl, rfl, rfl, rfl, trivial⟩ ((perm_pick 0 rfl).trans (List.Perm.cons _ ((perm_pick 0 rfl).trans (List.Perm.cons _ ((perm_pick 0 rfl).trans (List.Perm.cons _ (List.Perm.refl _))))))))
      · refine CX.seq ?_
        refine CX.region ?_
        refine RX.cons rfl rfl (op_w (yw_eql rfl rfl rfl) rfl rfl ?_)
        refine RX.cons rfl rfl (op_w (yw_assign rfl rfl) rfl rfl ?_)
        refine RX.nil (XX.next (V' := [(0, _), (2, _), (4, _), (7, _), (9, _), (10, _), (11, _), (47, _)]) ⟨rfl, rfl, rfl, rfl, rfl, rfl, rfl, rfl, trivial⟩ ?_)
        refine CX.condD (p := k = 3) rfl (fun c47 => ?_) (fun c47 => ?_)
        · refine CX.region ?_
          refine RX.cons rfl rfl (op_w (yw_move rfl rfl) rfl rfl ?_)
          refine RX.cons rfl rfl (op_w (yw_move rfl rfl) rfl rfl ?_)
          refine RX.cons rfl rfl (op_w (yw_move rfl rfl) rfl rfl ?_)
          refine RX.cons rfl rfl (op_w (yw_index (k := i) rfl slt_22 rfl rfl (by omega) (by omega) hA) rfl rfl ?_)
          refine RX.cons rfl rfl (op_w (yw_fieldAddr rfl fld_24_2 rfl) rfl rfl ?_)
          refine RX.cons rfl rfl (op_yld (y_elemF rfl rfl one_3 hr (by simp) (map_get hx0) rfl) rfl rfl ?_)
          refine RX.cons rfl rfl (op_callV (v := .bool (decide ((Sm.acc x0) ∈ As))) rfl rfl rfl rfl rfl ent_31 (fun w hw => w_has11 As (Ent.rd (hw.ents _ (List.mem_of_getElem? (i := 1) rfl))) (by omega) (Sm.acc x0)) ?_)
          refine RX.cons rfl rfl (op_w (yw_assign rfl rfl) rfl rfl ?_)
          refine RX.nil (XX.inBlock (V' := [(0, _), (2, _), (4, _), (7, _), (9, _), (10, _), (11, _)]) ⟨rfl, rfl, rfl, rfl, rfl, rfl, rfl, trivial⟩ ?_)
          refine XX.next (V' := [(0, _), (2, _), (4, _), (7, _), (9, _), (10, _), (11, _)]) ⟨rfl, rfl, rfl, rfl, rfl, rfl, rfl, trivial⟩ ?_
          refine CX.seq ?_
          refine CX.region ?_
          refine RX.cons rfl rfl (op_w (yw_move rfl rfl) rfl rfl ?_)
          refine RX.nil (XX.next (V' := [(0, _), (2, _), (4, _), (7, _), (9, _), (10, _), (56, _)]) ⟨rfl, rfl, rfl, rfl, rfl, rfl, rfl, trivial⟩ ?_)
          refine CX.condD (p := (Sm.acc x0) ∈ As) rfl (fun c56 => ?_) (fun c56 => ?_)
          · refine CX.region ?_
            refine RX.cons rfl rfl (op_w (yw_move rfl rfl) rfl rfl ?_)
            refine RX.cons rfl rfl (op_w (yw_move rfl rfl) rfl rfl ?_)
            refine RX.cons rfl rfl (op_w (yw_move rfl rfl) rfl rfl ?_)
            refine RX.cons rfl rfl (op_w (yw_index (k := i) rfl slt_22 rfl rfl (by omega) (by omega) hA) rfl rfl ?_)
            refine RX.cons rfl rfl (op_yld (y_elem rfl rfl agg_24 hr (by simp) (map_get hx0)) rfl rfl ?_)
            refine RX.cons rfl rfl (op_buildSlice rfl rfl rfl slb_22 rfl rfl (by intro v hv; simp only [List.mem_cons, List.not_mem_nil, or_false] at hv; subst hv; exact ⟨rfl, (plain_of rfl)⟩) (by decide) fun g7 => ?_)
            refine RX.cons rfl rfl (op_appendM smC (i := 1) (j := 0) (xs := G) ([x0]) rfl rfl rfl slb_22 rfl rfl rfl rfl rfl rfl (by rw [List.length_singleton]; omega) (by rw [List.length_singleton]; omega) fun A5 c5 => ?_)
            refine RX.cons rfl rfl (op_w (yw_assign rfl rfl) rfl rfl ?_)
            refine RX.nil (XX.inBlock (V' := [(0, _), (2, _), (4, _), (7, _), (9, _), (10, _)]) ⟨rfl, rfl, rfl, rfl, rfl, rfl, trivial⟩ ?_)
            refine XX.next (V' := [(0, _), (2, _), (4, _), (7, _), (9, _), (10, _)]) ⟨rfl, rfl, rfl, rfl, rfl, rfl, trivial⟩ ?_
            refine CX.region ?_
            refine RX.cons rfl rfl (op_w (yw_move rfl rfl) rfl rfl ?_)
            refine RX.cons rfl rfl (op_w (yw_add rfl rfl rfl (by omega) (by omega)) rfl rfl ?_)
            refine RX.cons rfl rfl (op_w (yw_assign rfl rfl) rfl rfl ?_)
            refine RX.nil (XX.againP ([.row (some ⟨g7, 0, none⟩) 1 24 9 (List.map smC ([x0]))]) (i + 1, (A5, c5), G ++ [x0]) (by dsimp only; omega) ⟨by dsimp only; omega, by dsimp only; rw [filter_snocB hx0, inGrp_clu c27 c37 c47 hAs, decide_eq_true c56, if_pos rfl, hG]⟩ ⟨rfl, rfl, rfl, rfl, rfl, rfl, trivial⟩ ((perm_pick 1 rfl).trans (List.Perm.cons _ ((perm_pick 1 rfl).trans (List.Perm.cons _ ((perm_pick 1 rfl).trans (List.Perm.cons _ (List.Perm.refl _))))))))
          · refine CX.skip (XX.inBlock (V' := [(0, _), (2, _), (4, _), (7, _), (9, _), (10, _)]) ⟨rfl, rfl, rfl, rfl, rfl, rfl, trivial⟩ ?_)
            refine XX.next (V' := [(0, _), (2, _), (4, _), (7, _), (9, _), (10, _)]) ⟨rfl, rfl, rfl, rfl, rfl, rfl, trivial⟩ ?_
            refine CX.region ?_
            refine RX.cons rfl rfl (op_w (yw_move rfl rfl) rfl rfl ?_)
            refine RX.cons rfl rfl (op_w (yw_add rfl rfl rfl (by omega) (by omega)) rfl rfl ?_)
            refine RX.cons rfl rfl (op_w (yw_assign rfl rfl) rfl rfl ?_)
            refine RX.nil (XX.againP ([]) (i + 1, (A4, c4), G) (by dsimp only; omega) ⟨by dsimp only; omega, by dsimp only; rw [filter_snocB hx0, inGrp_clu c27 c37 c47 hAs, decide_eq_false c56, if_neg (by decide), List.append_nil, hG]⟩ ⟨rfl, rfl, rfl, rfl, rfl, rfl, trivial⟩ ((perm_pick 0 rfl).trans (List.Perm.cons _ ((perm_pick 0 rfl).trans (List.Perm.cons _ ((perm_pick 0 rfl).trans (List.Perm.cons _ (List.Perm.refl _))))))))
        · refine CX.skip (XX.inBlock (V' := [(0, _), (2, _), (4, _), (7, _), (9, _), (10, _), (11, _)]) ⟨rfl, rfl, rfl, rfl, rfl, rfl, rfl, trivial⟩ ?_)
          refine XX.next (V' := [(0, _), (2, _), (4, _), (7, _), (9, _), (10, _), (11, _)]) ⟨rfl, rfl, rfl, rfl, rfl, rfl, rfl, trivial⟩ ?_
          refine CX.seq ?_
          refine CX.region ?_
          refine RX.cons rfl rfl (op_w (yw_move rfl rfl) rfl rfl ?_)
          refine RX.nil (XX.next (V' := [(0, _), (2, _), (4, _), (7, _), (9, _), (10, _), (56, _)]) ⟨rfl, rfl, rfl, rfl, rfl, rfl, rfl, trivial⟩ ?_)
          refine CX.condF rfl ?_
          refine CX.skip (XX.inBlock (V' := [(0, _), (2, _), (4, _), (7, _), (9, _), (10, _)]) ⟨rfl, rfl, rfl, rfl, rfl, rfl, trivial⟩ ?_)
          refine XX.next (V' := [(0, _), (2, _), (4, _), (7, _), (9, _), (10, _)]) ⟨rfl, rfl, rfl, rfl, rfl, rfl, trivial⟩ ?_
          refine CX.region ?_
          refine RX.cons rfl rfl (op_w (yw_move rfl rfl) rfl rfl ?_)
          refine RX.cons rfl rfl (op_w (yw_add rfl rfl rfl (by omega) (by omega)) rfl rfl ?_)
          refine RX.cons rfl rfl (op_w (yw_assign rfl rfl) rfl rfl ?_)
          refine RX.nil (XX.againP ([]) (i + 1, (A4, c4), G) (by dsimp only; omega) ⟨by dsimp only; omega, by dsimp only; rw [filter_snocB hx0, inGrp_none c27 c37 c47, if_neg (by decide), List.append_nil, hG]⟩ ⟨rfl, rfl, rfl, rfl, rfl, rfl, trivial⟩ ((perm_pick 0 rfl).trans (List.Perm.cons _ ((perm_pick 0 rfl).trans (List.Perm.cons _ ((perm_pick 0 rfl).trans (List.Perm.cons _ (List.Perm.refl _))))))))
  · rw [List.take_of_length_le (by omega)] at hG
    refine CX.exit ?_
    refine XX.then_exit ?_
    refine XX.then_exit ?_
    refine XX.block_exit ?_
    refine XX.next (V' := [(9, _)]) ⟨rfl, trivial⟩ ?_
    refine CX.seq ?_
    refine CX.region ?_
    refine RX.cons rfl rfl (op_w (yw_move rfl rfl) rfl rfl ?_)
    refine RX.cons rfl rfl (op_w (yw_assign rfl rfl) rfl rfl ?_)
    refine RX.nil (XX.next (V' := [(6, .slice A4 (List.length (G : List Sm)) c4)]) ⟨rfl, trivial⟩ ?_)
    refine CX.ret ?_
    exact ret_tmp rfl rfl fun w1 hw => ⟨(A4, c4), trivial, by rw [grp, ← hG], by rw [grp, ← hG]; exact hw.pick ((perm_pick 0 rfl).trans (List.Perm.cons _ (List.Perm.refl _)))⟩

end Go.Proofs.Ytpcfgoadkfajfaa
namespace Go.Proofs.Ytpcfgoadkfajfaa
set_option linter.all false
open Go Go.RowKit
set_option maxRecDepth 100000
theorem ent_30 : ∀ args w, (callFunc 30 args).run Try.prog w = .ok (.enter 30 args) w := enters_of Try.func30 (by kernel_rfl) rfl
set_option maxRecDepth 100000 in
theorem w_measure11 {w : World} {A : Option Addr} {cap : Nat} (ls : List Sm) (hr : Rd w A 9 (ls.map smC)) (hl : ls.length ≤ 100000) (s : Sm) (k m : Int) :
    Calls Try.prog 16 #[.slice A ls.length cap, .agg (smC s), .int .i64 k, .int .i64 m] w (fun e w' => e = .returned (.int .i64 ((meas ls s k m : Nat) : Int)) ∧ SL w [] w' []) := by
  refine calls_of_CX (O := []) (L := []) (args := [.slice A ls.length cap, .agg (smC s), .int .i64 k, .int .i64 m]) Try.func16 rfl (by simp [Try.ntmps16]) (SL.refl w) ?_
  refine CX.sub (V' := [(0, .slice A ls.length cap), (1, .agg (smC s)), (2, .int .i64 k), (3, .int .i64 m)]) ⟨rfl, rfl, rfl, rfl, trivial⟩ ?_
  refine CX.seq ?_
  refine CX.region ?_
  refine RX.cons rfl rfl (op_box rfl rfl rfl rfl fun g5 => ?_)
  refine RX.cons rfl rfl (op_w (yw_assign rfl rfl) rfl rfl ?_)
  refine RX.nil (XX.next (V' := [(0, _), (2, _), (3, _), (5, _)]) ⟨rfl, rfl, rfl, rfl, trivial⟩ ?_)
  refine CX.seq ?_
  refine CX.region ?_
  refine RX.cons rfl rfl (op_w (yw_move rfl rfl) rfl rfl ?_)
  refine RX.cons rfl rfl (op_yld (y_loadA (i := 0) rfl rfl agg_24 rfl rfl) rfl rfl ?_)
  refine RX.cons rfl rfl (op_w (yw_move rfl rfl) rfl rfl ?_)
  refine RX.cons rfl rfl (op_callE rfl rfl rfl rfl rfl ent_30 (fun w hw => w_group11 ls (hw.rd hr (by simp)) hl s k) (fun ⟨A1, c1⟩ _ => ?_))
  refine RX.cons rfl rfl (op_w (yw_assign rfl rfl) rfl rfl ?_)
  refine RX.nil (XX.next (V' := [(3, _), (9, _)]) ⟨rfl, rfl, trivial⟩ ?_)
  refine CX.seq ?_
  refine CX.region ?_
  refine RX.cons rfl rfl (op_w (yw_assign rfl rfl) rfl rfl ?_)
  refine RX.nil (XX.next (V' := [(3, _), (9, _), (10, _)]) ⟨rfl, rfl, rfl, trivial⟩ ?_)
  refine CX.seq ?_
  refine CX.seq ?_
  refine CX.region ?_
  refine RX.cons rfl rfl (op_w (yw_assign rfl rfl) rfl rfl ?_)
  refine RX.nil (XX.next (V' := [(3, _), (9, _), (10, _), (11, _)]) ⟨rfl, rfl, rfl, rfl, trivial⟩ ?_)
  refine CX.block ?_
  refine CX.rowNil 3 1 ?_
  have hgl : (grp ls s k).length ≤ ls.length := List.length_filter_le _ _
  refine CX.perm (L' := [.row none 0 3 1 (List.map iR ([])), .row A1 c1 24 9 (List.map smC (grp ls s k)), .blk g5 (.cells (smC s) 24 (0, 0))]) ((perm_pick 0 rfl).trans (List.Perm.cons _ ((perm_pick 0 rfl).trans (List.Perm.cons _ ((perm_pick 0 rfl).trans (List.Perm.cons _ (List.Perm.refl _))))))) ?_
  refine CX.loop (σ := Nat × (Option Addr × Nat) × List Int) (fun z => [(3, .int .i64 m), (9, .slice A1 (List.length ((grp ls s k) : List Sm)) c1), (10, .slice z.2.1.1 (List.length (z.2.2 : List Int)) z.2.1.2), (11, .int .i64 ((z.1 : Nat) : Int))]) (fun z => [.row z.2.1.1 z.2.1.2 3 1 (List.map iR z.2.2), .row A1 c1 24 9 (List.map smC (grp ls s k)), .blk g5 (.cells (smC s) 24 (0, 0))]) (fun z => z.1 ≤ (grp ls s k).length ∧ z.2.2.length ≤ z.1 ∧ SeenOk m (grp ls s k) z.1 z.2.2 ∧ (¬ (1 ≤ m ∧ m ≤ 4) → z.1 = 0)) (fun z => (grp ls s k).length - z.1) (0, (none, 0), []) ⟨Nat.zero_le _, Nat.le_refl _, SeenOk.nil _ _, fun _ => rfl⟩ ⟨rfl, rfl, rfl, rfl, trivial⟩ rfl (fun z hI => ?_)
  obtain ⟨i, ⟨A2, c2⟩, ys⟩ := z
  dsimp only at hI ⊢
  obtain ⟨hi, hyn, hse, hm0⟩ := hI
  refine CX.seq ?_
  refine CX.seq ?_
  refine CX.region ?_
  refine RX.cons rfl rfl (op_w (yw_move rfl rfl) rfl rfl ?_)
  refine RX.cons rfl rfl (op_w (yw_move rfl rfl) rfl rfl ?_)
  refine RX.cons rfl rfl (op_w (yw_lenS rfl Try.underlying22 rfl) rfl rfl ?_)
  refine RX.cons rfl rfl (op_w (yw_lss rfl rfl rfl) rfl rfl ?_)
  refine RX.nil (XX.next (V' := [(3, _), (9, _), (10, _), (11, _), (21, _)]) ⟨rfl, rfl, rfl, rfl, rfl, trivial⟩ ?_)
  refine CX.condD (p := ((i : Nat) : Int) < ((List.length ((grp ls s k) : List Sm) : Nat) : Int)) rfl (fun c21 => ?_) (fun c21 => ?_)
  · obtain ⟨x0, hx0⟩ := get_some (l := (grp ls s k)) (k := i) (by omega)
    have hx0m := List.mem_of_getElem? hx0
    refine CX.rowSome 1 rfl (by rw [List.length_map]; omega) (fun hA1 => ?_)
    refine CX.skip (XX.next (V' := [(3, _), (9, _), (10, _), (11, _)]) ⟨rfl, rfl, rfl, rfl, trivial⟩ ?_)
    refine CX.seq ?_
    refine CX.block ?_
    refine CX.seq ?_
    refine CX.region ?_
    refine RX.cons rfl rfl (op_w (yw_assign rfl rfl) rfl rfl ?_)
    refine RX.nil (XX.next (V' := [(3, _), (9, _), (10, _), (11, _)]) ⟨rfl, rfl, rfl, rfl, trivial⟩ ?_)
    refine CX.seq ?_
    refine CX.seq ?_
    refine CX.region ?_
    refine RX.cons rfl rfl (op_w (yw_move rfl rfl) rfl rfl ?_)
    refine RX.nil (XX.next (V' := [(3, _), (9, _), (10, _), (11, _), (24, _)]) ⟨rfl, rfl, rfl, rfl, rfl, trivial⟩ ?_)
    refine CX.block ?_
    refine CX.seq ?_
    refine CX.region ?_
    refine RX.cons rfl rfl (op_w (yw_eql rfl rfl rfl) rfl rfl ?_)
    refine RX.cons rfl rfl (op_w (yw_assign rfl rfl) rfl rfl ?_)
    refine RX.nil (XX.next (V' := [(3, _), (9, _), (10, _), (11, _), (24, _), (25, _)]) ⟨rfl, rfl, rfl, rfl, rfl, rfl, trivial⟩ ?_)
    refine CX.condD (p := m = 1) rfl (fun c25 => ?_) (fun c25 => ?_)
    · refine CX.region ?_
      refine RX.cons rfl rfl (op_w (yw_move rfl rfl) rfl rfl ?_)
      refine RX.cons rfl rfl (op_w (yw_assign rfl rfl) rfl rfl ?_)
      refine RX.nil (XX.inBlock (V' := [(3, _), (9, _), (10, _), (11, _), (12, _)]) ⟨rfl, rfl, rfl, rfl, rfl, trivial⟩ ?_)
      refine XX.next (V' := [(3, _), (9, _), (10, _), (11, _), (12, _)]) ⟨rfl, rfl, rfl, rfl, rfl, trivial⟩ ?_
      refine CX.seq ?_
      refine CX.region ?_
      refine RX.cons rfl rfl (op_w (yw_move rfl rfl) rfl rfl ?_)
      refine RX.cons rfl rfl (op_w (yw_move rfl rfl) rfl rfl ?_)
      refine RX.cons rfl rfl (op_callV (v := .bool (decide (((i : Nat) : Int) ∈ ys))) rfl rfl rfl rfl rfl ent_31 (fun w hw => w_has11 ys (Ent.rd (hw.ents _ (List.mem_of_getElem? (i := 0) rfl))) (by omega) ((i : Nat) : Int)) ?_)
      refine RX.cons rfl rfl (op_w (yw_assign rfl rfl) rfl rfl ?_)
      refine RX.nil (XX.next (V' := [(3, _), (9, _), (10, _), (11, _), (12, _), (13, _)]) ⟨rfl, rfl, rfl, rfl, rfl, rfl, trivial⟩ ?_)
      refine CX.seq ?_
      refine CX.region ?_
      refine RX.cons rfl rfl (op_w (yw_move rfl rfl) rfl rfl ?_)
      refine RX.cons rfl rfl (op_w (yw_notD rfl rfl) rfl rfl ?_)
      refine RX.nil (XX.next (V' := [(3, _), (9, _), (10, _), (11, _), (12, _), (53, _)]) ⟨rfl, rfl, rfl, rfl, rfl, rfl, trivial⟩ ?_)
      refine CX.condD (p := ¬ (((i : Nat) : Int) ∈ ys)) rfl (fun c53 => ?_) (fun c53 => ?_)
      · refine CX.region ?_
        refine RX.cons rfl rfl (op_w (yw_move rfl rfl) rfl rfl ?_)
        refine RX.cons rfl rfl (op_w (yw_move rfl rfl) rfl rfl ?_)
        refine RX.cons rfl rfl (op_buildSlice rfl rfl rfl slb_36 rfl rfl (by intro v hv; simp only [List.mem_cons, List.not_mem_nil, or_false] at hv; subst hv; exact ⟨rfl, (plain_of rfl)⟩) (by decide) fun g9 => ?_)
        refine RX.cons rfl rfl (op_appendM iR (i := 1) (j := 0) (xs := ys) ([((i : Nat) : Int)]) rfl rfl rfl slb_36 rfl rfl rfl rfl rfl rfl (by rw [List.length_singleton]; omega) (by rw [List.length_singleton]; omega) fun A3 c3 => ?_)
        refine RX.cons rfl rfl (op_w (yw_assign rfl rfl) rfl rfl ?_)
        refine RX.nil (XX.inBlock (V' := [(3, _), (9, _), (10, _), (11, _)]) ⟨rfl, rfl, rfl, rfl, trivial⟩ ?_)
        refine XX.next (V' := [(3, _), (9, _), (10, _), (11, _)]) ⟨rfl, rfl, rfl, rfl, trivial⟩ ?_
        refine CX.region ?_
        refine RX.cons rfl rfl (op_w (yw_move rfl rfl) rfl rfl ?_)
        refine RX.cons rfl rfl (op_w (yw_add rfl rfl rfl (by omega) (by omega)) rfl rfl ?_)
        refine RX.cons rfl rfl (op_w (yw_assign rfl rfl) rfl rfl ?_)
        refine RX.nil (XX.againP ([.row (some ⟨g9, 0, none⟩) 1 3 1 (List.map iR ([((i : Nat) : Int)]))]) (i + 1, (A3, c3), ys ++ [((i : Nat) : Int)]) (by dsimp only; omega) ⟨by dsimp only; omega, by dsimp only; (first | rw [List.length_append, List.length_singleton] | skip); omega, hse.more hx0 (if_pos c25) c53, fun h => absurd (by omega) h⟩ ⟨rfl, rfl, rfl, rfl, trivial⟩ ((perm_pick 1 rfl).trans (List.Perm.cons _ ((perm_pick 1 rfl).trans (List.Perm.cons _ ((perm_pick 1 rfl).trans (List.Perm.cons _ (List.Perm.refl _))))))))
      · refine CX.skip (XX.inBlock (V' := [(3, _), (9, _), (10, _), (11, _)]) ⟨rfl, rfl, rfl, rfl, trivial⟩ ?_)
        refine XX.next (V' := [(3, _), (9, _), (10, _), (11, _)]) ⟨rfl, rfl, rfl, rfl, trivial⟩ ?_
        refine CX.region ?_
        refine RX.cons rfl rfl (op_w (yw_move rfl rfl) rfl rfl ?_)
        refine RX.cons rfl rfl (op_w (yw_add rfl rfl rfl (by omega) (by omega)) rfl rfl ?_)
        refine RX.cons rfl rfl (op_w (yw_assign rfl rfl) rfl rfl ?_)
        refine RX.nil (XX.againP ([]) (i + 1, (A2, c2), ys) (by dsimp only; omega) ⟨by dsimp only; omega, by dsimp only; (first | rw [List.length_append, List.length_singleton] | skip); omega, hse.known hx0 (if_pos c25) (by simpa using c53), fun h => absurd (by omega) h⟩ ⟨rfl, rfl, rfl, rfl, trivial⟩ ((perm_pick 0 rfl).trans (List.Perm.cons _ ((perm_pick 0 rfl).trans (List.Perm.cons _ ((perm_pick 0 rfl).trans (List.Perm.cons _ (List.Perm.refl _))))))))
    · refine CX.seq ?_
      refine CX.region ?_
      refine RX.cons rfl rfl (op_w (yw_eql rfl rfl rfl) rfl rfl ?_)
      refine RX.cons rfl rfl (op_w (yw_assign rfl rfl) rfl rfl ?_)
      refine RX.nil (XX.next (V' := [(3, _), (9, _), (10, _), (11, _), (24, _), (28, _)]) ⟨rfl, rfl, rfl, rfl, rfl, rfl, trivial⟩ ?_)
      refine CX.condD (p := m = 2) rfl (fun c28 => ?_) (fun c28 => ?_)
      · refine CX.region ?_
        refine RX.cons rfl rfl (op_w (yw_move rfl rfl) rfl rfl ?_)
        refine RX.cons rfl rfl (op_w (yw_move rfl rfl) rfl rfl ?_)
        refine RX.cons rfl rfl (op_w (yw_index (k := i) rfl slt_22 rfl rfl (by omega) (by omega) hA1) rfl rfl ?_)
        refine RX.cons rfl rfl (op_w (yw_fieldAddr rfl fld_24_2 rfl) rfl rfl ?_)
        refine RX.cons rfl rfl (op_yld (y_rowElemF (i := 1) rfl rfl one_3 rfl (map_get hx0) rfl) rfl rfl ?_)
        refine RX.cons rfl rfl (op_w (yw_assign rfl rfl) rfl rfl ?_)
        refine RX.nil (XX.inBlock (V' := [(3, _), (9, _), (10, _), (11, _), (12, _)]) ⟨rfl, rfl, rfl, rfl, rfl, trivial⟩ ?_)
        refine XX.next (V' := [(3, _), (9, _), (10, _), (11, _), (12, _)]) ⟨rfl, rfl, rfl, rfl, rfl, trivial⟩ ?_
        refine CX.seq ?_
        refine CX.region ?_
        refine RX.cons rfl rfl (op_w (yw_move rfl rfl) rfl rfl ?_)
        refine RX.cons rfl rfl (op_w (yw_move rfl rfl) rfl rfl ?_)
        refine RX.cons rfl rfl (op_callV (v := .bool (decide ((Sm.acc x0) ∈ ys))) rfl rfl rfl rfl rfl ent_31 (fun w hw => w_has11 ys (Ent.rd (hw.ents _ (List.mem_of_getElem? (i := 0) rfl))) (by omega) (Sm.acc x0)) ?_)
        refine RX.cons rfl rfl (op_w (yw_assign rfl rfl) rfl rfl ?_)
        refine RX.nil (XX.next (V' := [(3, _), (9, _), (10, _), (11, _), (12, _), (13, _)]) ⟨rfl, rfl, rfl, rfl, rfl, rfl, trivial⟩ ?_)
        refine CX.seq ?_
        refine CX.region ?_
        refine RX.cons rfl rfl (op_w (yw_move rfl rfl) rfl rfl ?_)
        refine RX.cons rfl rfl (op_w (yw_notD rfl rfl) rfl rfl ?_)
        refine RX.nil (XX.next (V' := [(3, _), (9, _), (10, _), (11, _), (12, _), (53, _)]) ⟨rfl, rfl, rfl, rfl, rfl, rfl, trivial⟩ ?_)
        refine CX.condD (p := ¬ ((Sm.acc x0) ∈ ys)) rfl (fun c53 => ?_) (fun c53 => ?_)
        · refine CX.region ?_
          refine RX.cons rfl rfl (op_w (yw_move rfl rfl) rfl rfl ?_)
          refine RX.cons rfl rfl (op_w (yw_move rfl rfl) rfl rfl ?_)
          refine RX.cons rfl rfl (op_buildSlice rfl rfl rfl slb_36 rfl rfl (by intro v hv; simp only [List.mem_cons, List.not_mem_nil, or_false] at hv; subst hv; exact ⟨rfl, (plain_of rfl)⟩) (by decide) fun g9 => ?_)
          refine RX.cons rfl rfl (op_appendM iR (i := 1) (j := 0) (xs := ys) ([Sm.acc x0]) rfl rfl rfl slb_36 rfl rfl rfl rfl rfl rfl (by rw [List.length_singleton]; omega) (by rw [List.length_singleton]; omega) fun A3 c3 => ?_)
          refine RX.cons rfl rfl (op_w (yw_assign rfl rfl) rfl rfl ?_)
          refine RX.nil (XX.inBlock (V' := [(3, _), (9, _), (10, _), (11, _)]) ⟨rfl, rfl, rfl, rfl, trivial⟩ ?_)
          refine XX.next (V' := [(3, _), (9, _), (10, _), (11, _)]) ⟨rfl, rfl, rfl, rfl, trivial⟩ ?_
          refine CX.region ?_
          refine RX.cons rfl rfl (op_w (yw_move rfl rfl) rfl rfl ?_)
          refine RX.cons rfl rfl (op_w (yw_add rfl rfl rfl (by omega) (by omega)) rfl rfl ?_)
          refine RX.cons rfl rfl (op_w (yw_assign rfl rfl) rfl rfl ?_)
          refine RX.nil (XX.againP ([.row (some ⟨g9, 0, none⟩) 1 3 1 (List.map iR ([Sm.acc x0]))]) (i + 1, (A3, c3), ys ++ [Sm.acc x0]) (by dsimp only; omega) ⟨by dsimp only; omega, by dsimp only; (first | rw [List.length_append, List.length_singleton] | skip); omega, hse.more hx0 ((if_neg c25).trans (if_pos c28)) c53, fun h => absurd (by omega) h⟩ ⟨rfl, rfl, rfl, rfl, trivial⟩ ((perm_pick 1 rfl).trans (List.Perm.cons _ ((perm_pick 1 rfl).trans (List.Perm.cons _ ((perm_pick 1 rfl).trans (List.Perm.cons _ (List.Perm.refl _))))))))
        · refine CX.skip (XX.inBlock (V' := [(3, _), (9, _), (10, _), (11, _)]) ⟨rfl, rfl, rfl, rfl, trivial⟩ ?_)
          refine XX.next (V' := [(3, _), (9, _), (10, _), (11, _)]) ⟨rfl, rfl, rfl, rfl, trivial⟩ ?_
          refine CX.region ?_
          refine RX.cons rfl rfl (op_w (yw_move rfl rfl) rfl rfl ?_)
          refine RX.cons rfl rfl (op_w (yw_add rfl rfl rfl (by omega) (by omega)) rfl rfl ?_)
          refine RX.cons rfl rfl (op_w (yw_assign rfl rfl) rfl rfl ?_)
          refine RX.nil (XX.againP ([]) (i + 1, (A2, c2), ys) (by dsimp only; omega) ⟨by dsimp only; omega, by dsimp only; (first | rw [List.length_append, List.length_singleton] | skip); omega, hse.known hx0 ((if_neg c25).trans (if_pos c28)) (by simpa using c53), fun h => absurd (by omega) h⟩ ⟨rfl, rfl, rfl, rfl, trivial⟩ ((perm_pick 0 rfl).trans (List.Perm.cons _ ((perm_pick 0 rfl).trans (List.Perm.cons _ ((perm_pick 0 rfl).trans (List.Perm.cons _ (List.Perm.refl _))))))))
      · refine CX.seq ?_
        refine CX.region ?_
        refine RX.cons rfl rfl (op_w (yw_eql rfl rfl rfl) rfl rfl ?_)
        refine RX.cons rfl rfl (op_w (yw_assign rfl rfl) rfl rfl ?_)
        refine RX.nil (XX.next (V' := [(3, _), (9, _), (10, _), (11, _), (24, _), (35, _)]) ⟨rfl, rfl, rfl, rfl, rfl, rfl, trivial⟩ ?_)
        refine CX.condD (p := m = 3) rfl (fun c35 => ?_) (fun c35 => ?_)
        · refine CX.region ?_
          refine RX.cons rfl rfl (op_w (yw_move rfl rfl) rfl rfl ?_)
          refine RX.cons rfl rfl (op_w (yw_move rfl rfl) rfl rfl ?_)
          refine RX.cons rfl rfl (op_w (yw_index (k := i) rfl slt_22 rfl rfl (by omega) (by omega) hA1) rfl rfl ?_)
          refine RX.cons rfl rfl (op_w (yw_field0 rfl fld_24_0 rfl) rfl rfl ?_)
          refine RX.cons rfl rfl (op_yld (y_rowElemF (j := 0) (i := 1) rfl rfl one_3 rfl (map_get hx0) rfl) rfl rfl ?_)
          refine RX.cons rfl rfl (op_w (yw_assign rfl rfl) rfl rfl ?_)
          refine RX.nil (XX.inBlock (V' := [(3, _), (9, _), (10, _), (11, _), (12, _)]) ⟨rfl, rfl, rfl, rfl, rfl, trivial⟩ ?_)
          refine XX.next (V' := [(3, _), (9, _), (10, _), (11, _), (12, _)]) ⟨rfl, rfl, rfl, rfl, rfl, trivial⟩ ?_
          refine CX.seq ?_
          refine CX.region ?_
          refine RX.cons rfl rfl (op_w (yw_move rfl rfl) rfl rfl ?_)
          refine RX.cons rfl rfl (op_w (yw_move rfl rfl) rfl rfl ?_)
          refine RX.cons rfl rfl (op_callV (v := .bool (decide ((Sm.dev x0) ∈ ys))) rfl rfl rfl rfl rfl ent_31 (fun w hw => w_has11 ys (Ent.rd (hw.ents _ (List.mem_of_getElem? (i := 0) rfl))) (by omega) (Sm.dev x0)) ?_)
          refine RX.cons rfl rfl (op_w (yw_assign rfl rfl) rfl rfl ?_)
          refine RX.nil (XX.next (V' := [(3, _), (9, _), (10, _), (11, _), (12, _), (13, _)]) ⟨rfl, rfl, rfl, rfl, rfl, rfl, trivial⟩ ?_)
          refine CX.seq ?_
          refine CX.region ?_
          refine RX.cons rfl rfl (op_w (yw_move rfl rfl) rfl rfl ?_)
          refine RX.cons rfl rfl (op_w (yw_notD rfl rfl) rfl rfl ?_)
          refine RX.nil (XX.next (V' := [(3, _), (9, _), (10, _), (11, _), (12, _), (53, _)]) ⟨rfl, rfl, rfl, rfl, rfl, rfl, trivial⟩ ?_)
          refine CX.condD (p := ¬ ((Sm.dev x0) ∈ ys)) rfl (fun c53 => ?_) (fun c53 => ?_)
          · refine CX.region ?_
            refine RX.cons rfl rfl (op_w (yw_move rfl rfl) rfl rfl ?_)
            refine RX.cons rfl rfl (op_w (yw_move rfl rfl) rfl rfl ?_)
            refine RX.cons rfl rfl (op_buildSlice rfl rfl rfl slb_36 rfl rfl (by intro v hv; simp only [List.mem_cons, List.not_mem_nil, or_false] at hv; subst hv; exact ⟨rfl, (plain_of rfl)⟩) (by decide) fun g9 => ?_)
            refine RX.cons rfl rfl (op_appendM iR (i := 1) (j := 0) (xs := ys) ([Sm.dev x0]) rfl rfl rfl slb_36 rfl rfl rfl rfl rfl rfl (by rw [List.length_singleton]; omega) (by rw [List.length_singleton]; omega) fun A3 c3 => ?_)
            refine RX.cons rfl rfl (op_w (yw_assign rfl rfl) rfl rfl ?_)
            refine RX.nil (XX.inBlock (V' := [(3, _), (9, _), (10, _), (11, _)]) ⟨rfl, rfl, rfl, rfl, trivial⟩ ?_)
            refine XX.next (V' := [(3, _), (9, _), (10, _), (11, _)]) ⟨rfl, rfl, rfl, rfl, trivial⟩ ?_
            refine CX.region ?_
            refine RX.cons rfl rfl (op_w (yw_move rfl rfl) rfl rfl ?_)
            refine RX.cons rfl rfl (op_w (yw_add rfl rfl rfl (by omega) (by omega)) rfl rfl ?_)
            refine RX.cons rfl rfl (op_w (yw_assign rfl rfl) rfl rfl ?_)
            refine RX.nil (XX.againP ([.row (some ⟨g9, 0, none⟩) 1 3 1 (List.map iR ([Sm.dev x0]))]) (i + 1, (A3, c3), ys ++ [Sm.dev x0]) (by dsimp only; omega) ⟨by dsimp only; omega, by dsimp only; (first | rw [List.length_append, List.length_singleton] | skip); omega, hse.more hx0 ((if_neg c25).trans ((if_neg c28).trans (if_pos c35))) c53, fun h => absurd (by omega) h⟩ ⟨rfl, rfl, rfl, rfl, trivial⟩ ((perm_pick 1 rfl).trans (List.Perm.cons _ ((perm_pick 1 rfl).trans (List.Perm.cons _ ((perm_pick 1 rfl).trans (List.Perm.cons _ (List.Perm.refl _))))))))
          · refine CX.skip (XX.inBlock (V' := [(3, _), (9, _), (10, _), (11, _)]) ⟨rfl, rfl, rfl, rfl, trivial⟩ ?_)
            refine XX.next (V' := [(3, _), (9, _), (10, _), (11, _)]) ⟨rfl, rfl, rfl, rfl, trivial⟩ ?_
            refine CX.region ?_
            refine RX.cons rfl rfl (op_w (yw_move rfl rfl) rfl rfl ?_)
            refine RX.cons rfl rfl (op_w (yw_add rfl rfl rfl (by omega) (by omega)) rfl rfl ?_)
            refine RX.cons rfl rfl (op_w (yw_assign rfl rfl) rfl rfl ?_)
            refine RX.nil (XX.againP ([]) (i + 1, (A2, c2), ys) (by dsimp only; omega) ⟨by dsimp only; omega, by dsimp only; (first | rw [List.length_append, List.length_singleton] | skip); omega, hse.known hx0 ((if_neg c25).trans ((if_neg c28).trans (if_pos c35))) (by simpa using c53), fun h => absurd (by omega) h⟩ ⟨rfl, rfl, rfl, rfl, trivial⟩ ((perm_pick 0 rfl).trans (List.Perm.cons _ ((perm_pick 0 rfl).trans (List.Perm.cons _ ((perm_pick 0 rfl).trans (List.Perm.cons _ (List.Perm.refl _))))))))
        · refine CX.seq ?_
          refine CX.region ?_
          refine RX.cons rfl rfl (op_w (yw_eql rfl rfl rfl) rfl rfl ?_)
          refine RX.cons rfl rfl (op_w (yw_assign rfl rfl) rfl rfl ?_)
          refine RX.nil (XX.next (V' := [(3, _), (9, _), (10, _), (11, _), (42, _)]) ⟨rfl, rfl, rfl, rfl, rfl, trivial⟩ ?_)
          refine CX.condD (p := m = 4) rfl (fun c42 => ?_) (fun c42 => ?_)
          · refine CX.region ?_
            refine RX.cons rfl rfl (op_w (yw_move rfl rfl) rfl rfl ?_)
            refine RX.cons rfl rfl (op_w (yw_move rfl rfl) rfl rfl ?_)
            refine RX.cons rfl rfl (op_w (yw_index (k := i) rfl slt_22 rfl rfl (by omega) (by omega) hA1) rfl rfl ?_)
            refine RX.cons rfl rfl (op_w (yw_fieldAddr rfl fld_24_3 rfl) rfl rfl ?_)
            refine RX.cons rfl rfl (op_yld (y_rowElemF (i := 1) rfl rfl one_3 rfl (map_get hx0) rfl) rfl rfl ?_)
            refine RX.cons rfl rfl (op_w (yw_assign rfl rfl) rfl rfl ?_)
            refine RX.nil (XX.inBlock (V' := [(3, _), (9, _), (10, _), (11, _), (12, _)]) ⟨rfl, rfl, rfl, rfl, rfl, trivial⟩ ?_)
            refine XX.next (V' := [(3, _), (9, _), (10, _), (11, _), (12, _)]) ⟨rfl, rfl, rfl, rfl, rfl, trivial⟩ ?_
            refine CX.seq ?_
            refine CX.region ?_
            refine RX.cons rfl rfl (op_w (yw_move rfl rfl) rfl rfl ?_)
            refine RX.cons rfl rfl (op_w (yw_move rfl rfl) rfl rfl ?_)
            refine RX.cons rfl rfl (op_callV (v := .bool (decide ((Sm.song x0) ∈ ys))) rfl rfl rfl rfl rfl ent_31 (fun w hw => w_has11 ys (Ent.rd (hw.ents _ (List.mem_of_getElem? (i := 0) rfl))) (by omega) (Sm.song x0)) ?_)
            refine RX.cons rfl rfl (op_w (yw_assign rfl rfl) rfl rfl ?_)
            refine RX.nil (XX.next (V' := [(3, _), (9, _), (10, _), (11, _), (12, _), (13, _)]) ⟨rfl, rfl, rfl, rfl, rfl, rfl, trivial⟩ ?_)
            refine CX.seq ?_
            refine CX.region ?_
            refine RX.cons rfl rfl (op_w (yw_move rfl rfl) rfl rfl ?_)
            refine RX.cons rfl rfl (op_w (yw_notD rfl rfl) rfl rfl ?_)
            refine RX.nil (XX.next (V' := [(3, _), (9, _), (10, _), (11, _), (12, _), (53, _)]) ⟨rfl, rfl, rfl, rfl, rfl, rfl, trivial⟩ ?_)
            refine CX.condD (p := ¬ ((Sm.song x0) ∈ ys)) rfl (fun c53 => ?_) (fun c53 => ?_)
            · refine CX.region ?_
              refine RX.cons rfl rfl (op_w (yw_move rfl rfl) rfl rfl ?_)
              refine RX.cons rfl rfl (op_w (yw_move rfl rfl) rfl rfl ?_)
              refine RX.cons rfl rfl (op_buildSlice rfl rfl rfl slb_36 rfl rfl (by intro v hv; simp only [List.mem_cons, List.not_mem_nil, or_false] at hv; subst hv; exact ⟨rfl, (plain_of rfl)⟩) (by decide) fun g9 => ?_)
              refine RX.cons rfl rfl (op_appendM iR (i := 1) (j := 0) (xs := ys) ([Sm.song x0]) rfl rfl rfl slb_36 rfl rfl rfl rfl rfl rfl (by rw [List.length_singleton]; omega) (by rw [List.length_singleton]; omega) fun A3 c3 => ?_)
              refine RX.cons rfl rfl (op_w (yw_assign rfl rfl) rfl rfl ?_)
              refine RX.nil (XX.inBlock (V' := [(3, _), (9, _), (10, _), (11, _)]) ⟨rfl, rfl, rfl, rfl, trivial⟩ ?_)
              refine XX.next (V' := [(3, _), (9, _), (10, _), (11, _)]) ⟨rfl, rfl, rfl, rfl, trivial⟩ ?_
              refine CX.region ?_
              refine RX.cons rfl rfl (op_w (yw_move rfl rfl) rfl rfl ?_)
              refine RX.cons rfl rfl (op_w (yw_add rfl rfl rfl (by omega) (by omega)) rfl rfl ?_)
              refine RX.cons rfl rfl (op_w (yw_assign rfl rfl) rfl rfl ?_)
              refine RX.nil (XX.againP ([.row (some ⟨g9, 0, none⟩) 1 3 1 (List.map iR ([Sm.song x0]))]) (i + 1, (A3, c3), ys ++ [Sm.song x0]) (by dsimp only; omega) ⟨by dsimp only; omega, by dsimp only; (first | rw [List.length_append, List.length_singleton] | skip); omega, hse.more hx0 ((if_neg c25).trans ((if_neg c28).trans (if_neg c35))) c53, fun h => absurd (by omega) h⟩ ⟨rfl, rfl, rfl, rfl, trivial⟩ ((perm_pick 1 rfl).trans (List.Perm.cons _ ((perm_pick 1 rfl).trans (List.Perm.cons _ ((perm_pick 1 rfl).trans (List.Perm.cons _ (List.Perm.refl _))))))))
            · refine CX.skip (XX.inBlock (V' := [(3, _), (9, _), (10, _), (11, _)]) ⟨rfl, rfl, rfl, rfl, trivial⟩ ?_)
              refine XX.next (V' := [(3, _), (9, _), (10, _), (11, _)]) ⟨rfl, rfl, rfl, rfl, trivial⟩ ?_
              refine CX.region ?_
              refine RX.cons rfl rfl (op_w (yw_move rfl rfl) rfl rfl ?_)
              refine RX.cons rfl rfl (op_w (yw_add rfl rfl rfl (by omega) (by omega)) rfl rfl ?_)
              refine RX.cons rfl rfl (op_w (yw_assign rfl rfl) rfl rfl ?_)
              refine RX.nil (XX.againP ([]) (i + 1, (A2, c2), ys) (by dsimp only; omega) ⟨by dsimp only; omega, by dsimp only; (first | rw [List.length_append, List.length_singleton] | skip); omega, hse.known hx0 ((if_neg c25).trans ((if_neg c28).trans (if_neg c35))) (by simpa using c53), fun h => absurd (by omega) h⟩ ⟨rfl, rfl, rfl, rfl, trivial⟩ ((perm_pick 0 rfl).trans (List.Perm.cons _ ((perm_pick 0 rfl).trans (List.Perm.cons _ ((perm_pick 0 rfl).trans (List.Perm.cons _ (List.Perm.refl _))))))))
          · refine CX.seq ?_
            refine CX.region ?_
            refine RX.cons rfl rfl (op_w (yw_assign rfl rfl) rfl rfl ?_)
            refine RX.nil (XX.next (V' := [(8, .int .i64 0)]) ⟨rfl, trivial⟩ ?_)
            refine CX.ret ?_
            refine XX.block_ret ?_
            refine XX.then_ret ?_
            refine XX.block_ret ?_
            refine XX.then_ret ?_
            refine XX.then_ret ?_
            refine XX.block_ret ?_
            refine XX.then_ret ?_
            exact ret_tmp rfl rfl fun w1 hw => ⟨by rw [meas, cnt_none _ (by omega)]; rfl, hw.sub (List.nil_sublist _)⟩
  · obtain rfl : i = (grp ls s k).length := by omega
    refine CX.exit ?_
    refine XX.then_exit ?_
    refine XX.then_exit ?_
    refine XX.block_exit ?_
    refine XX.next (V' := [(10, _)]) ⟨rfl, trivial⟩ ?_
    refine CX.seq ?_
    refine CX.region ?_
    refine RX.cons rfl rfl (op_w (yw_move rfl rfl) rfl rfl ?_)
    refine RX.cons rfl rfl (op_w (yw_lenS rfl Try.underlying36 rfl) rfl rfl ?_)
    refine RX.cons rfl rfl (op_w (yw_assign rfl rfl) rfl rfl ?_)
    refine RX.nil (XX.next (V' := [(8, .int .i64 ((List.length (ys : List Int) : Nat) : Int))]) ⟨rfl, trivial⟩ ?_)
    refine CX.ret ?_
    exact ret_tmp rfl rfl fun w1 hw => ⟨by rw [meas, hse.fin hm0 hyn], hw.sub (List.nil_sublist _)⟩

end Go.Proofs.Ytpcfgoadkfajfaa
namespace Go.Proofs.Ytpcfgoadkfajfaa
set_option linter.all false
open Go Go.RowKit
set_option maxRecDepth 100000
theorem ent_54 : ∀ args w, (callFunc 54 args).run Try.prog w = .ok (.enter 54 args) w := enters_of Try.func54 (by kernel_rfl) rfl
theorem ent_16 : ∀ args w, (callFunc 16 args).run Try.prog w = .ok (.enter 16 args) w := enters_of Try.func16 (by kernel_rfl) rfl
theorem match_yes {rs : List Ru} {ls : List Sm} {s : Sm} {a : Int} {x : Ru} (hx : x ∈ rs) (hf : ¬ (∃ x ∈ rs, okR x = true ∧ Ru.act x = 3 ∧ Ru.n x = s.acc)) (h : meetsOne ls s a x = true) : matchR rs ls s a = true := by
  unfold matchR
  rw [show free rs s = false from by cases hf' : free rs s with
    | false => rfl
    | true => exact absurd ((free_iff rs s).2 hf') hf]
  exact any_at hx h
theorem match_free {rs : List Ru} {ls : List Sm} {s : Sm} {a : Int} (hf : ∃ x ∈ rs, okR x = true ∧ Ru.act x = 3 ∧ Ru.n x = s.acc) : matchR rs ls s a = false := by
  unfold matchR; rw [(free_iff rs s).1 hf]; rfl
theorem match_none {rs : List Ru} {ls : List Sm} {s : Sm} {a : Int} (h : ∀ y ∈ rs, meetsOne ls s a y = false) : matchR rs ls s a = false := by
  unfold matchR
  rw [show meets rs ls s a = false from List.any_eq_false.2 (fun y hy => by have := h y hy; unfold meetsOne at this; simpa using this)]; simp
theorem one_yes {ls : List Sm} {s : Sm} {a : Int} {r : Ru} (h1 : okR r = true) (h2 : r.act = a) (h3 : r.n < ((meas ls s r.sub r.mea : Nat) : Int)) : meetsOne ls s a r = true := by simp [meetsOne, h1, h2, h3]
theorem one_bad {ls : List Sm} {s : Sm} {a : Int} {r : Ru} (h1 : okR r = false) : meetsOne ls s a r = false := by simp [meetsOne, h1]
theorem one_act {ls : List Sm} {s : Sm} {a : Int} {r : Ru} (h2 : ¬ r.act = a) : meetsOne ls s a r = false := by simp [meetsOne, h2]
theorem one_no {ls : List Sm} {s : Sm} {a : Int} {r : Ru} (h3 : ¬ r.n < ((meas ls s r.sub r.mea : Nat) : Int)) : meetsOne ls s a r = false := by
  have : ¬ (r.n < ((meas ls s r.sub r.mea : Nat) : Int)) := h3
  simp [meetsOne, this]
set_option maxRecDepth 100000 in
theorem w_matched {w : World} {AR A : Option Addr} {capR cap : Nat} (rs : List Ru) (ls : List Sm) (hrR : Rd w AR 4 (rs.map ruC)) (hr : Rd w A 9 (ls.map smC)) (hlR : rs.length ≤ 1000000) (hl : ls.length ≤ 100000) (s : Sm) (a : Int) :
    Calls Try.prog 37 #[.slice AR rs.length capR, .slice A ls.length cap, .agg (smC s), .int .i64 a] w (fun e w' => e = .returned (.bool (matchR rs ls s a)) ∧ SL w [] w' []) := by
  refine calls_of_CX (O := []) (L := []) (args := [.slice AR rs.length capR, .slice A ls.length cap, .agg (smC s), .int .i64 a]) Try.func37 rfl (by simp [Try.ntmps37]) (SL.refl w) ?_
  refine CX.sub (V' := [(0, .slice AR rs.length capR), (1, .slice A ls.length cap), (2, .agg (smC s)), (3, .int .i64 a)]) ⟨rfl, rfl, rfl, rfl, trivial⟩ ?_
  refine CX.seq ?_
  refine CX.region ?_
  refine RX.cons rfl rfl (op_box rfl rfl rfl rfl fun g6 => ?_)
  refine RX.cons rfl rfl (op_w (yw_assign rfl rfl) rfl rfl ?_)
  refine RX.nil (XX.next (V' := [(0, _), (1, _), (3, _), (6, _)]) ⟨rfl, rfl, rfl, rfl, trivial⟩ ?_)
  refine CX.seq ?_
  refine CX.region ?_
  refine RX.cons rfl rfl (op_w (yw_move rfl rfl) rfl rfl ?_)
  refine RX.cons rfl rfl (op_w (yw_fieldAddr rfl fld_24_2 rfl) rfl rfl ?_)
  refine RX.cons rfl rfl (op_yld (y_load (i := 0) rfl rfl one_3 rfl rfl) rfl rfl ?_)
  refine RX.cons rfl rfl (op_callV (v := .bool (decide (∃ x ∈ rs, okR x = true ∧ Ru.act x = 3 ∧ Ru.n x = (Sm.acc s)))) rfl rfl rfl rfl rfl ent_54 (fun w hw => w_exempt rs (hw.rd hrR (by simp)) hlR (Sm.acc s)) ?_)
  refine RX.cons rfl rfl (op_w (yw_assign rfl rfl) rfl rfl ?_)
  refine RX.nil (XX.next (V' := [(0, _), (1, _), (3, _), (6, _), (9, _)]) ⟨rfl, rfl, rfl, rfl, rfl, trivial⟩ ?_)
  refine CX.seq ?_
  refine CX.seq ?_
  refine CX.region ?_
  refine RX.cons rfl rfl (op_w (yw_assign rfl rfl) rfl rfl ?_)
  refine RX.nil (XX.next (V' := [(0, _), (1, _), (3, _), (6, _), (9, _), (10, _)]) ⟨rfl, rfl, rfl, rfl, rfl, rfl, trivial⟩ ?_)
  refine CX.block ?_
  refine CX.loop (σ := Nat) (fun i => [(0, .slice AR rs.length capR), (1, .slice A ls.length cap), (3, .int .i64 a), (6, .pointer (some ⟨g6, 0, none⟩)), (9, .bool (decide (∃ x ∈ rs, okR x = true ∧ Ru.act x = 3 ∧ Ru.n x = (Sm.acc s)))), (10, .int .i64 ((i : Nat) : Int))]) (fun i => [.blk g6 (.cells (smC s) 24 (0, 0))]) (fun i => i ≤ rs.length ∧ ∀ y ∈ rs.take i, meetsOne ls s a y = false) (fun i => rs.length - i) 0 ⟨Nat.zero_le _, by simp⟩ ⟨rfl, rfl, rfl, rfl, rfl, rfl, trivial⟩ rfl (fun i hI => ?_)
  obtain ⟨hi, hall⟩ := hI
  refine CX.seq ?_
  refine CX.seq ?_
  refine CX.region ?_
  refine RX.cons rfl rfl (op_w (yw_move rfl rfl) rfl rfl ?_)
  refine RX.cons rfl rfl (op_w (yw_move rfl rfl) rfl rfl ?_)
  refine RX.cons rfl rfl (op_w (yw_lenS rfl Try.underlying30 rfl) rfl rfl ?_)
  refine RX.cons rfl rfl (op_w (yw_lss rfl rfl rfl) rfl rfl ?_)
  refine RX.cons rfl rfl (op_w (yw_move rfl rfl) rfl rfl ?_)
  refine RX.splitD (t := 21) (p := ((i : Nat) : Int) < ((rs.length : Nat) : Int)) rfl (fun d21 => ?_) (fun d21 => ?_)
  · refine RX.consG rfl rfl rfl rfl rfl (op_w (yw_move rfl rfl) rfl rfl ?_)
    refine RX.consG rfl rfl rfl rfl rfl (op_w (yw_notD rfl rfl) rfl rfl ?_)
    refine RX.cons rfl rfl (op_w (yw_pickT rfl rfl rfl) rfl rfl ?_)
    refine RX.nil (XX.next (V' := [(0, _), (1, _), (3, _), (6, _), (9, _), (10, _), (24, _)]) ⟨rfl, rfl, rfl, rfl, rfl, rfl, rfl, trivial⟩ ?_)
    refine CX.condD (p := ¬ (∃ x ∈ rs, okR x = true ∧ Ru.act x = 3 ∧ Ru.n x = (Sm.acc s))) rfl (fun c24 => ?_) (fun c24 => ?_)
    · obtain ⟨x0, hx0⟩ := get_some (l := rs) (k := i) (by omega)
      have hx0m := List.mem_of_getElem? hx0
      have hAR : ∃ b j, AR = some ⟨b, j, none⟩ := hrR.some (k := 0) (by simp; omega)
      refine CX.skip (XX.next (V' := [(0, _), (1, _), (3, _), (6, _), (9, _), (10, _)]) ⟨rfl, rfl, rfl, rfl, rfl, rfl, trivial⟩ ?_)
      refine CX.seq ?_
      refine CX.block ?_
      refine CX.seq ?_
      refine CX.region ?_
      refine RX.cons rfl rfl (op_w (yw_move rfl rfl) rfl rfl ?_)
      refine RX.cons rfl rfl (op_w (yw_move rfl rfl) rfl rfl ?_)
      refine RX.cons rfl rfl (op_w (yw_index (k := i) rfl slt_30 rfl rfl (by omega) (by omega) hAR) rfl rfl ?_)
      refine RX.cons rfl rfl (op_yld (y_elem rfl rfl agg_44 hrR (by simp) (map_get hx0)) rfl rfl ?_)
      refine RX.cons rfl rfl (op_alloc rfl rfl rfl zero_44 fun g9 => ?_)
      refine RX.cons rfl rfl (op_storeAll (i := 0) rfl rfl rfl rfl szt_44 rfl (plain_of rfl) rfl rfl ?_)
      refine RX.nil (XX.next (V' := [(0, _), (1, _), (3, _), (6, _), (9, _), (10, _), (11, _)]) ⟨rfl, rfl, rfl, rfl, rfl, rfl, rfl, trivial⟩ ?_)
      refine CX.seq ?_
      refine CX.region ?_
      refine RX.cons rfl rfl (op_yld (y_loadA (i := 0) rfl rfl agg_44 rfl rfl) rfl rfl ?_)
      refine RX.cons rfl rfl (op_callV (v := .bool (okR x0)) rfl rfl rfl rfl rfl ent_55 (fun w hw => w_valid09 x0) ?_)
      refine RX.cons rfl rfl (op_w (yw_assign rfl rfl) rfl rfl ?_)
      refine RX.nil (XX.next (V' := [(0, _), (1, _), (3, _), (6, _), (9, _), (10, _), (11, _), (12, _)]) ⟨rfl, rfl, rfl, rfl, rfl, rfl, rfl, rfl, trivial⟩ ?_)
      refine CX.seq ?_
      refine CX.draw 19 [(0, 4096, 8589934592), (1, 8589934592, 17179869184), (2, 17179871232, 34359738368), (6, 51539607552, 68719476736), (2, 17179869192, 137438953472), (26, 223338299392, 274877906944), (34, 292057776128, 549755813888), (66, 549755813888, 1099511627776), (128, 1099511627778, 2199023255552), (128, 1099511627840, 4398046511104), (128, 1099511629824, 8796093022208), (1152, 9895604649984, 17592186044416), (128, 1099511629824, 35184372088832), (4224, 36283883716608, 70368744177664), (11136, 95657511616512, 140737488355328), (128, 1099511629824, 281474976710656), (32896, 282574488338432, 562949953421312), (82048, 704786953404416, 1125899906842624), (131200, 1126999418470400, 2251799813685248)] (by kernel_rfl) (by kernel_rfl) (by kernel_rfl) ?_
      refine DX.takeW 0 1 (by kernel_rfl) rfl rfl rfl rfl rfl (yw_move rfl rfl) ?_
      refine DX.takeW 1 3 (by kernel_rfl) rfl rfl rfl rfl rfl (yw_move rfl rfl) ?_
      refine DX.split (t := 34) (b := okR x0) rfl (fun d34 => ?_) (fun d34 => ?_)
      · refine DX.takeWG 2 7 (by kernel_rfl) rfl rfl rfl rfl rfl rfl rfl rfl (yw_field0 rfl fld_44_0 rfl) ?_
        refine DX.takeG 3 15 (by kernel_rfl) rfl rfl rfl rfl rfl rfl rfl rfl (List.Sublist.refl _) (y_load (i := 0) rfl rfl one_3 rfl rfl) ?_
        refine DX.takeWG 4 31 (by kernel_rfl) rfl rfl rfl rfl rfl rfl rfl rfl (yw_move rfl rfl) ?_
        refine DX.takeWG 5 63 (by kernel_rfl) rfl rfl rfl rfl rfl rfl rfl rfl (yw_eql rfl rfl rfl) ?_
        refine DX.takeW 6 127 (by kernel_rfl) rfl rfl rfl rfl rfl (yw_pickT rfl rfl rfl) ?_
        refine DX.takeW 7 255 (by kernel_rfl) rfl rfl rfl rfl rfl (yw_move rfl rfl) ?_
        refine DX.splitD (t := 40) (p := Ru.act x0 = a) rfl (fun d40 => ?_) (fun d40 => ?_)
        · refine DX.takeWG 8 511 (by kernel_rfl) rfl rfl rfl rfl rfl rfl rfl rfl (yw_move rfl rfl) ?_
          refine DX.takeG 9 1023 (by kernel_rfl) rfl rfl rfl rfl rfl rfl rfl rfl (List.Sublist.refl _) (y_loadA (i := 1) rfl rfl agg_24 rfl rfl) ?_
          refine DX.takeWG 10 2047 (by kernel_rfl) rfl rfl rfl rfl rfl rfl rfl rfl (yw_fieldAddr rfl fld_44_1 rfl) ?_
          refine DX.takeG 11 4095 (by kernel_rfl) rfl rfl rfl rfl rfl rfl rfl rfl (List.Sublist.refl _) (y_load (i := 0) rfl rfl one_3 rfl rfl) ?_
          refine DX.takeWG 12 8191 (by kernel_rfl) rfl rfl rfl rfl rfl rfl rfl rfl (yw_fieldAddr rfl fld_44_2 rfl) ?_
          refine DX.takeG 13 16383 (by kernel_rfl) rfl rfl rfl rfl rfl rfl rfl rfl (List.Sublist.refl _) (y_load (i := 0) rfl rfl one_3 rfl rfl) ?_
          refine DX.takeWG 15 49151 (by kernel_rfl) rfl rfl rfl rfl rfl rfl rfl rfl (yw_fieldAddr rfl fld_44_3 rfl) ?_
          refine DX.takeG 16 114687 (by kernel_rfl) rfl rfl rfl rfl rfl rfl rfl rfl (List.Sublist.refl _) (y_load (i := 0) rfl rfl one_3 rfl rfl) ?_
          refine DX.stepG 14 131071 (by kernel_rfl) rfl rfl rfl rfl rfl rfl (op_callV (v := .int .i64 ((meas ls s (Ru.sub x0) (Ru.mea x0) : Nat) : Int)) rfl rfl rfl rfl rfl ent_16 (fun w hw => w_measure11 ls (hw.rd hr (by simp)) hl s (Ru.sub x0) (Ru.mea x0)) (DXs.mk (List.Sublist.refl _) ?_))
          refine DX.takeWG 17 262143 (by kernel_rfl) rfl rfl rfl rfl rfl rfl rfl rfl (yw_gtr rfl rfl rfl) ?_
          refine DX.takeW 18 524287 (by kernel_rfl) rfl rfl rfl rfl rfl (yw_pickT rfl rfl rfl) ?_
          refine DX.done (by kernel_rfl) (XX.next (V' := [(0, _), (1, _), (3, _), (6, _), (9, _), (10, _), (51, _)]) ⟨rfl, rfl, rfl, rfl, rfl, rfl, rfl, trivial⟩ ?_)
          refine CX.condD (p := Ru.n x0 < ((meas ls s (Ru.sub x0) (Ru.mea x0) : Nat) : Int)) rfl (fun c51 => ?_) (fun c51 => ?_)
          · refine CX.seq ?_
            refine CX.region ?_
            refine RX.cons rfl rfl (op_w (yw_assign rfl rfl) rfl rfl ?_)
            refine RX.nil (XX.next (V' := [(8, .bool true)]) ⟨rfl, trivial⟩ ?_)
            refine CX.ret ?_
            refine XX.block_ret ?_
            refine XX.then_ret ?_
            refine XX.then_ret ?_
            refine XX.block_ret ?_
            refine XX.then_ret ?_
            exact ret_tmp rfl rfl fun w1 hw => ⟨by rw [match_yes hx0m c24 (one_yes d34 d40 c51)], hw.sub (List.nil_sublist _)⟩
          · refine CX.skip (XX.inBlock (V' := [(0, _), (1, _), (3, _), (6, _), (9, _), (10, _)]) ⟨rfl, rfl, rfl, rfl, rfl, rfl, trivial⟩ ?_)
            refine XX.next (V' := [(0, _), (1, _), (3, _), (6, _), (9, _), (10, _)]) ⟨rfl, rfl, rfl, rfl, rfl, rfl, trivial⟩ ?_
            refine CX.region ?_
            refine RX.cons rfl rfl (op_w (yw_move rfl rfl) rfl rfl ?_)
            refine RX.cons rfl rfl (op_w (yw_add rfl rfl rfl (by omega) (by omega)) rfl rfl ?_)
            refine RX.cons rfl rfl (op_w (yw_assign rfl rfl) rfl rfl ?_)
            refine RX.nil (XX.againP ([.blk g9 (.cells (ruC x0) 44 (0, 0))]) (i + 1) (by omega) ⟨by omega, all_snocP (p := fun y : Ru => meetsOne ls s a y = false) hx0 (one_no c51) hall⟩ ⟨rfl, rfl, rfl, rfl, rfl, rfl, trivial⟩ ((perm_pick 1 rfl).trans (List.Perm.cons _ (List.Perm.refl _))))
        · refine DX.skip 8 511 (by kernel_rfl) rfl rfl rfl rfl rfl rfl rfl rfl ?_
          refine DX.skip 9 1023 (by kernel_rfl) rfl rfl rfl rfl rfl rfl rfl rfl ?_
          refine DX.skip 10 2047 (by kernel_rfl) rfl rfl rfl rfl rfl rfl rfl rfl ?_
          refine DX.skip 11 4095 (by kernel_rfl) rfl rfl rfl rfl rfl rfl rfl rfl ?_
          refine DX.skip 12 8191 (by kernel_rfl) rfl rfl rfl rfl rfl rfl rfl rfl ?_
          refine DX.skip 13 16383 (by kernel_rfl) rfl rfl rfl rfl rfl rfl rfl rfl ?_
          refine DX.skip 14 32767 (by kernel_rfl) rfl rfl rfl rfl rfl rfl rfl rfl ?_
          refine DX.skip 15 65535 (by kernel_rfl) rfl rfl rfl rfl rfl rfl rfl rfl ?_
          refine DX.skip 16 131071 (by kernel_rfl) rfl rfl rfl rfl rfl rfl rfl rfl ?_
          refine DX.skip 17 262143 (by kernel_rfl) rfl rfl rfl rfl rfl rfl rfl rfl ?_
          refine DX.takeW 18 524287 (by kernel_rfl) rfl rfl rfl rfl rfl (yw_pickF rfl rfl rfl) ?_
          refine DX.done (by kernel_rfl) (XX.next (V' := [(0, _), (1, _), (3, _), (6, _), (9, _), (10, _), (51, _)]) ⟨rfl, rfl, rfl, rfl, rfl, rfl, rfl, trivial⟩ ?_)
          refine CX.condF rfl ?_
          refine CX.skip (XX.inBlock (V' := [(0, _), (1, _), (3, _), (6, _), (9, _), (10, _)]) ⟨rfl, rfl, rfl, rfl, rfl, rfl, trivial⟩ ?_)
          refine XX.next (V' := [(0, _), (1, _), (3, _), (6, _), (9, _), (10, _)]) ⟨rfl, rfl, rfl, rfl, rfl, rfl, trivial⟩ ?_
          refine CX.region ?_
          refine RX.cons rfl rfl (op_w (yw_move rfl rfl) rfl rfl ?_)
          refine RX.cons rfl rfl (op_w (yw_add rfl rfl rfl (by omega) (by omega)) rfl rfl ?_)
          refine RX.cons rfl rfl (op_w (yw_assign rfl rfl) rfl rfl ?_)
          refine RX.nil (XX.againP ([.blk g9 (.cells (ruC x0) 44 (0, 0))]) (i + 1) (by omega) ⟨by omega, all_snocP (p := fun y : Ru => meetsOne ls s a y = false) hx0 (one_act d40) hall⟩ ⟨rfl, rfl, rfl, rfl, rfl, rfl, trivial⟩ ((perm_pick 1 rfl).trans (List.Perm.cons _ (List.Perm.refl _))))
      · refine DX.skip 2 7 (by kernel_rfl) rfl rfl rfl rfl rfl rfl rfl rfl ?_
        refine DX.skip 3 15 (by kernel_rfl) rfl rfl rfl rfl rfl rfl rfl rfl ?_
        refine DX.skip 4 31 (by kernel_rfl) rfl rfl rfl rfl rfl rfl rfl rfl ?_
        refine DX.skip 5 63 (by kernel_rfl) rfl rfl rfl rfl rfl rfl rfl rfl ?_
        refine DX.takeW 6 127 (by kernel_rfl) rfl rfl rfl rfl rfl (yw_pickF rfl rfl rfl) ?_
        refine DX.takeW 7 255 (by kernel_rfl) rfl rfl rfl rfl rfl (yw_move rfl rfl) ?_
        refine DX.skip 8 511 (by kernel_rfl) rfl rfl rfl rfl rfl rfl rfl rfl ?_
        refine DX.skip 9 1023 (by kernel_rfl) rfl rfl rfl rfl rfl rfl rfl rfl ?_
        refine DX.skip 10 2047 (by kernel_rfl) rfl rfl rfl rfl rfl rfl rfl rfl ?_
        refine DX.skip 11 4095 (by kernel_rfl) rfl rfl rfl rfl rfl rfl rfl rfl ?_
        refine DX.skip 12 8191 (by kernel_rfl) rfl rfl rfl rfl rfl rfl rfl rfl ?_
        refine DX.skip 13 16383 (by kernel_rfl) rfl rfl rfl rfl rfl rfl rfl rfl ?_
        refine DX.skip 14 32767 (by kernel_rfl) rfl rfl rfl rfl rfl rfl rfl rfl ?_
        refine DX.skip 15 65535 (by kernel_rfl) rfl rfl rfl rfl rfl rfl rfl rfl ?_
        refine DX.skip 16 131071 (by kernel_rfl) rfl rfl rfl rfl rfl rfl rfl rfl ?_
        refine DX.skip 17 262143 (by kernel_rfl) rfl rfl rfl rfl rfl rfl rfl rfl ?_
        refine DX.takeW 18 524287 (by kernel_rfl) rfl rfl rfl rfl rfl (yw_pickF rfl rfl rfl) ?_
        refine DX.done (by kernel_rfl) (XX.next (V' := [(0, _), (1, _), (3, _), (6, _), (9, _), (10, _), (51, _)]) ⟨rfl, rfl, rfl, rfl, rfl, rfl, rfl, trivial⟩ ?_)
        refine CX.condF rfl ?_
        refine CX.skip (XX.inBlock (V' := [(0, _), (1, _), (3, _), (6, _), (9, _), (10, _)]) ⟨rfl, rfl, rfl, rfl, rfl, rfl, trivial⟩ ?_)
        refine XX.next (V' := [(0, _), (1, _), (3, _), (6, _), (9, _), (10, _)]) ⟨rfl, rfl, rfl, rfl, rfl, rfl, trivial⟩ ?_
        refine CX.region ?_
        refine RX.cons rfl rfl (op_w (yw_move rfl rfl) rfl rfl ?_)
        refine RX.cons rfl rfl (op_w (yw_add rfl rfl rfl (by omega) (by omega)) rfl rfl ?_)
        refine RX.cons rfl rfl (op_w (yw_assign rfl rfl) rfl rfl ?_)
        refine RX.nil (XX.againP ([.blk g9 (.cells (ruC x0) 44 (0, 0))]) (i + 1) (by omega) ⟨by omega, all_snocP (p := fun y : Ru => meetsOne ls s a y = false) hx0 (one_bad (by simpa using d34)) hall⟩ ⟨rfl, rfl, rfl, rfl, rfl, rfl, trivial⟩ ((perm_pick 1 rfl).trans (List.Perm.cons _ (List.Perm.refl _))))
    · refine CX.exit ?_
      refine XX.then_exit ?_
      refine XX.then_exit ?_
      refine XX.block_exit ?_
      refine XX.next (V' := []) trivial ?_
      refine CX.seq ?_
      refine CX.region ?_
      refine RX.cons rfl rfl (op_w (yw_assign rfl rfl) rfl rfl ?_)
      refine RX.nil (XX.next (V' := [(8, .bool false)]) ⟨rfl, trivial⟩ ?_)
      refine CX.ret ?_
      exact ret_tmp rfl rfl fun w1 hw => ⟨by rw [match_free (Classical.not_not.1 c24)], hw.sub (List.nil_sublist _)⟩
  · refine RX.skip rfl rfl rfl rfl rfl rfl rfl ?_
    refine RX.skip rfl rfl rfl rfl rfl rfl rfl ?_
    refine RX.cons rfl rfl (op_w (yw_pickF rfl rfl rfl) rfl rfl ?_)
    refine RX.nil (XX.next (V' := [(0, _), (1, _), (3, _), (6, _), (9, _), (10, _), (24, _)]) ⟨rfl, rfl, rfl, rfl, rfl, rfl, rfl, trivial⟩ ?_)
    refine CX.condF rfl ?_
    refine CX.exit ?_
    refine XX.then_exit ?_
    refine XX.then_exit ?_
    refine XX.block_exit ?_
    refine XX.next (V' := []) trivial ?_
    refine CX.seq ?_
    refine CX.region ?_
    refine RX.cons rfl rfl (op_w (yw_assign rfl rfl) rfl rfl ?_)
    refine RX.nil (XX.next (V' := [(8, .bool false)]) ⟨rfl, trivial⟩ ?_)
    refine CX.ret ?_
    exact ret_tmp rfl rfl fun w1 hw => ⟨by rw [match_none (by rw [List.take_of_length_le (by omega)] at hall; exact hall)], hw.sub (List.nil_sublist _)⟩

end Go.Proofs.Ytpcfgoadkfajfaa
namespace Go.Proofs.Ytpcfgoadkfajfaa
set_option linter.all false
open Go Go.RowKit
set_option maxRecDepth 100000
theorem ent_37 : ∀ args w, (callFunc 37 args).run Try.prog w = .ok (.enter 37 args) w := enters_of Try.func37 (by kernel_rfl) rfl
set_option maxRecDepth 100000 in
theorem w_Judge11 {w : World} {AR A : Option Addr} {capR cap : Nat} (rs : List Ru) (ls : List Sm) (hrR : Rd w AR 4 (rs.map ruC)) (hr : Rd w A 9 (ls.map smC)) (hlR : rs.length ≤ 1000000) (hl : ls.length ≤ 100000) :
    Calls Try.prog 20 #[.slice AR rs.length capR, .slice A ls.length cap] w (fun e w' => ∃ z : Option Addr × Nat, True ∧ e = .returned (.slice z.1 (List.length (List.map (jud rs ls) ls)) z.2) ∧ SL w [] w' [.row z.1 z.2 3 1 (List.map iR (List.map (jud rs ls) ls))]) := by
  refine calls_of_CX (O := []) (L := []) (args := [.slice AR rs.length capR, .slice A ls.length cap]) Try.func20 rfl (by simp [Try.ntmps20]) (SL.refl w) ?_
  refine CX.sub (V' := [(0, .slice AR rs.length capR), (1, .slice A ls.length cap)]) ⟨rfl, rfl, trivial⟩ ?_
  refine CX.seq ?_
  refine CX.region ?_
  refine RX.cons rfl rfl (op_w (yw_assign rfl rfl) rfl rfl ?_)
  refine RX.nil (XX.next (V' := [(0, _), (1, _)]) ⟨rfl, rfl, trivial⟩ ?_)
  refine CX.seq ?_
  refine CX.region ?_
  refine RX.cons rfl rfl (op_w (yw_assign rfl rfl) rfl rfl ?_)
  refine RX.nil (XX.next (V' := [(0, _), (1, _), (5, _)]) ⟨rfl, rfl, rfl, trivial⟩ ?_)
  refine CX.seq ?_
  refine CX.seq ?_
  refine CX.region ?_
  refine RX.cons rfl rfl (op_w (yw_assign rfl rfl) rfl rfl ?_)
  refine RX.nil (XX.next (V' := [(0, _), (1, _), (5, _), (6, _)]) ⟨rfl, rfl, rfl, rfl, trivial⟩ ?_)
  refine CX.block ?_
  refine CX.rowNil 3 1 ?_
  refine CX.loop (σ := Nat × (Option Addr × Nat) × List Int) (fun z => [(0, .slice AR rs.length capR), (1, .slice A ls.length cap), (5, .slice z.2.1.1 (List.length (z.2.2 : List Int)) z.2.1.2), (6, .int .i64 ((z.1 : Nat) : Int))]) (fun z => [.row z.2.1.1 z.2.1.2 3 1 (List.map iR z.2.2)]) (fun z => z.1 ≤ ls.length ∧ z.2.2 = List.map (jud rs ls) (List.take z.1 ls)) (fun z => ls.length - z.1) (0, (none, 0), []) ⟨Nat.zero_le _, rfl⟩ ⟨rfl, rfl, rfl, rfl, trivial⟩ rfl (fun z hI => ?_)
  obtain ⟨i, ⟨A2, c2⟩, ys⟩ := z
  dsimp only at hI ⊢
  obtain ⟨hi, hys⟩ := hI
  have hyn : ys.length = i := by rw [hys, List.length_map, List.length_take]; omega
  refine CX.seq ?_
  refine CX.seq ?_
  refine CX.region ?_
  refine RX.cons rfl rfl (op_w (yw_move rfl rfl) rfl rfl ?_)
  refine RX.cons rfl rfl (op_w (yw_move rfl rfl) rfl rfl ?_)
  refine RX.cons rfl rfl (op_w (yw_lenS rfl Try.underlying22 rfl) rfl rfl ?_)
  refine RX.cons rfl rfl (op_w (yw_lss rfl rfl rfl) rfl rfl ?_)
  refine RX.nil (XX.next (V' := [(0, _), (1, _), (5, _), (6, _), (13, _)]) ⟨rfl, rfl, rfl, rfl, rfl, trivial⟩ ?_)
  refine CX.condD (p := ((i : Nat) : Int) < ((ls.length : Nat) : Int)) rfl (fun c13 => ?_) (fun c13 => ?_)
  · obtain ⟨x0, hx0⟩ := get_some (l := ls) (k := i) (by omega)
    have hx0m := List.mem_of_getElem? hx0
    have hA : ∃ b j, A = some ⟨b, j, none⟩ := hr.some (k := 0) (by simp; omega)
    refine CX.skip (XX.next (V' := [(0, _), (1, _), (5, _), (6, _)]) ⟨rfl, rfl, rfl, rfl, trivial⟩ ?_)
    refine CX.seq ?_
    refine CX.block ?_
    refine CX.seq ?_
    refine CX.region ?_
    refine RX.cons rfl rfl (op_w (yw_move rfl rfl) rfl rfl ?_)
    refine RX.cons rfl rfl (op_w (yw_move rfl rfl) rfl rfl ?_)
    refine RX.cons rfl rfl (op_w (yw_move rfl rfl) rfl rfl ?_)
    refine RX.cons rfl rfl (op_w (yw_move rfl rfl) rfl rfl ?_)
    refine RX.cons rfl rfl (op_w (yw_index (k := i) rfl slt_22 rfl rfl (by omega) (by omega) hA) rfl rfl ?_)
    refine RX.cons rfl rfl (op_yld (y_elem rfl rfl agg_24 hr (by simp) (map_get hx0)) rfl rfl ?_)
    refine RX.cons rfl rfl (op_callV (v := .bool (matchR rs ls x0 2)) rfl rfl rfl rfl rfl ent_37 (fun w hw => w_matched rs ls (hw.rd hrR (by simp)) (hw.rd hr (by simp)) hlR hl x0 2) ?_)
    refine RX.cons rfl rfl (op_w (yw_assign rfl rfl) rfl rfl ?_)
    refine RX.nil (XX.next (V' := [(0, _), (1, _), (5, _), (6, _), (7, _)]) ⟨rfl, rfl, rfl, rfl, rfl, trivial⟩ ?_)
    refine CX.seq ?_
    refine CX.region ?_
    refine RX.cons rfl rfl (op_w (yw_move rfl rfl) rfl rfl ?_)
    refine RX.cons rfl rfl (op_w (yw_move rfl rfl) rfl rfl ?_)
    refine RX.cons rfl rfl (op_w (yw_move rfl rfl) rfl rfl ?_)
    refine RX.cons rfl rfl (op_w (yw_move rfl rfl) rfl rfl ?_)
    refine RX.cons rfl rfl (op_w (yw_index (k := i) rfl slt_22 rfl rfl (by omega) (by omega) hA) rfl rfl ?_)
    refine RX.cons rfl rfl (op_yld (y_elem rfl rfl agg_24 hr (by simp) (map_get hx0)) rfl rfl ?_)
    refine RX.cons rfl rfl (op_callV (v := .bool (matchR rs ls x0 1)) rfl rfl rfl rfl rfl ent_37 (fun w hw => w_matched rs ls (hw.rd hrR (by simp)) (hw.rd hr (by simp)) hlR hl x0 1) ?_)
    refine RX.cons rfl rfl (op_w (yw_assign rfl rfl) rfl rfl ?_)
    refine RX.nil (XX.next (V' := [(0, _), (1, _), (5, _), (6, _), (7, _), (8, _)]) ⟨rfl, rfl, rfl, rfl, rfl, rfl, trivial⟩ ?_)
    refine CX.seq ?_
    refine CX.region ?_
    refine RX.cons rfl rfl (op_w (yw_assign rfl rfl) rfl rfl ?_)
    refine RX.nil (XX.next (V' := [(0, _), (1, _), (5, _), (6, _), (7, _), (8, _), (9, _)]) ⟨rfl, rfl, rfl, rfl, rfl, rfl, rfl, trivial⟩ ?_)
    refine CX.seq ?_
    refine CX.seq ?_
    refine CX.region ?_
    refine RX.cons rfl rfl (op_w (yw_move rfl rfl) rfl rfl ?_)
    refine RX.nil (XX.next (V' := [(0, _), (1, _), (5, _), (6, _), (7, _), (9, _), (30, _)]) ⟨rfl, rfl, rfl, rfl, rfl, rfl, rfl, trivial⟩ ?_)
    refine CX.cond (b := matchR rs ls x0 1) rfl (fun c30 => ?_) (fun c30 => ?_)
    · refine CX.region ?_
      refine RX.cons rfl rfl (op_w (yw_assign rfl rfl) rfl rfl ?_)
      refine RX.nil (XX.next (V' := [(0, _), (1, _), (5, _), (6, _), (7, _), (9, _)]) ⟨rfl, rfl, rfl, rfl, rfl, rfl, trivial⟩ ?_)
      refine CX.seq ?_
      refine CX.seq ?_
      refine CX.region ?_
      refine RX.cons rfl rfl (op_w (yw_move rfl rfl) rfl rfl ?_)
      refine RX.nil (XX.next (V' := [(0, _), (1, _), (5, _), (6, _), (9, _), (31, _)]) ⟨rfl, rfl, rfl, rfl, rfl, rfl, trivial⟩ ?_)
      refine CX.cond (b := matchR rs ls x0 2) rfl (fun c31 => ?_) (fun c31 => ?_)
      · refine CX.region ?_
        refine RX.cons rfl rfl (op_w (yw_assign rfl rfl) rfl rfl ?_)
        refine RX.nil (XX.next (V' := [(0, _), (1, _), (5, _), (6, _), (9, _)]) ⟨rfl, rfl, rfl, rfl, rfl, trivial⟩ ?_)
        refine CX.region ?_
        refine RX.cons rfl rfl (op_w (yw_move rfl rfl) rfl rfl ?_)
        refine RX.cons rfl rfl (op_w (yw_move rfl rfl) rfl rfl ?_)
        refine RX.cons rfl rfl (op_buildSlice rfl rfl rfl slb_36 rfl rfl (by intro v hv; simp only [List.mem_cons, List.not_mem_nil, or_false] at hv; subst hv; exact ⟨rfl, (plain_of rfl)⟩) (by decide) fun g9 => ?_)
        refine RX.cons rfl rfl (op_appendM iR (i := 1) (j := 0) (xs := ys) ([3]) rfl rfl rfl slb_36 rfl rfl rfl rfl rfl rfl (by rw [List.length_singleton]; omega) (by rw [List.length_singleton]; omega) fun A3 c3 => ?_)
        refine RX.cons rfl rfl (op_w (yw_assign rfl rfl) rfl rfl ?_)
        refine RX.nil (XX.inBlock (V' := [(0, _), (1, _), (5, _), (6, _)]) ⟨rfl, rfl, rfl, rfl, trivial⟩ ?_)
        refine XX.next (V' := [(0, _), (1, _), (5, _), (6, _)]) ⟨rfl, rfl, rfl, rfl, trivial⟩ ?_
        refine CX.region ?_
        refine RX.cons rfl rfl (op_w (yw_move rfl rfl) rfl rfl ?_)
        refine RX.cons rfl rfl (op_w (yw_add rfl rfl rfl (by omega) (by omega)) rfl rfl ?_)
        refine RX.cons rfl rfl (op_w (yw_assign rfl rfl) rfl rfl ?_)
        refine RX.nil (XX.againP ([.row (some ⟨g9, 0, none⟩) 1 3 1 (List.map iR ([3]))]) (i + 1, (A3, c3), ys ++ [3]) (by dsimp only; omega) ⟨by dsimp only; omega, by dsimp only; rw [take_map_succ hx0, ← hys, jud_match, if_pos c31]⟩ ⟨rfl, rfl, rfl, rfl, trivial⟩ ((perm_pick 1 rfl).trans (List.Perm.cons _ (List.Perm.refl _))))
      · refine CX.skip (XX.next (V' := [(0, _), (1, _), (5, _), (6, _), (9, _)]) ⟨rfl, rfl, rfl, rfl, rfl, trivial⟩ ?_)
        refine CX.region ?_
        refine RX.cons rfl rfl (op_w (yw_move rfl rfl) rfl rfl ?_)
        refine RX.cons rfl rfl (op_w (yw_move rfl rfl) rfl rfl ?_)
        refine RX.cons rfl rfl (op_buildSlice rfl rfl rfl slb_36 rfl rfl (by intro v hv; simp only [List.mem_cons, List.not_mem_nil, or_false] at hv; subst hv; exact ⟨rfl, (plain_of rfl)⟩) (by decide) fun g9 => ?_)
        refine RX.cons rfl rfl (op_appendM iR (i := 1) (j := 0) (xs := ys) ([2]) rfl rfl rfl slb_36 rfl rfl rfl rfl rfl rfl (by rw [List.length_singleton]; omega) (by rw [List.length_singleton]; omega) fun A3 c3 => ?_)
        refine RX.cons rfl rfl (op_w (yw_assign rfl rfl) rfl rfl ?_)
        refine RX.nil (XX.inBlock (V' := [(0, _), (1, _), (5, _), (6, _)]) ⟨rfl, rfl, rfl, rfl, trivial⟩ ?_)
        refine XX.next (V' := [(0, _), (1, _), (5, _), (6, _)]) ⟨rfl, rfl, rfl, rfl, trivial⟩ ?_
        refine CX.region ?_
        refine RX.cons rfl rfl (op_w (yw_move rfl rfl) rfl rfl ?_)
        refine RX.cons rfl rfl (op_w (yw_add rfl rfl rfl (by omega) (by omega)) rfl rfl ?_)
        refine RX.cons rfl rfl (op_w (yw_assign rfl rfl) rfl rfl ?_)
        refine RX.nil (XX.againP ([.row (some ⟨g9, 0, none⟩) 1 3 1 (List.map iR ([2]))]) (i + 1, (A3, c3), ys ++ [2]) (by dsimp only; omega) ⟨by dsimp only; omega, by dsimp only; rw [take_map_succ hx0, ← hys, jud_match, if_neg (by simpa using c31), if_pos c30]⟩ ⟨rfl, rfl, rfl, rfl, trivial⟩ ((perm_pick 1 rfl).trans (List.Perm.cons _ (List.Perm.refl _))))
    · refine CX.skip (XX.next (V' := [(0, _), (1, _), (5, _), (6, _), (7, _), (9, _)]) ⟨rfl, rfl, rfl, rfl, rfl, rfl, trivial⟩ ?_)
      refine CX.seq ?_
      refine CX.seq ?_
      refine CX.region ?_
      refine RX.cons rfl rfl (op_w (yw_move rfl rfl) rfl rfl ?_)
      refine RX.nil (XX.next (V' := [(0, _), (1, _), (5, _), (6, _), (9, _), (31, _)]) ⟨rfl, rfl, rfl, rfl, rfl, rfl, trivial⟩ ?_)
      refine CX.cond (b := matchR rs ls x0 2) rfl (fun c31 => ?_) (fun c31 => ?_)
      · refine CX.region ?_
        refine RX.cons rfl rfl (op_w (yw_assign rfl rfl) rfl rfl ?_)
        refine RX.nil (XX.next (V' := [(0, _), (1, _), (5, _), (6, _), (9, _)]) ⟨rfl, rfl, rfl, rfl, rfl, trivial⟩ ?_)
        refine CX.region ?_
        refine RX.cons rfl rfl (op_w (yw_move rfl rfl) rfl rfl ?_)
        refine RX.cons rfl rfl (op_w (yw_move rfl rfl) rfl rfl ?_)
        refine RX.cons rfl rfl (op_buildSlice rfl rfl rfl slb_36 rfl rfl (by intro v hv; simp only [List.mem_cons, List.not_mem_nil, or_false] at hv; subst hv; exact ⟨rfl, (plain_of rfl)⟩) (by decide) fun g9 => ?_)
        refine RX.cons rfl rfl (op_appendM iR (i := 1) (j := 0) (xs := ys) ([3]) rfl rfl rfl slb_36 rfl rfl rfl rfl rfl rfl (by rw [List.length_singleton]; omega) (by rw [List.length_singleton]; omega) fun A3 c3 => ?_)
        refine RX.cons rfl rfl (op_w (yw_assign rfl rfl) rfl rfl ?_)
        refine RX.nil (XX.inBlock (V' := [(0, _), (1, _), (5, _), (6, _)]) ⟨rfl, rfl, rfl, rfl, trivial⟩ ?_)
        refine XX.next (V' := [(0, _), (1, _), (5, _), (6, _)]) ⟨rfl, rfl, rfl, rfl, trivial⟩ ?_
        refine CX.region ?_
        refine RX.cons rfl rfl (op_w (yw_move rfl rfl) rfl rfl ?_)
        refine RX.cons rfl rfl (op_w (yw_add rfl rfl rfl (by omega) (by omega)) rfl rfl ?_)
        refine RX.cons rfl rfl (op_w (yw_assign rfl rfl) rfl rfl ?_)
        refine RX.nil (XX.againP ([.row (some ⟨g9, 0, none⟩) 1 3 1 (List.map iR ([3]))]) (i + 1, (A3, c3), ys ++ [3]) (by dsimp only; omega) ⟨by dsimp only; omega, by dsimp only; rw [take_map_succ hx0, ← hys, jud_match, if_pos c31]⟩ ⟨rfl, rfl, rfl, rfl, trivial⟩ ((perm_pick 1 rfl).trans (List.Perm.cons _ (List.Perm.refl _))))
      · refine CX.skip (XX.next (V' := [(0, _), (1, _), (5, _), (6, _), (9, _)]) ⟨rfl, rfl, rfl, rfl, rfl, trivial⟩ ?_)
        refine CX.region ?_
        refine RX.cons rfl rfl (op_w (yw_move rfl rfl) rfl rfl ?_)
        refine RX.cons rfl rfl (op_w (yw_move rfl rfl) rfl rfl ?_)
        refine RX.cons rfl rfl (op_buildSlice rfl rfl rfl slb_36 rfl rfl (by intro v hv; simp only [List.mem_cons, List.not_mem_nil, or_false] at hv; subst hv; exact ⟨rfl, (plain_of rfl)⟩) (by decide) fun g9 => ?_)
        refine RX.cons rfl rfl (op_appendM iR (i := 1) (j := 0) (xs := ys) ([1]) rfl rfl rfl slb_36 rfl rfl rfl rfl rfl rfl (by rw [List.length_singleton]; omega) (by rw [List.length_singleton]; omega) fun A3 c3 => ?_)
        refine RX.cons rfl rfl (op_w (yw_assign rfl rfl) rfl rfl ?_)
        refine RX.nil (XX.inBlock (V' := [(0, _), (1, _), (5, _), (6, _)]) ⟨rfl, rfl, rfl, rfl, trivial⟩ ?_)
        refine XX.next (V' := [(0, _), (1, _), (5, _), (6, _)]) ⟨rfl, rfl, rfl, rfl, trivial⟩ ?_
        refine CX.region ?_
        refine RX.cons rfl rfl (op_w (yw_move rfl rfl) rfl rfl ?_)
        refine RX.cons rfl rfl (op_w (yw_add rfl rfl rfl (by omega) (by omega)) rfl rfl ?_)
        refine RX.cons rfl rfl (op_w (yw_assign rfl rfl) rfl rfl ?_)
        refine RX.nil (XX.againP ([.row (some ⟨g9, 0, none⟩) 1 3 1 (List.map iR ([1]))]) (i + 1, (A3, c3), ys ++ [1]) (by dsimp only; omega) ⟨by dsimp only; omega, by dsimp only; rw [take_map_succ hx0, ← hys, jud_match, if_neg (by simpa using c31), if_neg (by simpa using c30)]⟩ ⟨rfl, rfl, rfl, rfl, trivial⟩ ((perm_pick 1 rfl).trans (List.Perm.cons _ (List.Perm.refl _))))
  · rw [List.take_of_length_le (by omega)] at hys
    refine CX.exit ?_
    refine XX.then_exit ?_
    refine XX.then_exit ?_
    refine XX.block_exit ?_
    refine XX.next (V' := [(5, _)]) ⟨rfl, trivial⟩ ?_
    refine CX.seq ?_
    refine CX.region ?_
    refine RX.cons rfl rfl (op_w (yw_move rfl rfl) rfl rfl ?_)
    refine RX.cons rfl rfl (op_w (yw_assign rfl rfl) rfl rfl ?_)
    refine RX.nil (XX.next (V' := [(4, .slice A2 (List.length (ys : List Int)) c2)]) ⟨rfl, trivial⟩ ?_)
    refine CX.ret ?_
    exact ret_tmp rfl rfl fun w1 hw => ⟨(A2, c2), trivial, by rw [hys], by rw [← hys]; exact hw.pick ((perm_pick 0 rfl).trans (List.Perm.cons _ (List.Perm.refl _)))⟩

end Go.Proofs.Ytpcfgoadkfajfaa
