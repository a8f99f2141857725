/- Walks, printed by a program. Walks, printed by a program. Walks, printed by a program. What the arguments of a law are, opened out of their reading; and the law's end: the arguments read as they did. Nothing here knows a program. The arguments of law11's statements, out of their readings. -/
import Derived.Test.YtpcfgoadkfajfaaK9
import Derived.Test.YtpcfgoadkfajfaaK2
import Derived.Deep.Slices
import Derived.ReadAgain
import Derived.ProofKit
import Derived.Carry
import Derived.Test.YtpcfgoadkfajfaaRows
import Derived.OpenShut
import Derived.DataShut
namespace Go.Proofs.Ytpcfgoadkfajfaa
set_option linter.all false
open Go Go.RowKit
set_option maxRecDepth 100000
theorem ent_20 : ∀ args w, (callFunc 20 args).run Try.prog w = .ok (.enter 20 args) w := enters_of Try.func20 (by kernel_rfl) rfl
theorem ent_39 : ∀ args w, (callFunc 39 args).run Try.prog w = .ok (.enter 39 args) w := enters_of Try.func39 (by kernel_rfl) rfl
set_option maxRecDepth 100000 in
theorem w_Apply11 {w : World} {AM AR A : Option Addr} {capM capR cap : Nat} {v0 v2 v3 v4 v5 v6 v7 v8 v9 : Value} (fs : List Fc) (rs : List Ru) (ls : List Sm) (hrM : Rd w AM 18 (fs.map fcC)) (hrR : Rd w AR 4 (rs.map ruC)) (hr : Rd w A 9 (ls.map smC)) (hlM : fs.length ≤ 1000000) (hlR : rs.length ≤ 1000000) (hl : ls.length ≤ 100000) :
    Calls Try.prog 23 #[.agg (#[v0, .slice AM fs.length capM, v2, v3, v4, v5, v6, v7, v8, v9]), .slice AR rs.length capR, .slice A ls.length cap] w (fun e w' => ∃ z : Option Addr × Nat, True ∧ e = .returned (.slice z.1 (List.length (applyS fs rs ls)) z.2) ∧ SL w [] w' [.row z.1 z.2 24 9 (List.map smC (applyS fs rs ls))]) := by
  refine calls_of_CX (O := []) (L := []) (args := [.agg (#[v0, .slice AM fs.length capM, v2, v3, v4, v5, v6, v7, v8, v9]), .slice AR rs.length capR, .slice A ls.length cap]) Try.func23 rfl (by simp [Try.ntmps23]) (SL.refl w) ?_
  refine CX.sub (V' := [(0, .agg (#[v0, .slice AM fs.length capM, v2, v3, v4, v5, v6, v7, v8, v9])), (1, .slice AR rs.length capR), (2, .slice A ls.length cap)]) ⟨rfl, rfl, rfl, trivial⟩ ?_
  refine CX.seq ?_
  refine CX.region ?_
  refine RX.cons rfl rfl (op_box rfl rfl rfl rfl fun g3 => ?_)
  refine RX.cons rfl rfl (op_w (yw_assign rfl rfl) rfl rfl ?_)
  refine RX.nil (XX.next (V' := [(1, _), (2, _), (3, _)]) ⟨rfl, rfl, rfl, trivial⟩ ?_)
  refine CX.seq ?_
  refine CX.region ?_
  refine RX.cons rfl rfl (op_w (yw_move rfl rfl) rfl rfl ?_)
  refine RX.cons rfl rfl (op_w (yw_move rfl rfl) rfl rfl ?_)
  refine RX.cons rfl rfl (op_callE rfl rfl rfl rfl rfl ent_20 (fun w hw => w_Judge11 rs ls (hw.rd hrR (by simp)) (hw.rd hr (by simp)) hlR hl) (fun ⟨A2, c2⟩ _ => ?_))
  refine RX.cons rfl rfl (op_w (yw_assign rfl rfl) rfl rfl ?_)
  refine RX.nil (XX.next (V' := [(2, _), (3, _), (7, _)]) ⟨rfl, rfl, rfl, trivial⟩ ?_)
  refine CX.seq ?_
  refine CX.region ?_
  refine RX.cons rfl rfl (op_w (yw_assign rfl rfl) rfl rfl ?_)
  refine RX.nil (XX.next (V' := [(2, _), (3, _), (7, _), (8, _)]) ⟨rfl, rfl, rfl, rfl, trivial⟩ ?_)
  refine CX.seq ?_
  refine CX.seq ?_
  refine CX.region ?_
  refine RX.cons rfl rfl (op_w (yw_assign rfl rfl) rfl rfl ?_)
  refine RX.nil (XX.next (V' := [(2, _), (3, _), (7, _), (8, _), (9, _)]) ⟨rfl, rfl, rfl, rfl, rfl, trivial⟩ ?_)
  refine CX.block ?_
  refine CX.rowNil 24 9 ?_
  refine CX.perm (L' := [.row none 0 24 9 (List.map smC ([])), .row A2 c2 3 1 (List.map iR (List.map (jud rs ls) ls)), .blk g3 (.cells (#[v0, .slice AM fs.length capM, v2, v3, v4, v5, v6, v7, v8, v9]) 34 (0, 0))]) ((perm_pick 0 rfl).trans (List.Perm.cons _ ((perm_pick 0 rfl).trans (List.Perm.cons _ ((perm_pick 0 rfl).trans (List.Perm.cons _ (List.Perm.refl _))))))) ?_
  refine CX.loop (σ := Nat × (Option Addr × Nat) × List Sm) (fun z => [(2, .slice A ls.length cap), (3, .pointer (some ⟨g3, 0, none⟩)), (7, .slice A2 (List.length ((List.map (jud rs ls) ls) : List Int)) c2), (8, .slice z.2.1.1 (List.length (z.2.2 : List Sm)) z.2.1.2), (9, .int .i64 ((z.1 : Nat) : Int))]) (fun z => [.row z.2.1.1 z.2.1.2 24 9 (List.map smC z.2.2), .row A2 c2 3 1 (List.map iR (List.map (jud rs ls) ls)), .blk g3 (.cells (#[v0, .slice AM fs.length capM, v2, v3, v4, v5, v6, v7, v8, v9]) 34 (0, 0))]) (fun z => z.1 ≤ ls.length ∧ z.2.2 = List.map (fun s => mkS s (handM fs s (jud rs ls s))) (List.take z.1 ls)) (fun z => ls.length - z.1) (0, (none, 0), []) ⟨Nat.zero_le _, rfl⟩ ⟨rfl, rfl, rfl, rfl, rfl, trivial⟩ rfl (fun z hI => ?_)
  obtain ⟨i, ⟨A4, c4⟩, Y⟩ := z
  dsimp only at hI ⊢
  obtain ⟨hi, hY⟩ := hI
  have hYn : Y.length = i := by rw [hY, List.length_map, List.length_take]; omega
  refine CX.seq ?_
  refine CX.seq ?_
  refine CX.region ?_
  refine RX.cons rfl rfl (op_w (yw_move rfl rfl) rfl rfl ?_)
  refine RX.cons rfl rfl (op_w (yw_move rfl rfl) rfl rfl ?_)
  refine RX.cons rfl rfl (op_w (yw_lenS rfl Try.underlying22 rfl) rfl rfl ?_)
  refine RX.cons rfl rfl (op_w (yw_lss rfl rfl rfl) rfl rfl ?_)
  refine RX.nil (XX.next (V' := [(2, _), (3, _), (7, _), (8, _), (9, _), (18, _)]) ⟨rfl, rfl, rfl, rfl, rfl, rfl, trivial⟩ ?_)
  refine CX.condD (p := ((i : Nat) : Int) < ((ls.length : Nat) : Int)) rfl (fun c18 => ?_) (fun c18 => ?_)
  · obtain ⟨x0, hx0⟩ := get_some (l := ls) (k := i) (by omega)
    have hx0m := List.mem_of_getElem? hx0
    have hA : ∃ b j, A = some ⟨b, j, none⟩ := hr.some (k := 0) (by simp; omega)
    refine CX.rowSome 1 rfl (by rw [List.length_map, List.length_map]; omega) (fun hA2 => ?_)
    refine CX.skip (XX.next (V' := [(2, _), (3, _), (7, _), (8, _), (9, _)]) ⟨rfl, rfl, rfl, rfl, rfl, trivial⟩ ?_)
    refine CX.seq ?_
    refine CX.block ?_
    refine CX.seq ?_
    refine CX.region ?_
    refine RX.cons rfl rfl (op_w (yw_move rfl rfl) rfl rfl ?_)
    refine RX.cons rfl rfl (op_w (yw_move rfl rfl) rfl rfl ?_)
    refine RX.cons rfl rfl (op_w (yw_index (k := i) rfl slt_22 rfl rfl (by omega) (by omega) hA) rfl rfl ?_)
    refine RX.cons rfl rfl (op_yld (y_elem rfl rfl agg_24 hr (by simp) (map_get hx0)) rfl rfl ?_)
    refine RX.cons rfl rfl (op_alloc rfl rfl rfl zero_24 fun g7 => ?_)
    refine RX.cons rfl rfl (op_storeAll (i := 0) rfl rfl rfl rfl szt_24 rfl (plain_of rfl) rfl rfl ?_)
    refine RX.nil (XX.next (V' := [(2, _), (3, _), (7, _), (8, _), (9, _), (10, _)]) ⟨rfl, rfl, rfl, rfl, rfl, rfl, trivial⟩ ?_)
    refine CX.seq ?_
    refine CX.region ?_
    refine RX.cons rfl rfl (op_w (yw_move rfl rfl) rfl rfl ?_)
    refine RX.cons rfl rfl (op_w (yw_move rfl rfl) rfl rfl ?_)
    refine RX.cons rfl rfl (op_w (yw_index (k := i) rfl slt_36 rfl rfl (by omega) (by rw [List.length_map]; omega) hA2) rfl rfl ?_)
    refine RX.cons rfl rfl (op_yld (y_rowElem1 (i := 2) rfl rfl one_3 rfl (map_get (map_get hx0))) rfl rfl ?_)
    refine RX.cons rfl rfl (op_w (yw_fieldAddr rfl fld_24_8 rfl) rfl rfl ?_)
    refine RX.cons rfl rfl (op_store1 (i := 0) (cs' := #[.int .i64 (Sm.dev x0), .int .i64 (Sm.id x0), .int .i64 (Sm.acc x0), .int .i64 (Sm.song x0), .int .i64 (Sm.ter x0), .int .i64 (Sm.sec x0), .int .i64 (Sm.per x0), .int .i64 (Sm.ses x0), .int .i64 (jud rs ls x0)]) rfl rfl rfl rfl szt_3 rfl rfl rfl rfl ?_)
    refine RX.nil (XX.next (V' := [(2, _), (3, _), (7, _), (8, _), (9, _), (10, _)]) ⟨rfl, rfl, rfl, rfl, rfl, rfl, trivial⟩ ?_)
    refine CX.seq ?_
    refine CX.region ?_
    refine RX.cons rfl rfl (op_yld (y_loadA (i := 3) rfl rfl agg_34 rfl rfl) rfl rfl ?_)
    refine RX.cons rfl rfl (op_w (yw_field0 rfl fld_24_0 rfl) rfl rfl ?_)
    refine RX.cons rfl rfl (op_yld (y_load (i := 0) rfl rfl one_3 rfl rfl) rfl rfl ?_)
    refine RX.cons rfl rfl (op_w (yw_fieldAddr rfl fld_24_1 rfl) rfl rfl ?_)
    refine RX.cons rfl rfl (op_yld (y_load (i := 0) rfl rfl one_3 rfl rfl) rfl rfl ?_)
    refine RX.cons rfl rfl (op_callV (v := .int .i64 (markOf fs (Sm.dev x0) (Sm.id x0))) rfl rfl rfl rfl rfl ent_39 (fun w hw => w_Mark07 fs (hw.rd hrM (by simp)) hlM (Sm.dev x0) (Sm.id x0)) ?_)
    refine RX.cons rfl rfl (op_w (yw_assign rfl rfl) rfl rfl ?_)
    refine RX.nil (XX.next (V' := [(2, _), (3, _), (7, _), (8, _), (9, _), (10, _), (11, _)]) ⟨rfl, rfl, rfl, rfl, rfl, rfl, rfl, trivial⟩ ?_)
    refine CX.seq ?_
    refine CX.seq ?_
    refine CX.region ?_
    refine RX.cons rfl rfl (op_w (yw_move rfl rfl) rfl rfl ?_)
    refine RX.cons rfl rfl (op_w (yw_geq rfl rfl rfl) rfl rfl ?_)
    refine RX.cons rfl rfl (op_w (yw_move rfl rfl) rfl rfl ?_)
    refine RX.splitD (t := 38) (p := 1 ≤ markOf fs (Sm.dev x0) (Sm.id x0)) rfl (fun d38 => ?_) (fun d38 => ?_)
    · refine RX.consG rfl rfl rfl rfl rfl (op_w (yw_move rfl rfl) rfl rfl ?_)
      refine RX.consG rfl rfl rfl rfl rfl (op_w (yw_leq rfl rfl rfl) rfl rfl ?_)
      refine RX.cons rfl rfl (op_w (yw_pickT rfl rfl rfl) rfl rfl ?_)
      refine RX.nil (XX.next (V' := [(2, _), (3, _), (7, _), (8, _), (9, _), (10, _), (11, _), (41, _)]) ⟨rfl, rfl, rfl, rfl, rfl, rfl, rfl, rfl, trivial⟩ ?_)
      refine CX.condD (p := markOf fs (Sm.dev x0) (Sm.id x0) ≤ 3) rfl (fun c41 => ?_) (fun c41 => ?_)
      · refine CX.region ?_
        refine RX.cons rfl rfl (op_w (yw_move rfl rfl) rfl rfl ?_)
        refine RX.cons rfl rfl (op_w (yw_fieldAddr rfl fld_24_8 rfl) rfl rfl ?_)
        refine RX.cons rfl rfl (op_store1 (i := 0) (cs' := #[.int .i64 (Sm.dev x0), .int .i64 (Sm.id x0), .int .i64 (Sm.acc x0), .int .i64 (Sm.song x0), .int .i64 (Sm.ter x0), .int .i64 (Sm.sec x0), .int .i64 (Sm.per x0), .int .i64 (Sm.ses x0), .int .i64 (markOf fs (Sm.dev x0) (Sm.id x0))]) rfl rfl rfl rfl szt_3 rfl rfl rfl rfl ?_)
        refine RX.nil (XX.next (V' := [(2, _), (3, _), (7, _), (8, _), (9, _), (10, _)]) ⟨rfl, rfl, rfl, rfl, rfl, rfl, trivial⟩ ?_)
        have hhm : handM fs x0 (jud rs ls x0) = (markOf fs (Sm.dev x0) (Sm.id x0)) := if_pos ⟨by omega, by omega⟩
        refine CX.region ?_
        refine RX.cons rfl rfl (op_w (yw_move rfl rfl) rfl rfl ?_)
        refine RX.cons rfl rfl (op_yld (y_loadA (i := 0) rfl rfl agg_24 rfl rfl) rfl rfl ?_)
        refine RX.cons rfl rfl (op_buildSlice rfl rfl rfl slb_22 rfl rfl (by intro v hv; simp only [List.mem_cons, List.not_mem_nil, or_false] at hv; subst hv; exact ⟨rfl, (plain_of rfl)⟩) (by decide) fun g8 => ?_)
        refine RX.cons rfl rfl (op_appendM smC (i := 2) (j := 0) (xs := Y) ([mkS x0 (markOf fs (Sm.dev x0) (Sm.id x0))]) rfl rfl rfl slb_22 rfl rfl rfl rfl rfl rfl (by rw [List.length_singleton]; omega) (by rw [List.length_singleton]; omega) fun A5 c5 => ?_)
        refine RX.cons rfl rfl (op_w (yw_assign rfl rfl) rfl rfl ?_)
        refine RX.nil (XX.inBlock (V' := [(2, _), (3, _), (7, _), (8, _), (9, _)]) ⟨rfl, rfl, rfl, rfl, rfl, trivial⟩ ?_)
        refine XX.next (V' := [(2, _), (3, _), (7, _), (8, _), (9, _)]) ⟨rfl, rfl, rfl, rfl, rfl, trivial⟩ ?_
        refine CX.region ?_
        refine RX.cons rfl rfl (op_w (yw_move rfl rfl) rfl rfl ?_)
        refine RX.cons rfl rfl (op_w (yw_add rfl rfl rfl (by omega) (by omega)) rfl rfl ?_)
        refine RX.cons rfl rfl (op_w (yw_assign rfl rfl) rfl rfl ?_)
        refine RX.nil (XX.againP ([.row (some ⟨g8, 0, none⟩) 1 24 9 (List.map smC ([mkS x0 (markOf fs (Sm.dev x0) (Sm.id x0))])), .blk g7 (.cells (#[.int .i64 (Sm.dev x0), .int .i64 (Sm.id x0), .int .i64 (Sm.acc x0), .int .i64 (Sm.song x0), .int .i64 (Sm.ter x0), .int .i64 (Sm.sec x0), .int .i64 (Sm.per x0), .int .i64 (Sm.ses x0), .int .i64 (markOf fs (Sm.dev x0) (Sm.id x0))]) 24 (0, 0))]) (i + 1, (A5, c5), Y ++ [mkS x0 (markOf fs (Sm.dev x0) (Sm.id x0))]) (by dsimp only; omega) ⟨by dsimp only; omega, by dsimp only; rw [take_map_succ hx0, ← hY, hhm]⟩ ⟨rfl, rfl, rfl, rfl, rfl, trivial⟩ ((perm_pick 2 rfl).trans (List.Perm.cons _ ((perm_pick 2 rfl).trans (List.Perm.cons _ ((perm_pick 2 rfl).trans (List.Perm.cons _ (List.Perm.refl _))))))))
      · refine CX.skip (XX.next (V' := [(2, _), (3, _), (7, _), (8, _), (9, _), (10, _)]) ⟨rfl, rfl, rfl, rfl, rfl, rfl, trivial⟩ ?_)
        have hhm : handM fs x0 (jud rs ls x0) = (jud rs ls x0) := if_neg (by omega)
        refine CX.region ?_
        refine RX.cons rfl rfl (op_w (yw_move rfl rfl) rfl rfl ?_)
        refine RX.cons rfl rfl (op_yld (y_loadA (i := 0) rfl rfl agg_24 rfl rfl) rfl rfl ?_)
        refine RX.cons rfl rfl (op_buildSlice rfl rfl rfl slb_22 rfl rfl (by intro v hv; simp only [List.mem_cons, List.not_mem_nil, or_false] at hv; subst hv; exact ⟨rfl, (plain_of rfl)⟩) (by decide) fun g8 => ?_)
        refine RX.cons rfl rfl (op_appendM smC (i := 2) (j := 0) (xs := Y) ([mkS x0 (jud rs ls x0)]) rfl rfl rfl slb_22 rfl rfl rfl rfl rfl rfl (by rw [List.length_singleton]; omega) (by rw [List.length_singleton]; omega) fun A5 c5 => ?_)
        refine RX.cons rfl rfl (op_w (yw_assign rfl rfl) rfl rfl ?_)
        refine RX.nil (XX.inBlock (V' := [(2, _), (3, _), (7, _), (8, _), (9, _)]) ⟨rfl, rfl, rfl, rfl, rfl, trivial⟩ ?_)
        refine XX.next (V' := [(2, _), (3, _), (7, _), (8, _), (9, _)]) ⟨rfl, rfl, rfl, rfl, rfl, trivial⟩ ?_
        refine CX.region ?_
        refine RX.cons rfl rfl (op_w (yw_move rfl rfl) rfl rfl ?_)
        refine RX.cons rfl rfl (op_w (yw_add rfl rfl rfl (by omega) (by omega)) rfl rfl ?_)
        refine RX.cons rfl rfl (op_w (yw_assign rfl rfl) rfl rfl ?_)
        refine RX.nil (XX.againP ([.row (some ⟨g8, 0, none⟩) 1 24 9 (List.map smC ([mkS x0 (jud rs ls x0)])), .blk g7 (.cells (#[.int .i64 (Sm.dev x0), .int .i64 (Sm.id x0), .int .i64 (Sm.acc x0), .int .i64 (Sm.song x0), .int .i64 (Sm.ter x0), .int .i64 (Sm.sec x0), .int .i64 (Sm.per x0), .int .i64 (Sm.ses x0), .int .i64 (jud rs ls x0)]) 24 (0, 0))]) (i + 1, (A5, c5), Y ++ [mkS x0 (jud rs ls x0)]) (by dsimp only; omega) ⟨by dsimp only; omega, by dsimp only; rw [take_map_succ hx0, ← hY, hhm]⟩ ⟨rfl, rfl, rfl, rfl, rfl, trivial⟩ ((perm_pick 2 rfl).trans (List.Perm.cons _ ((perm_pick 2 rfl).trans (List.Perm.cons _ ((perm_pick 2 rfl).trans (List.Perm.cons _ (List.Perm.refl _))))))))
    · refine RX.skip rfl rfl rfl rfl rfl rfl rfl ?_
      refine RX.skip rfl rfl rfl rfl rfl rfl rfl ?_
      refine RX.cons rfl rfl (op_w (yw_pickF rfl rfl rfl) rfl rfl ?_)
      refine RX.nil (XX.next (V' := [(2, _), (3, _), (7, _), (8, _), (9, _), (10, _), (11, _), (41, _)]) ⟨rfl, rfl, rfl, rfl, rfl, rfl, rfl, rfl, trivial⟩ ?_)
      refine CX.condF rfl ?_
      refine CX.skip (XX.next (V' := [(2, _), (3, _), (7, _), (8, _), (9, _), (10, _)]) ⟨rfl, rfl, rfl, rfl, rfl, rfl, trivial⟩ ?_)
      have hhm : handM fs x0 (jud rs ls x0) = (jud rs ls x0) := if_neg (by omega)
      refine CX.region ?_
      refine RX.cons rfl rfl (op_w (yw_move rfl rfl) rfl rfl ?_)
      refine RX.cons rfl rfl (op_yld (y_loadA (i := 0) rfl rfl agg_24 rfl rfl) rfl rfl ?_)
      refine RX.cons rfl rfl (op_buildSlice rfl rfl rfl slb_22 rfl rfl (by intro v hv; simp only [List.mem_cons, List.not_mem_nil, or_false] at hv; subst hv; exact ⟨rfl, (plain_of rfl)⟩) (by decide) fun g8 => ?_)
      refine RX.cons rfl rfl (op_appendM smC (i := 2) (j := 0) (xs := Y) ([mkS x0 (jud rs ls x0)]) rfl rfl rfl slb_22 rfl rfl rfl rfl rfl rfl (by rw [List.length_singleton]; omega) (by rw [List.length_singleton]; omega) fun A5 c5 => ?_)
      refine RX.cons rfl rfl (op_w (yw_assign rfl rfl) rfl rfl ?_)
      refine RX.nil (XX.inBlock (V' := [(2, _), (3, _), (7, _), (8, _), (9, _)]) ⟨rfl, rfl, rfl, rfl, rfl, trivial⟩ ?_)
      refine XX.next (V' := [(2, _), (3, _), (7, _), (8, _), (9, _)]) ⟨rfl, rfl, rfl, rfl, rfl, trivial⟩ ?_
      refine CX.region ?_
      refine RX.cons rfl rfl (op_w (yw_move rfl rfl) rfl rfl ?_)
      refine RX.cons rfl rfl (op_w (yw_add rfl rfl rfl (by omega) (by omega)) rfl rfl ?_)
      refine RX.cons rfl rfl (op_w (yw_assign rfl rfl) rfl rfl ?_)
      refine RX.nil (XX.againP ([.row (some ⟨g8, 0, none⟩) 1 24 9 (List.map smC ([mkS x0 (jud rs ls x0)])), .blk g7 (.cells (#[.int .i64 (Sm.dev x0), .int .i64 (Sm.id x0), .int .i64 (Sm.acc x0), .int .i64 (Sm.song x0), .int .i64 (Sm.ter x0), .int .i64 (Sm.sec x0), .int .i64 (Sm.per x0), .int .i64 (Sm.ses x0), .int .i64 (jud rs ls x0)]) 24 (0, 0))]) (i + 1, (A5, c5), Y ++ [mkS x0 (jud rs ls x0)]) (by dsimp only; omega) ⟨by dsimp only; omega, by dsimp only; rw [take_map_succ hx0, ← hY, hhm]⟩ ⟨rfl, rfl, rfl, rfl, rfl, trivial⟩ ((perm_pick 2 rfl).trans (List.Perm.cons _ ((perm_pick 2 rfl).trans (List.Perm.cons _ ((perm_pick 2 rfl).trans (List.Perm.cons _ (List.Perm.refl _))))))))
  · rw [List.take_of_length_le (by omega)] at hY
    refine CX.exit ?_
    refine XX.then_exit ?_
    refine XX.then_exit ?_
    refine XX.block_exit ?_
    refine XX.next (V' := [(8, _)]) ⟨rfl, trivial⟩ ?_
    refine CX.seq ?_
    refine CX.region ?_
    refine RX.cons rfl rfl (op_w (yw_move rfl rfl) rfl rfl ?_)
    refine RX.cons rfl rfl (op_w (yw_assign rfl rfl) rfl rfl ?_)
    refine RX.nil (XX.next (V' := [(6, .slice A4 (List.length (Y : List Sm)) c4)]) ⟨rfl, trivial⟩ ?_)
    refine CX.ret ?_
    exact ret_tmp rfl rfl fun w1 hw => ⟨(A4, c4), trivial, by rw [hY]; rfl, by rw [hY] at hw; exact hw.pick ((perm_pick 0 rfl).trans (List.Perm.cons _ (List.Perm.refl _)))⟩

end Go.Proofs.Ytpcfgoadkfajfaa
namespace Go.Proofs.Ytpcfgoadkfajfaa
set_option linter.all false
open Go Go.RowKit
set_option maxRecDepth 100000
theorem eqg_24 : Try.prog.eqGuardType Try.prog.depth 24 = false := by kernel_rfl
theorem held_24 : Try.prog.stoodInHeld 24 = false := by kernel_rfl
def sameS (f g : Sm) : Bool := f.dev == g.dev && (f.id == g.id && (f.acc == g.acc && (f.song == g.song && (f.ter == g.ter && (f.sec == g.sec && (f.per == g.per && (f.ses == g.ses && (f.mark == g.mark && true))))))))
theorem sameS_iff (f g : Sm) : sameS f g = true ↔ f = g := by
  obtain ⟨⟩ := f
  obtain ⟨⟩ := g
  simp [sameS]
instance : DecidableEq Sm := fun f g => decidable_of_iff (sameS f g = true) (sameS_iff f g)
theorem eq_sm (f g : Sm) (w : World) : (Op.equalIn 10000 24 (.agg (smC f)) (.agg (smC g))).run Try.prog w = .ok (sameS f g) w :=
  equal_of Try.underlying24 held_24 (eqF_int rfl Try.underlying3 rfl rfl (eqF_int rfl Try.underlying3 rfl rfl (eqF_int rfl Try.underlying3 rfl rfl (eqF_int rfl Try.underlying3 rfl rfl (eqF_int rfl Try.underlying3 rfl rfl (eqF_int rfl Try.underlying3 rfl rfl (eqF_int rfl Try.underlying3 rfl rfl (eqF_int rfl Try.underlying3 rfl rfl (eqF_int rfl Try.underlying3 rfl rfl eqF_nil)))))))))
set_option maxRecDepth 100000 in
theorem w_same08 {w : World} {A B : Option Addr} {ca cb : Nat} (X Y : List Sm) (hrX : Rd w A 9 (X.map smC)) (hrY : Rd w B 9 (Y.map smC)) (hl : X.length ≤ 1000000) :
    Calls Try.prog 21 #[.slice A X.length ca, .slice B Y.length cb] w (fun e w' => e = .returned (.bool (decide (X = Y))) ∧ SL w [] w' []) := by
  refine calls_of_CX (O := []) (L := []) (args := [.slice A X.length ca, .slice B Y.length cb]) Try.func21 rfl (by simp [Try.ntmps21]) (SL.refl w) ?_
  refine CX.sub (V' := [(0, .slice A X.length ca), (1, .slice B Y.length cb)]) ⟨rfl, rfl, trivial⟩ ?_
  refine CX.seq ?_
  refine CX.region ?_
  refine RX.cons rfl rfl (op_w (yw_assign rfl rfl) rfl rfl ?_)
  refine RX.nil (XX.next (V' := [(0, _), (1, _)]) ⟨rfl, rfl, trivial⟩ ?_)
  refine CX.seq ?_
  refine CX.seq ?_
  refine CX.region ?_
  refine RX.cons rfl rfl (op_w (yw_move rfl rfl) rfl rfl ?_)
  refine RX.cons rfl rfl (op_w (yw_lenS rfl Try.underlying22 rfl) rfl rfl ?_)
  refine RX.cons rfl rfl (op_w (yw_move rfl rfl) rfl rfl ?_)
  refine RX.cons rfl rfl (op_w (yw_lenS rfl Try.underlying22 rfl) rfl rfl ?_)
  refine RX.cons rfl rfl (op_w (yw_neq rfl rfl rfl) rfl rfl ?_)
  refine RX.nil (XX.next (V' := [(0, _), (1, _), (10, _)]) ⟨rfl, rfl, rfl, trivial⟩ ?_)
  refine CX.condD (p := ((X.length : Nat) : Int) ≠ ((Y.length : Nat) : Int)) rfl (fun c10 => ?_) (fun c10 => ?_)
  · refine CX.seq ?_
    refine CX.region ?_
    refine RX.cons rfl rfl (op_w (yw_assign rfl rfl) rfl rfl ?_)
    refine RX.nil (XX.next (V' := [(4, .bool false)]) ⟨rfl, trivial⟩ ?_)
    refine CX.ret ?_
    refine XX.then_ret ?_
    exact ret_tmp rfl rfl fun w1 hw => ⟨by rw [decide_eq_false (fun e => c10 (by rw [e]))], hw.sub (List.nil_sublist _)⟩
  · refine CX.skip (XX.next (V' := [(0, _), (1, _)]) ⟨rfl, rfl, trivial⟩ ?_)
    refine CX.seq ?_
    refine CX.seq ?_
    refine CX.region ?_
    refine RX.cons rfl rfl (op_w (yw_assign rfl rfl) rfl rfl ?_)
    refine RX.nil (XX.next (V' := [(0, _), (1, _), (5, _)]) ⟨rfl, rfl, rfl, trivial⟩ ?_)
    refine CX.block ?_
    have hlen : X.length = Y.length := by omega
    refine CX.loop (σ := Nat) (fun i => [(0, .slice A X.length ca), (1, .slice B Y.length cb), (5, .int .i64 ((i : Nat) : Int))]) (fun i => []) (fun i => i ≤ X.length ∧ X.take i = Y.take i) (fun i => X.length - i) 0 ⟨Nat.zero_le _, by simp⟩ ⟨rfl, rfl, rfl, trivial⟩ rfl (fun i hI => ?_)
    obtain ⟨hi, hf⟩ := hI
    refine CX.seq ?_
    refine CX.seq ?_
    refine CX.region ?_
    refine RX.cons rfl rfl (op_w (yw_move rfl rfl) rfl rfl ?_)
    refine RX.cons rfl rfl (op_w (yw_move rfl rfl) rfl rfl ?_)
    refine RX.cons rfl rfl (op_w (yw_lenS rfl Try.underlying22 rfl) rfl rfl ?_)
    refine RX.cons rfl rfl (op_w (yw_lss rfl rfl rfl) rfl rfl ?_)
    refine RX.nil (XX.next (V' := [(0, _), (1, _), (5, _), (14, _)]) ⟨rfl, rfl, rfl, rfl, trivial⟩ ?_)
    refine CX.condD (p := ((i : Nat) : Int) < ((X.length : Nat) : Int)) rfl (fun c14 => ?_) (fun c14 => ?_)
    · obtain ⟨x0, ha⟩ := get_some (l := X) (k := i) (by omega)
      obtain ⟨y0, hb⟩ := get_some (l := Y) (k := i) (by omega)
      have hA : ∃ b j, A = some ⟨b, j, none⟩ := hrX.some (k := i) (by simp; omega)
      have hB : ∃ b j, B = some ⟨b, j, none⟩ := hrY.some (k := i) (by simp; omega)
      refine CX.skip (XX.next (V' := [(0, _), (1, _), (5, _)]) ⟨rfl, rfl, rfl, trivial⟩ ?_)
      refine CX.seq ?_
      refine CX.block ?_
      refine CX.seq ?_
      refine CX.draw 9 [(0, 1, 131072), (0, 32, 262144), (3, 393216, 524288), (4, 524288, 1048576), (0, 2, 2097152), (0, 32, 4194304), (48, 6291456, 8388608), (64, 8388608, 16777216), (136, 17825792, 33554432)] (by kernel_rfl) (by kernel_rfl) (by kernel_rfl) ?_
      refine DX.takeW 0 1 (by kernel_rfl) rfl rfl rfl rfl rfl (yw_move rfl rfl) ?_
      refine DX.takeW 1 3 (by kernel_rfl) rfl rfl rfl rfl rfl (yw_move rfl rfl) ?_
      refine DX.takeW 2 7 (by kernel_rfl) rfl rfl rfl rfl rfl (yw_index (k := i) rfl slt_22 rfl rfl (by omega) (by omega) hA) ?_
      refine DX.take 3 15 (by kernel_rfl) rfl rfl rfl rfl rfl (List.nil_sublist _) (y_elem rfl rfl agg_24 hrX (by simp) (map_get ha)) ?_
      refine DX.takeW 4 31 (by kernel_rfl) rfl rfl rfl rfl rfl (yw_move rfl rfl) ?_
      refine DX.takeW 5 63 (by kernel_rfl) rfl rfl rfl rfl rfl (yw_move rfl rfl) ?_
      refine DX.takeW 6 127 (by kernel_rfl) rfl rfl rfl rfl rfl (yw_index (k := i) rfl slt_22 rfl rfl (by omega) (by omega) hB) ?_
      refine DX.take 7 255 (by kernel_rfl) rfl rfl rfl rfl rfl (List.nil_sublist _) (y_elem rfl rfl agg_24 hrY (by simp) (map_get hb)) ?_
      refine DX.takeW 8 511 (by kernel_rfl) rfl rfl rfl rfl rfl (yw_neqAgg (b := sameS x0 y0) rfl rfl rfl eqg_24 (fun w => eq_sm x0 y0 w)) ?_
      refine DX.done (by kernel_rfl) (XX.next (V' := [(0, _), (1, _), (5, _), (25, _)]) ⟨rfl, rfl, rfl, rfl, trivial⟩ ?_)
      refine CX.cond (b := !(sameS x0 y0)) rfl (fun c25 => ?_) (fun c25 => ?_)
      · refine CX.seq ?_
        refine CX.region ?_
        refine RX.cons rfl rfl (op_w (yw_assign rfl rfl) rfl rfl ?_)
        refine RX.nil (XX.next (V' := [(4, .bool false)]) ⟨rfl, trivial⟩ ?_)
        refine CX.ret ?_
        refine XX.block_ret ?_
        refine XX.then_ret ?_
        refine XX.then_ret ?_
        refine XX.block_ret ?_
        refine XX.then_ret ?_
        exact ret_tmp rfl rfl fun w1 hw => ⟨by rw [decide_eq_false (differ_at ha hb (fun e => by rw [(sameS_iff x0 y0).2 e] at c25; simp at c25))], hw.sub (List.nil_sublist _)⟩
      · refine CX.skip (XX.inBlock (V' := [(0, _), (1, _), (5, _)]) ⟨rfl, rfl, rfl, trivial⟩ ?_)
        refine XX.next (V' := [(0, _), (1, _), (5, _)]) ⟨rfl, rfl, rfl, trivial⟩ ?_
        refine CX.region ?_
        refine RX.cons rfl rfl (op_w (yw_move rfl rfl) rfl rfl ?_)
        refine RX.cons rfl rfl (op_w (yw_add rfl rfl rfl (by omega) (by omega)) rfl rfl ?_)
        refine RX.cons rfl rfl (op_w (yw_assign rfl rfl) rfl rfl ?_)
        refine RX.nil (XX.againP ([]) (i + 1) (by omega) ⟨by omega, same_upto hf ha hb ((sameS_iff x0 y0).1 (by simpa using c25))⟩ ⟨rfl, rfl, rfl, trivial⟩ (List.Perm.refl _))
    · refine CX.exit ?_
      refine XX.then_exit ?_
      refine XX.then_exit ?_
      refine XX.block_exit ?_
      refine XX.next (V' := []) trivial ?_
      refine CX.seq ?_
      refine CX.region ?_
      refine RX.cons rfl rfl (op_w (yw_assign rfl rfl) rfl rfl ?_)
      refine RX.nil (XX.next (V' := [(4, .bool true)]) ⟨rfl, trivial⟩ ?_)
      refine CX.ret ?_
      exact ret_tmp rfl rfl fun w1 hw => ⟨by rw [decide_eq_true (by rw [List.take_of_length_le (by omega), List.take_of_length_le (by omega)] at hf; exact hf)], hw.sub (List.nil_sublist _)⟩

end Go.Proofs.Ytpcfgoadkfajfaa
namespace Go.Proofs.Ytpcfgoadkfajfaa
set_option linter.all false
open Go Go.RowKit
set_option maxRecDepth 100000
theorem ent_27 : ∀ args w, (callFunc 27 args).run Try.prog w = .ok (.enter 27 args) w := enters_of Try.func27 (by kernel_rfl) rfl
theorem ent_14 : ∀ args w, (callFunc 14 args).run Try.prog w = .ok (.enter 14 args) w := enters_of Try.func14 (by kernel_rfl) rfl
theorem ent_18 : ∀ args w, (callFunc 18 args).run Try.prog w = .ok (.enter 18 args) w := enters_of Try.func18 (by kernel_rfl) rfl
theorem slb_31 : SlB Try.prog 31 58 18 152 (.agg (#[.int .i64 0, .int .i64 0, .int .i64 0, .int .i64 0, .int .i64 0, .int .i64 0, .int .i64 0, .int .i64 0, .int .i64 0, .int .i64 0, .int .i64 0, .int .i64 0, .int .i64 0, .int .i64 0, .int .i64 0, .int .i64 0, .int .i64 0, .string .empty])) := ⟨Try.underlying31, ⟨(Try.prog.info? 58).get!, by kernel_rfl, by kernel_rfl, by kernel_rfl, by kernel_rfl⟩, by decide, by decide⟩
theorem ent_22 : ∀ args w, (callFunc 22 args).run Try.prog w = .ok (.enter 22 args) w := enters_of Try.func22 (by kernel_rfl) rfl
def saneL : List Sm := [⟨1, 1, 1, 5, 0, 0, 0, 0, 0⟩, ⟨2, 1, 1, 5, 0, 0, 0, 0, 0⟩, ⟨2, 1, 2, 6, 0, 0, 0, 0, 0⟩, ⟨3, 1, 3, 5, 0, 0, 0, 0, 0⟩]
def saneM : List Sm := [⟨1, 1, 1, 5, 0, 0, 0, 0, 2⟩, ⟨2, 1, 1, 5, 0, 0, 0, 0, 1⟩, ⟨2, 1, 2, 6, 0, 0, 0, 0, 1⟩, ⟨3, 1, 3, 5, 0, 0, 0, 0, 1⟩]
def holdR : Ru := ⟨1, 3, 2, 1⟩
def voidR : Ru := ⟨2, 2, 2, 1⟩
def allowR : Ru := ⟨3, 1, 0, 2⟩
def saneF : Fc := ⟨2, 1, 0, 0, 0, 0, 2, 0, 0, 0, 0, 0, 0, 0, 0, 0, 1, .empty⟩
theorem sane1 : meas saneL ⟨1, 1, 1, 5, 0, 0, 0, 0, 0⟩ 1 1 = 2 := by decide +kernel
theorem sane2 : meas saneL ⟨1, 1, 1, 5, 0, 0, 0, 0, 0⟩ 3 1 = 3 := by decide +kernel
theorem sane3 : meas saneL ⟨1, 1, 1, 5, 0, 0, 0, 0, 0⟩ 3 4 = 2 := by decide +kernel
theorem sane4 : meas saneL ⟨2, 1, 1, 5, 0, 0, 0, 0, 0⟩ 2 2 = 2 := by decide +kernel
theorem saneA : List.map (jud [holdR] saneL) saneL = [2, 2, 2, 1] := by decide +kernel
theorem saneB : List.map (jud [holdR, voidR] saneL) saneL = [2, 3, 3, 1] := by decide +kernel
theorem saneC : List.map (jud [holdR, voidR, allowR] saneL) saneL = [2, 3, 1, 1] := by decide +kernel
theorem saneD : applyS [saneF] [holdR, voidR] saneL = saneM := by decide +kernel
theorem w_JudgeE {w : World} {AR A : Option Addr} {capR cap : Nat} (rs : List Ru) (ls : List Sm) (hrR : Rd w AR 4 (rs.map ruC)) (hr : Rd w A 9 (ls.map smC)) (hlR : rs.length ≤ 1000000) (hl : ls.length ≤ 100000) {res : List Int} (he : (List.map (jud rs ls) ls) = res) : Calls Try.prog 19 #[.slice AR rs.length capR, .slice A ls.length cap] w (fun e w' => ∃ z : Option Addr × Nat, True ∧ e = .returned (.slice z.1 (List.length res) z.2) ∧ SL w [] w' [.row z.1 z.2 3 1 (List.map iR res)]) := he ▸ w_Judge rs ls hrR hr hlR hl
theorem w_ApplyE {w : World} {AM AR A : Option Addr} {capM capR cap : Nat} {v0 v2 v3 v4 v5 v6 v7 v8 v9 : Value} (fs : List Fc) (rs : List Ru) (ls : List Sm) (hrM : Rd w AM 18 (fs.map fcC)) (hrR : Rd w AR 4 (rs.map ruC)) (hr : Rd w A 9 (ls.map smC)) (hlM : fs.length ≤ 1000000) (hlR : rs.length ≤ 1000000) (hl : ls.length ≤ 100000) {res : List Sm} (he : (applyS fs rs ls) = res) : Calls Try.prog 22 #[.agg (#[v0, .slice AM fs.length capM, v2, v3, v4, v5, v6, v7, v8, v9]), .slice AR rs.length capR, .slice A ls.length cap] w (fun e w' => ∃ z : Option Addr × Nat, True ∧ e = .returned (.slice z.1 (List.length res) z.2) ∧ SL w [] w' [.row z.1 z.2 24 9 (List.map smC res)]) := he ▸ w_Apply fs rs ls hrM hrR hr hlM hlR hl
set_option maxRecDepth 100000 in
theorem w_sane {w : World} :
    Calls Try.prog 12 #[] w (fun e w' => e = .returned (.bool true) ∧ SL w [] w' []) := by
  refine calls_of_CX (O := []) (L := []) (args := []) Try.func12 rfl (by simp [Try.ntmps12]) (SL.refl w) ?_
  refine CX.sub (V' := []) trivial ?_
  refine CX.seq ?_
  refine CX.region ?_
  refine RX.cons rfl rfl (op_w (yw_assign rfl rfl) rfl rfl ?_)
  refine RX.nil (XX.next (V' := []) trivial ?_)
  refine CX.seq ?_
  refine CX.region ?_
  refine RX.cons rfl rfl (op_callV (v := .agg (smC ⟨1, 1, 1, 5, 0, 0, 0, 0, 0⟩)) rfl rfl rfl rfl rfl ent_27 (fun w hw => w_stream 1 1 5) ?_)
  refine RX.cons rfl rfl (op_callV (v := .agg (smC ⟨2, 1, 1, 5, 0, 0, 0, 0, 0⟩)) rfl rfl rfl rfl rfl ent_27 (fun w hw => w_stream 1 2 5) ?_)
  refine RX.cons rfl rfl (op_callV (v := .agg (smC ⟨2, 1, 2, 6, 0, 0, 0, 0, 0⟩)) rfl rfl rfl rfl rfl ent_27 (fun w hw => w_stream 2 2 6) ?_)
  refine RX.cons rfl rfl (op_callV (v := .agg (smC ⟨3, 1, 3, 5, 0, 0, 0, 0, 0⟩)) rfl rfl rfl rfl rfl ent_27 (fun w hw => w_stream 3 3 5) ?_)
  refine RX.cons rfl rfl (op_buildSlice rfl rfl rfl slb_22 rfl rfl (by intro v hv; simp only [List.mem_cons, List.not_mem_nil, or_false] at hv; rcases hv with rfl | rfl | rfl | rfl <;> exact ⟨rfl, (plain_of rfl)⟩) (by decide) fun sr => ?_)
  refine RX.cons rfl rfl (op_w (yw_assign rfl rfl) rfl rfl ?_)
  refine RX.nil (XX.next (V' := [(1, _)]) ⟨rfl, trivial⟩ ?_)
  refine CX.seq ?_
  refine CX.region ?_
  refine RX.cons rfl rfl (op_w (yw_build (v := .agg (ruC holdR)) rfl rfl (fun _ => by kernel_rfl)) rfl rfl ?_)
  refine RX.cons rfl rfl (op_alloc rfl rfl rfl zero_44 fun g2 => ?_)
  refine RX.cons rfl rfl (op_storeAll (i := 0) rfl rfl rfl rfl szt_44 rfl (plain_of rfl) rfl rfl ?_)
  refine RX.nil (XX.next (V' := [(1, _), (2, _)]) ⟨rfl, rfl, trivial⟩ ?_)
  refine CX.seq ?_
  refine CX.region ?_
  refine RX.cons rfl rfl (op_w (yw_build (v := .agg (ruC voidR)) rfl rfl (fun _ => by kernel_rfl)) rfl rfl ?_)
  refine RX.cons rfl rfl (op_alloc rfl rfl rfl zero_44 fun g3 => ?_)
  refine RX.cons rfl rfl (op_storeAll (i := 0) rfl rfl rfl rfl szt_44 rfl (plain_of rfl) rfl rfl ?_)
  refine RX.nil (XX.next (V' := [(1, _), (2, _), (3, _)]) ⟨rfl, rfl, rfl, trivial⟩ ?_)
  refine CX.seq ?_
  refine CX.region ?_
  refine RX.cons rfl rfl (op_w (yw_build (v := .agg (ruC allowR)) rfl rfl (fun _ => by kernel_rfl)) rfl rfl ?_)
  refine RX.cons rfl rfl (op_alloc rfl rfl rfl zero_44 fun g4 => ?_)
  refine RX.cons rfl rfl (op_storeAll (i := 0) rfl rfl rfl rfl szt_44 rfl (plain_of rfl) rfl rfl ?_)
  refine RX.nil (XX.next (V' := [(1, _), (2, _), (3, _), (4, _)]) ⟨rfl, rfl, rfl, rfl, trivial⟩ ?_)
  refine CX.seq ?_
  refine CX.region ?_
  refine RX.cons rfl rfl (op_w (yw_move rfl rfl) rfl rfl ?_)
  refine RX.cons rfl rfl (op_w (yw_move rfl rfl) rfl rfl ?_)
  refine RX.cons rfl rfl (op_w (yw_index (k := 0) rfl slt_22 rfl rfl rfl (by decide) ⟨_, _, rfl⟩) rfl rfl ?_)
  refine RX.cons rfl rfl (op_yld (y_rowElem (i := 3) rfl rfl agg_24 rfl (show (List.map smC saneL)[0]? = some (smC ⟨1, 1, 1, 5, 0, 0, 0, 0, 0⟩) from rfl)) rfl rfl ?_)
  refine RX.cons rfl rfl (op_callV (v := .int .i64 ((meas saneL ⟨1, 1, 1, 5, 0, 0, 0, 0, 0⟩ 1 1 : Nat) : Int)) rfl rfl rfl rfl rfl ent_14 (fun w hw => w_Measure saneL (Ent.rd (hw.ents _ (List.mem_of_getElem? (i := 3) rfl))) (by decide) ⟨1, 1, 1, 5, 0, 0, 0, 0, 0⟩ 1 1) ?_)
  refine RX.know (t := 22) (u := .int .i64 2) rfl (by rw [sane1]; rfl) ?_
  refine RX.cons rfl rfl (op_w (yw_eql rfl rfl rfl) rfl rfl ?_)
  refine RX.know (t := 23) (u := .bool true) rfl (congrArg Value.bool (decide_eq_true rfl)) ?_
  refine RX.cons rfl rfl (op_w (yw_move rfl rfl) rfl rfl ?_)
  refine RX.consG rfl rfl rfl rfl rfl (op_w (yw_move rfl rfl) rfl rfl ?_)
  refine RX.consG rfl rfl rfl rfl rfl (op_w (yw_move rfl rfl) rfl rfl ?_)
  refine RX.consG rfl rfl rfl rfl rfl (op_w (yw_index (k := 0) rfl slt_22 rfl rfl rfl (by decide) ⟨_, _, rfl⟩) rfl rfl ?_)
  refine RX.consG rfl rfl rfl rfl rfl (op_yld (y_rowElem (i := 3) rfl rfl agg_24 rfl (show (List.map smC saneL)[0]? = some (smC ⟨1, 1, 1, 5, 0, 0, 0, 0, 0⟩) from rfl)) rfl rfl ?_)
  refine RX.consG rfl rfl rfl rfl rfl (op_callV (v := .int .i64 ((meas saneL ⟨1, 1, 1, 5, 0, 0, 0, 0, 0⟩ 3 1 : Nat) : Int)) rfl rfl rfl rfl rfl ent_14 (fun w hw => w_Measure saneL (Ent.rd (hw.ents _ (List.mem_of_getElem? (i := 3) rfl))) (by decide) ⟨1, 1, 1, 5, 0, 0, 0, 0, 0⟩ 3 1) ?_)
  refine RX.know (t := 29) (u := .int .i64 3) rfl (by rw [sane2]; rfl) ?_
  refine RX.consG rfl rfl rfl rfl rfl (op_w (yw_eql rfl rfl rfl) rfl rfl ?_)
  refine RX.know (t := 30) (u := .bool true) rfl (congrArg Value.bool (decide_eq_true rfl)) ?_
  refine RX.cons rfl rfl (op_w (yw_pickT rfl rfl rfl) rfl rfl ?_)
  refine RX.cons rfl rfl (op_w (yw_move rfl rfl) rfl rfl ?_)
  refine RX.consG rfl rfl rfl rfl rfl (op_w (yw_move rfl rfl) rfl rfl ?_)
  refine RX.consG rfl rfl rfl rfl rfl (op_w (yw_move rfl rfl) rfl rfl ?_)
  refine RX.consG rfl rfl rfl rfl rfl (op_w (yw_index (k := 0) rfl slt_22 rfl rfl rfl (by decide) ⟨_, _, rfl⟩) rfl rfl ?_)
  refine RX.consG rfl rfl rfl rfl rfl (op_yld (y_rowElem (i := 3) rfl rfl agg_24 rfl (show (List.map smC saneL)[0]? = some (smC ⟨1, 1, 1, 5, 0, 0, 0, 0, 0⟩) from rfl)) rfl rfl ?_)
  refine RX.consG rfl rfl rfl rfl rfl (op_callV (v := .int .i64 ((meas saneL ⟨1, 1, 1, 5, 0, 0, 0, 0, 0⟩ 3 4 : Nat) : Int)) rfl rfl rfl rfl rfl ent_14 (fun w hw => w_Measure saneL (Ent.rd (hw.ents _ (List.mem_of_getElem? (i := 3) rfl))) (by decide) ⟨1, 1, 1, 5, 0, 0, 0, 0, 0⟩ 3 4) ?_)
  refine RX.know (t := 37) (u := .int .i64 2) rfl (by rw [sane3]; rfl) ?_
  refine RX.consG rfl rfl rfl rfl rfl (op_w (yw_eql rfl rfl rfl) rfl rfl ?_)
  refine RX.know (t := 38) (u := .bool true) rfl (congrArg Value.bool (decide_eq_true rfl)) ?_
  refine RX.cons rfl rfl (op_w (yw_pickT rfl rfl rfl) rfl rfl ?_)
  refine RX.cons rfl rfl (op_w (yw_move rfl rfl) rfl rfl ?_)
  refine RX.consG rfl rfl rfl rfl rfl (op_w (yw_move rfl rfl) rfl rfl ?_)
  refine RX.consG rfl rfl rfl rfl rfl (op_w (yw_move rfl rfl) rfl rfl ?_)
  refine RX.consG rfl rfl rfl rfl rfl (op_w (yw_index (k := 1) rfl slt_22 rfl rfl rfl (by decide) ⟨_, _, rfl⟩) rfl rfl ?_)
  refine RX.consG rfl rfl rfl rfl rfl (op_yld (y_rowElem (i := 3) rfl rfl agg_24 rfl (show (List.map smC saneL)[1]? = some (smC ⟨2, 1, 1, 5, 0, 0, 0, 0, 0⟩) from rfl)) rfl rfl ?_)
  refine RX.consG rfl rfl rfl rfl rfl (op_callV (v := .int .i64 ((meas saneL ⟨2, 1, 1, 5, 0, 0, 0, 0, 0⟩ 2 2 : Nat) : Int)) rfl rfl rfl rfl rfl ent_14 (fun w hw => w_Measure saneL (Ent.rd (hw.ents _ (List.mem_of_getElem? (i := 3) rfl))) (by decide) ⟨2, 1, 1, 5, 0, 0, 0, 0, 0⟩ 2 2) ?_)
  refine RX.know (t := 45) (u := .int .i64 2) rfl (by rw [sane4]; rfl) ?_
  refine RX.consG rfl rfl rfl rfl rfl (op_w (yw_eql rfl rfl rfl) rfl rfl ?_)
  refine RX.know (t := 46) (u := .bool true) rfl (congrArg Value.bool (decide_eq_true rfl)) ?_
  refine RX.cons rfl rfl (op_w (yw_pickT rfl rfl rfl) rfl rfl ?_)
  refine RX.cons rfl rfl (op_w (yw_assign rfl rfl) rfl rfl ?_)
  refine RX.nil (XX.next (V' := [(1, _), (2, _), (3, _), (4, _), (5, _)]) ⟨rfl, rfl, rfl, rfl, rfl, trivial⟩ ?_)
  refine CX.seq ?_
  refine CX.region ?_
  refine RX.cons rfl rfl (op_yld (y_loadA (i := 2) rfl rfl agg_44 rfl rfl) rfl rfl ?_)
  refine RX.cons rfl rfl (op_buildSlice rfl rfl rfl slb_30 rfl rfl (by intro v hv; simp only [List.mem_cons, List.not_mem_nil, or_false] at hv; subst hv; exact ⟨rfl, (plain_of rfl)⟩) (by decide) fun q6 => ?_)
  refine RX.cons rfl rfl (op_w (yw_move rfl rfl) rfl rfl ?_)
  refine RX.cons rfl rfl (op_callE rfl rfl rfl rfl rfl ent_19 (fun w hw => w_JudgeE [holdR] saneL (Ent.rd (hw.ents _ (List.mem_of_getElem? (i := 0) rfl))) (Ent.rd (hw.ents _ (List.mem_of_getElem? (i := 4) rfl))) (by decide) (by decide) saneA) (fun ⟨A1, c1⟩ _ => ?_))
  refine RX.cons rfl rfl (op_buildSlice rfl rfl rfl slb_36 rfl rfl (by intro v hv; simp only [List.mem_cons, List.not_mem_nil, or_false] at hv; rcases hv with rfl | rfl | rfl | rfl <;> exact ⟨rfl, (plain_of rfl)⟩) (by decide) fun p6 => ?_)
  refine RX.cons rfl rfl (op_callV (v := .bool (decide (([2, 2, 2, 1] : List Int) = ([2, 2, 2, 1] : List Int)))) rfl rfl rfl rfl rfl ent_18 (fun w hw => w_sameInts ([2, 2, 2, 1] : List Int) ([2, 2, 2, 1] : List Int) (Ent.rd (hw.ents _ (List.mem_of_getElem? (i := 1) rfl))) (Ent.rd (hw.ents _ (List.mem_of_getElem? (i := 0) rfl))) (by decide)) ?_)
  refine RX.know (t := 53) (u := .bool true) rfl (congrArg Value.bool (decide_eq_true rfl)) ?_
  refine RX.cons rfl rfl (op_w (yw_assign rfl rfl) rfl rfl ?_)
  refine RX.nil (XX.next (V' := [(1, _), (2, _), (3, _), (4, _), (5, _), (6, _)]) ⟨rfl, rfl, rfl, rfl, rfl, rfl, trivial⟩ ?_)
  refine CX.seq ?_
  refine CX.region ?_
  refine RX.cons rfl rfl (op_yld (y_loadA (i := 5) rfl rfl agg_44 rfl rfl) rfl rfl ?_)
  refine RX.cons rfl rfl (op_yld (y_loadA (i := 4) rfl rfl agg_44 rfl rfl) rfl rfl ?_)
  refine RX.cons rfl rfl (op_buildSlice rfl rfl rfl slb_30 rfl rfl (by intro v hv; simp only [List.mem_cons, List.not_mem_nil, or_false] at hv; rcases hv with rfl | rfl <;> exact ⟨rfl, (plain_of rfl)⟩) (by decide) fun q7 => ?_)
  refine RX.cons rfl rfl (op_w (yw_move rfl rfl) rfl rfl ?_)
  refine RX.cons rfl rfl (op_callE rfl rfl rfl rfl rfl ent_19 (fun w hw => w_JudgeE [holdR, voidR] saneL (Ent.rd (hw.ents _ (List.mem_of_getElem? (i := 0) rfl))) (Ent.rd (hw.ents _ (List.mem_of_getElem? (i := 7) rfl))) (by decide) (by decide) saneB) (fun ⟨A1, c1⟩ _ => ?_))
  refine RX.cons rfl rfl (op_buildSlice rfl rfl rfl slb_36 rfl rfl (by intro v hv; simp only [List.mem_cons, List.not_mem_nil, or_false] at hv; rcases hv with rfl | rfl | rfl | rfl <;> exact ⟨rfl, (plain_of rfl)⟩) (by decide) fun p7 => ?_)
  refine RX.cons rfl rfl (op_callV (v := .bool (decide (([2, 3, 3, 1] : List Int) = ([2, 3, 3, 1] : List Int)))) rfl rfl rfl rfl rfl ent_18 (fun w hw => w_sameInts ([2, 3, 3, 1] : List Int) ([2, 3, 3, 1] : List Int) (Ent.rd (hw.ents _ (List.mem_of_getElem? (i := 1) rfl))) (Ent.rd (hw.ents _ (List.mem_of_getElem? (i := 0) rfl))) (by decide)) ?_)
  refine RX.know (t := 60) (u := .bool true) rfl (congrArg Value.bool (decide_eq_true rfl)) ?_
  refine RX.cons rfl rfl (op_w (yw_assign rfl rfl) rfl rfl ?_)
  refine RX.nil (XX.next (V' := [(1, _), (2, _), (3, _), (4, _), (5, _), (6, _), (7, _)]) ⟨rfl, rfl, rfl, rfl, rfl, rfl, rfl, trivial⟩ ?_)
  refine CX.seq ?_
  refine CX.region ?_
  refine RX.cons rfl rfl (op_yld (y_loadA (i := 8) rfl rfl agg_44 rfl rfl) rfl rfl ?_)
  refine RX.cons rfl rfl (op_yld (y_loadA (i := 7) rfl rfl agg_44 rfl rfl) rfl rfl ?_)
  refine RX.cons rfl rfl (op_yld (y_loadA (i := 6) rfl rfl agg_44 rfl rfl) rfl rfl ?_)
  refine RX.cons rfl rfl (op_buildSlice rfl rfl rfl slb_30 rfl rfl (by intro v hv; simp only [List.mem_cons, List.not_mem_nil, or_false] at hv; rcases hv with rfl | rfl | rfl <;> exact ⟨rfl, (plain_of rfl)⟩) (by decide) fun q8 => ?_)
  refine RX.cons rfl rfl (op_w (yw_move rfl rfl) rfl rfl ?_)
  refine RX.cons rfl rfl (op_callE rfl rfl rfl rfl rfl ent_19 (fun w hw => w_JudgeE [holdR, voidR, allowR] saneL (Ent.rd (hw.ents _ (List.mem_of_getElem? (i := 0) rfl))) (Ent.rd (hw.ents _ (List.mem_of_getElem? (i := 10) rfl))) (by decide) (by decide) saneC) (fun ⟨A1, c1⟩ _ => ?_))
  refine RX.cons rfl rfl (op_buildSlice rfl rfl rfl slb_36 rfl rfl (by intro v hv; simp only [List.mem_cons, List.not_mem_nil, or_false] at hv; rcases hv with rfl | rfl | rfl | rfl <;> exact ⟨rfl, (plain_of rfl)⟩) (by decide) fun p8 => ?_)
  refine RX.cons rfl rfl (op_callV (v := .bool (decide (([2, 3, 1, 1] : List Int) = ([2, 3, 1, 1] : List Int)))) rfl rfl rfl rfl rfl ent_18 (fun w hw => w_sameInts ([2, 3, 1, 1] : List Int) ([2, 3, 1, 1] : List Int) (Ent.rd (hw.ents _ (List.mem_of_getElem? (i := 1) rfl))) (Ent.rd (hw.ents _ (List.mem_of_getElem? (i := 0) rfl))) (by decide)) ?_)
  refine RX.know (t := 68) (u := .bool true) rfl (congrArg Value.bool (decide_eq_true rfl)) ?_
  refine RX.cons rfl rfl (op_w (yw_assign rfl rfl) rfl rfl ?_)
  refine RX.nil (XX.next (V' := [(1, _), (2, _), (3, _), (5, _), (6, _), (7, _), (8, _)]) ⟨rfl, rfl, rfl, rfl, rfl, rfl, rfl, trivial⟩ ?_)
  refine CX.seq ?_
  refine CX.region ?_
  refine RX.cons rfl rfl (op_w (yw_build (v := .agg (fcC saneF)) rfl rfl (fun _ => by kernel_rfl)) rfl rfl ?_)
  refine RX.cons rfl rfl (op_buildSlice rfl rfl rfl slb_31 rfl rfl (by intro v hv; simp only [List.mem_cons, List.not_mem_nil, or_false] at hv; subst hv; exact ⟨rfl, (plain_of rfl)⟩) (by decide) fun mr => ?_)
  refine RX.cons rfl rfl (op_w (yw_build (v := .agg (#[.slice none 0 0, .slice (some ⟨mr, 0, none⟩) 1 1, .slice none 0 0, .slice none 0 0, .slice none 0 0, .slice none 0 0, .slice none 0 0, .slice none 0 0, .slice none 0 0, .slice none 0 0])) rfl rfl (fun _ => by kernel_rfl)) rfl rfl ?_)
  refine RX.cons rfl rfl (op_yld (y_loadA (i := 12) rfl rfl agg_44 rfl rfl) rfl rfl ?_)
  refine RX.cons rfl rfl (op_yld (y_loadA (i := 11) rfl rfl agg_44 rfl rfl) rfl rfl ?_)
  refine RX.cons rfl rfl (op_buildSlice rfl rfl rfl slb_30 rfl rfl (by intro v hv; simp only [List.mem_cons, List.not_mem_nil, or_false] at hv; rcases hv with rfl | rfl <;> exact ⟨rfl, (plain_of rfl)⟩) (by decide) fun q9 => ?_)
  refine RX.cons rfl rfl (op_w (yw_move rfl rfl) rfl rfl ?_)
  refine RX.cons rfl rfl (op_callE rfl rfl rfl rfl rfl ent_22 (fun w hw => w_ApplyE [saneF] [holdR, voidR] saneL (Ent.rd (hw.ents _ (List.mem_of_getElem? (i := 1) rfl))) (Ent.rd (hw.ents _ (List.mem_of_getElem? (i := 0) rfl))) (Ent.rd (hw.ents _ (List.mem_of_getElem? (i := 14) rfl))) (by decide) (by decide) (by decide) saneD) (fun ⟨A1, c1⟩ _ => ?_))
  refine RX.cons rfl rfl (op_w (yw_assign rfl rfl) rfl rfl ?_)
  refine RX.nil (XX.next (V' := [(5, _), (6, _), (7, _), (8, _), (9, _)]) ⟨rfl, rfl, rfl, rfl, rfl, trivial⟩ ?_)
  refine CX.seq ?_
  refine CX.rowSome 0 rfl (by decide) (fun hAm => ?_)
  refine CX.region ?_
  refine RX.cons rfl rfl (op_w (yw_move rfl rfl) rfl rfl ?_)
  refine RX.cons rfl rfl (op_w (yw_move rfl rfl) rfl rfl ?_)
  refine RX.consG rfl rfl rfl rfl rfl (op_w (yw_move rfl rfl) rfl rfl ?_)
  refine RX.cons rfl rfl (op_w (yw_pickT rfl rfl rfl) rfl rfl ?_)
  refine RX.cons rfl rfl (op_w (yw_move rfl rfl) rfl rfl ?_)
  refine RX.consG rfl rfl rfl rfl rfl (op_w (yw_move rfl rfl) rfl rfl ?_)
  refine RX.cons rfl rfl (op_w (yw_pickT rfl rfl rfl) rfl rfl ?_)
  refine RX.cons rfl rfl (op_w (yw_move rfl rfl) rfl rfl ?_)
  refine RX.consG rfl rfl rfl rfl rfl (op_w (yw_move rfl rfl) rfl rfl ?_)
  refine RX.cons rfl rfl (op_w (yw_pickT rfl rfl rfl) rfl rfl ?_)
  refine RX.cons rfl rfl (op_w (yw_move rfl rfl) rfl rfl ?_)
  refine RX.consG rfl rfl rfl rfl rfl (op_w (yw_move rfl rfl) rfl rfl ?_)
  refine RX.consG rfl rfl rfl rfl rfl (op_w (yw_lenS rfl Try.underlying22 rfl) rfl rfl ?_)
  refine RX.consG rfl rfl rfl rfl rfl (op_w (yw_eql rfl rfl rfl) rfl rfl ?_)
  refine RX.know (t := 90) (u := .bool true) rfl (congrArg Value.bool (decide_eq_true rfl)) ?_
  refine RX.cons rfl rfl (op_w (yw_pickT rfl rfl rfl) rfl rfl ?_)
  refine RX.cons rfl rfl (op_w (yw_move rfl rfl) rfl rfl ?_)
  refine RX.consG rfl rfl rfl rfl rfl (op_w (yw_move rfl rfl) rfl rfl ?_)
  refine RX.consG rfl rfl rfl rfl rfl (op_w (yw_index (k := 0) rfl slt_22 rfl rfl rfl (by decide) hAm) rfl rfl ?_)
  refine RX.consG rfl rfl rfl rfl rfl (op_w (yw_fieldAddr rfl fld_24_8 rfl) rfl rfl ?_)
  refine RX.consG rfl rfl rfl rfl rfl (op_yld (y_rowElemF (i := 0) rfl rfl one_3 rfl (show (List.map smC saneM)[0]? = some (smC ⟨1, 1, 1, 5, 0, 0, 0, 0, 2⟩) from rfl) rfl) rfl rfl ?_)
  refine RX.consG rfl rfl rfl rfl rfl (op_w (yw_eql rfl rfl rfl) rfl rfl ?_)
  refine RX.know (t := 97) (u := .bool true) rfl (congrArg Value.bool (decide_eq_true rfl)) ?_
  refine RX.cons rfl rfl (op_w (yw_pickT rfl rfl rfl) rfl rfl ?_)
  refine RX.cons rfl rfl (op_w (yw_move rfl rfl) rfl rfl ?_)
  refine RX.consG rfl rfl rfl rfl rfl (op_w (yw_move rfl rfl) rfl rfl ?_)
  refine RX.consG rfl rfl rfl rfl rfl (op_w (yw_index (k := 1) rfl slt_22 rfl rfl rfl (by decide) hAm) rfl rfl ?_)
  refine RX.consG rfl rfl rfl rfl rfl (op_w (yw_fieldAddr rfl fld_24_8 rfl) rfl rfl ?_)
  refine RX.consG rfl rfl rfl rfl rfl (op_yld (y_rowElemF (i := 0) rfl rfl one_3 rfl (show (List.map smC saneM)[1]? = some (smC ⟨2, 1, 1, 5, 0, 0, 0, 0, 1⟩) from rfl) rfl) rfl rfl ?_)
  refine RX.consG rfl rfl rfl rfl rfl (op_w (yw_eql rfl rfl rfl) rfl rfl ?_)
  refine RX.know (t := 104) (u := .bool true) rfl (congrArg Value.bool (decide_eq_true rfl)) ?_
  refine RX.cons rfl rfl (op_w (yw_pickT rfl rfl rfl) rfl rfl ?_)
  refine RX.cons rfl rfl (op_w (yw_move rfl rfl) rfl rfl ?_)
  refine RX.consG rfl rfl rfl rfl rfl (op_w (yw_move rfl rfl) rfl rfl ?_)
  refine RX.consG rfl rfl rfl rfl rfl (op_w (yw_index (k := 2) rfl slt_22 rfl rfl rfl (by decide) hAm) rfl rfl ?_)
  refine RX.consG rfl rfl rfl rfl rfl (op_w (yw_fieldAddr rfl fld_24_8 rfl) rfl rfl ?_)
  refine RX.consG rfl rfl rfl rfl rfl (op_yld (y_rowElemF (i := 0) rfl rfl one_3 rfl (show (List.map smC saneM)[2]? = some (smC ⟨2, 1, 2, 6, 0, 0, 0, 0, 1⟩) from rfl) rfl) rfl rfl ?_)
  refine RX.consG rfl rfl rfl rfl rfl (op_w (yw_eql rfl rfl rfl) rfl rfl ?_)
  refine RX.know (t := 111) (u := .bool true) rfl (congrArg Value.bool (decide_eq_true rfl)) ?_
  refine RX.cons rfl rfl (op_w (yw_pickT rfl rfl rfl) rfl rfl ?_)
  refine RX.cons rfl rfl (op_w (yw_move rfl rfl) rfl rfl ?_)
  refine RX.consG rfl rfl rfl rfl rfl (op_w (yw_move rfl rfl) rfl rfl ?_)
  refine RX.consG rfl rfl rfl rfl rfl (op_w (yw_index (k := 3) rfl slt_22 rfl rfl rfl (by decide) hAm) rfl rfl ?_)
  refine RX.consG rfl rfl rfl rfl rfl (op_w (yw_fieldAddr rfl fld_24_8 rfl) rfl rfl ?_)
  refine RX.consG rfl rfl rfl rfl rfl (op_yld (y_rowElemF (i := 0) rfl rfl one_3 rfl (show (List.map smC saneM)[3]? = some (smC ⟨3, 1, 3, 5, 0, 0, 0, 0, 1⟩) from rfl) rfl) rfl rfl ?_)
  refine RX.consG rfl rfl rfl rfl rfl (op_w (yw_eql rfl rfl rfl) rfl rfl ?_)
  refine RX.know (t := 118) (u := .bool true) rfl (congrArg Value.bool (decide_eq_true rfl)) ?_
  refine RX.cons rfl rfl (op_w (yw_pickT rfl rfl rfl) rfl rfl ?_)
  refine RX.cons rfl rfl (op_w (yw_assign rfl rfl) rfl rfl ?_)
  refine RX.nil (XX.next (V' := [(0, .bool true)]) ⟨rfl, trivial⟩ ?_)
  refine CX.ret ?_
  exact ret_tmp rfl rfl fun w1 hw => ⟨rfl, hw.sub (List.nil_sublist _)⟩

end Go.Proofs.Ytpcfgoadkfajfaa
namespace Go.Proofs.Ytpcfgoadkfajfaa
set_option linter.all false
open Go Go.RowKit Go.ChangeShapes Go.WideShapes
section
variable {H : Type} {enc : TypeId × Value → H} {P : Program} {w : World} {base : Nat} {spare : Nat → Bool} {held : Bool}

def isI64 (n : Int) : Prop := -9223372036854775808 ≤ n ∧ n ≤ 9223372036854775807
theorem wf_i64 {n : Int} (h : (Lit.int .i64 n).wf = true) : isI64 n := by
  simpa [Lit.wf, isI64, IntKind.min, IntKind.max, IntKind.bits, IntKind.signed] using h

/-- The cell of a field of a struct. -/
theorem field_at {fs : Array Field} {cs : List Value} {xs : List (DataW H × List MemPlace)} {n i : Nat} {f : Field} (hx : ∀ (i : Nat) (f : Field), fs[i]? = some f → DataW.trod enc P w base spare held n f.type ((cs.drop f.offset).take (P.cellsOf f.type)) = xs[i]?)
    (hl : xs.length = fs.size) (hf : fs[i]? = some f) : ∃ y, DataW.trod enc P w base spare held n f.type ((cs.drop f.offset).take (P.cellsOf f.type)) = some y := by
  have hi : i < xs.length := by rw [hl]; exact (Array.getElem?_eq_some_iff.1 hf).1
  exact ⟨xs[i], (hx i f hf).trans (List.getElem?_eq_getElem hi)⟩
theorem field_int {fs : Array Field} {cs : List Value} {xs : List (DataW H × List MemPlace)} {n i : Nat} {f : Field} (hx : ∀ (i : Nat) (f : Field), fs[i]? = some f → DataW.trod enc P w base spare held n f.type ((cs.drop f.offset).take (P.cellsOf f.type)) = xs[i]?)
    (hl : xs.length = fs.size) (hf : fs[i]? = some f) (ht : P.underlying f.type = some (.int .i64)) (hc : P.cellsOf f.type = 1) : ∃ k, cs[f.offset]? = some (.int .i64 k) ∧ isI64 k := by
  obtain ⟨y, h⟩ := field_at hx hl hf
  obtain ⟨k, h1, _, h3⟩ := DataW.trod_int ht h
  refine ⟨k, ?_, wf_i64 h3⟩
  rw [hc] at h1
  have := congrArg (·[0]?) h1
  simpa using this
theorem field_str {fs : Array Field} {cs : List Value} {xs : List (DataW H × List MemPlace)} {n i : Nat} {f : Field} (hx : ∀ (i : Nat) (f : Field), fs[i]? = some f → DataW.trod enc P w base spare held n f.type ((cs.drop f.offset).take (P.cellsOf f.type)) = xs[i]?)
    (hl : xs.length = fs.size) (hf : fs[i]? = some f) (ht : P.underlying f.type = some .string) (hc : P.cellsOf f.type = 1) : ∃ s : ByteArray, cs[f.offset]? = some (.string s) ∧ s.size ≤ maxLen := by
  obtain ⟨y, h⟩ := field_at hx hl hf
  obtain ⟨s, h1, _, h3⟩ := DataW.trod_string ht h
  refine ⟨s, ?_, h3⟩
  rw [hc] at h1
  have := congrArg (·[0]?) h1
  simpa using this

/-- A slice whose elements are known to be values of a type α under an encoding. -/
theorem open_rows {α : Type} {t e : TypeId} {sz fuel : Nat} (cells : α → Array Value) (good : α → Prop) (d : α) {A : Option Addr} {len cap : Nat} {x : DataW H × List MemPlace} (ht : P.underlying t = some (.slice e)) (hc : P.cellsOf e = sz) (hsz : ∀ x, (cells x).size = sz) (hpos : 0 < sz) (hone : ∀ x, ∀ u ∈ (cells x).toList, u.oneCell' = true)
    (hel : ∀ n cs y, DataW.trod enc P w base spare held n e cs = some y → ∃ x, cs = (cells x).toList ∧ good x)
    (h : DataW.trod enc P w base spare held fuel t (Value.slice A len cap).cells.toList = some x) :
    ∃ xs : List α, len = xs.length ∧ Rd w A sz (xs.map cells) ∧ (∀ x ∈ xs, good x) ∧ xs.length ≤ cap ∧ cap ≤ maxLen := by
  rcases DataW.trod_slice ht h with ⟨h0, _⟩ | ⟨a, len', cap', elems, rest, n, _, h1, _, _, hl, hm, hlen, hat, _, _⟩
  · have e0 : Value.slice A len cap = .slice none 0 0 := by simpa [Value.cells] using h0
    injection e0 with e1 e2 e3
    subst e1; subst e2; subst e3
    exact ⟨[], rfl, Rd.nil _ _ _, by simp, Nat.le_refl _, Nat.zero_le _⟩
  · have e0 : Value.slice A len cap = .slice (some a) len' cap' := by simpa [Value.cells] using h1
    injection e0 with e1 e2 e3
    subst e1; subst e2; subst e3
    have each : ∀ i, i < len → ∃ x : α, w.cells? base (a.add (i * sz)) sz = some (cells x).toList ∧ good x := by
      intro i hi
      have hi' := hat i hi
      rw [List.getElem?_eq_getElem (by omega), hc] at hi'
      obtain ⟨cs, hcs, hy⟩ := Option.bind_eq_some_iff.1 hi'
      obtain ⟨x, rfl, hg⟩ := hel _ _ _ hy
      exact ⟨x, hcs, hg⟩
    obtain ⟨F, hF⟩ := @Go.Deep.choose_lt α ⟨d⟩ len _ each
    refine ⟨(List.range len).map F, by simp, ⟨?_⟩, ?_, by simpa using hl, hm⟩
    · intro k c hk
      rw [List.getElem?_map, List.getElem?_map] at hk
      have hkl : k < len := by
        rcases Nat.lt_or_ge k len with h | h
        · exact h
        · rw [List.getElem?_eq_none (by simpa using h)] at hk; simp at hk
      rw [List.getElem?_range hkl] at hk
      simp only [Option.map_some, Option.some.injEq] at hk
      subst hk
      obtain ⟨_, _, hcell⟩ := World.cells?_some (hF k hkl).1
      have h0 := hcell 0 hpos
      obtain ⟨v, hs0⟩ : ∃ v, (cells (F k)).toList[0]? = some v := ⟨_, List.getElem?_eq_getElem (by rw [Array.length_toList, hsz]; exact hpos)⟩
      rw [hs0] at h0
      obtain ⟨b, off, spot⟩ := a
      have hspot : spot = none := by
        obtain ⟨_, _, hz⟩ := World.cells?_some (hF 0 (by omega)).1
        have hz0 := hz 0 hpos
        obtain ⟨u, hu⟩ : ∃ u, (cells (F 0)).toList[0]? = some u := ⟨_, List.getElem?_eq_getElem (by rw [Array.length_toList, hsz]; exact hpos)⟩
        rw [hu] at hz0
        simpa [Addr.add] using World.cell?_spot hz0
      subst hspot
      refine ⟨hsz _, ⟨b, off, rfl⟩, ?_, hone _, fun j hj => ?_⟩
      · have := World.block_lt_of_cell? w _ h0
        rw [add_none, add_none] at this
        exact this
      · have := hcell j hj
        rw [Array.getElem?_toList, add_none, add_none] at this
        exact this
    · intro x hx
      obtain ⟨k, hk, rfl⟩ := List.mem_map.1 hx
      exact (hF k (by simpa using hk)).2
end

section
variable {H : Type} {enc : TypeId × Value → H} {P : Program} {W W' : World}
theorem trodAll_stays (hl : laidOutB P = true) (hb : Below W.heap.size W W') : ∀ {ts : List TypeId} {vs : List Value} {ds : List (DataW H)} {ps : List MemPlace}, (∀ t ∈ ts, P.readableRec t = true ∧ t < P.types.size) →
    DataW.TrodAll enc P W 0 (fun _ => true) true ts vs ds ps → (∀ x ∈ ps, x.block < W.heap.size) → DataW.TrodAll enc P W' 0 (fun b => decide (b < W.heap.size)) true ts vs ds ps
  | [], [], [], _, _, h, _ => h
  | t :: _, _ :: _, _ :: _, _, ht, ⟨p, q, h1, h2, e⟩, hs =>
    ⟨p, q, Below.trod hl (ht t List.mem_cons_self).1 (ht t List.mem_cons_self).2 h1 hb (fun x hx => hs x (by rw [e]; exact List.mem_append_left _ hx)), trodAll_stays hl hb (fun u hu => ht u (List.mem_cons_of_mem _ hu)) h2 (fun x hx => hs x (by rw [e]; exact List.mem_append_right _ hx)), e⟩

/-- The law's end: it has returned true, and the arguments read as they did. -/
theorem law_post {f : Func} {s : ChangeSpec} {args : Array Value} {ds gs : List (DataW H)} {before : List MemPlace} {tb : TypeId} (hl : laidOutB P = true) (ht : f.params.toList.all (fun t => P.readableRec t && decide (t < P.types.size)) = true)
    (hW : DataW.Whole enc P f.params.toList s.vars false W args.toList ds gs before) (hv : s.vars = []) (hfn : s.fn H (ds ++ gs) = { results := [.lit (.bool true)], args := ds }) (hr : f.resultTypes = #[tb]) (htb : P.underlying tb = some .bool) (hb : Below W.heap.size W W') :
    s.post enc P f false true false false W args (.bool true) W' := by
  have hlt : ∀ x ∈ before, x.block < W.heap.size := fun x hx => hW.lt x hx
  have hW' := hW
  obtain ⟨p, q, hA, hV, he, _, _⟩ := hW'
  refine ⟨ds, gs, before, [], p, [], hW, ?_, ?_, ?_, hb.frame _, fun h => by cases h⟩
  · rw [hfn, hr]
    exact trodAll_mk1 (shut_bool htb _)
  · rw [hfn]
    exact trodAll_stays hl hb (fun t h => by have := List.all_eq_true.1 ht t h; simpa using this) hA (fun x hx => hlt x (by rw [he]; exact List.mem_append_left _ hx))
  · rw [hfn, hv]
    exact rfl
end
end Go.Proofs.Ytpcfgoadkfajfaa
namespace Go.Proofs.Ytpcfgoadkfajfaa
set_option linter.all false
open Go Go.RowKit Go.ChangeShapes Go.WideShapes
set_option maxRecDepth 100000
theorem c3 : Try.prog.cellsOf 3 = 1 := by kernel_rfl
theorem c9 : Try.prog.cellsOf 9 = 1 := by kernel_rfl
theorem c24 : Try.prog.cellsOf 24 = 9 := by kernel_rfl
theorem c44 : Try.prog.cellsOf 44 = 4 := by kernel_rfl
theorem c58 : Try.prog.cellsOf 58 = 18 := by kernel_rfl
theorem laidOut : laidOutB Try.prog = true := by kernel_rfl
theorem own : ownKnob Try.prog.godebug = none := by kernel_rfl
section
variable {H : Type} {enc : TypeId × Value → H} {w : World} {base : Nat} {spare : Nat → Bool} {held : Bool}
theorem open_sm (n : Nat) (cs : List Value) (y : DataW H × List MemPlace) (h : DataW.trod enc Try.prog w base spare held n 24 cs = some y) : ∃ f : Sm, cs = (smC f).toList ∧ True := by
  obtain ⟨xs, m, _, _, hlen, hxl, hx⟩ := DataW.trod_struct Try.underlying24 h
  rw [c24] at hlen
  obtain ⟨k0, e0, i0⟩ := field_int (i := 0) hx hxl rfl Try.underlying3 c3
  obtain ⟨k1, e1, i1⟩ := field_int (i := 1) hx hxl rfl Try.underlying3 c3
  obtain ⟨k2, e2, i2⟩ := field_int (i := 2) hx hxl rfl Try.underlying3 c3
  obtain ⟨k3, e3, i3⟩ := field_int (i := 3) hx hxl rfl Try.underlying3 c3
  obtain ⟨k4, e4, i4⟩ := field_int (i := 4) hx hxl rfl Try.underlying3 c3
  obtain ⟨k5, e5, i5⟩ := field_int (i := 5) hx hxl rfl Try.underlying3 c3
  obtain ⟨k6, e6, i6⟩ := field_int (i := 6) hx hxl rfl Try.underlying3 c3
  obtain ⟨k7, e7, i7⟩ := field_int (i := 7) hx hxl rfl Try.underlying3 c3
  obtain ⟨k8, e8, i8⟩ := field_int (i := 8) hx hxl rfl Try.underlying3 c3
  refine ⟨⟨k0, k1, k2, k3, k4, k5, k6, k7, k8⟩, List.ext_getElem? fun i => ?_, trivial⟩
  match i with
  | 0 => exact e0.trans rfl
  | 1 => exact e1.trans rfl
  | 2 => exact e2.trans rfl
  | 3 => exact e3.trans rfl
  | 4 => exact e4.trans rfl
  | 5 => exact e5.trans rfl
  | 6 => exact e6.trans rfl
  | 7 => exact e7.trans rfl
  | 8 => exact e8.trans rfl
  | i + 9 => rw [List.getElem?_eq_none (by omega), List.getElem?_eq_none (by simp)]
theorem open_ru (n : Nat) (cs : List Value) (y : DataW H × List MemPlace) (h : DataW.trod enc Try.prog w base spare held n 44 cs = some y) : ∃ f : Ru, cs = (ruC f).toList ∧ isI64 f.n := by
  obtain ⟨xs, m, _, _, hlen, hxl, hx⟩ := DataW.trod_struct Try.underlying44 h
  rw [c44] at hlen
  obtain ⟨k0, e0, i0⟩ := field_int (i := 0) hx hxl rfl Try.underlying3 c3
  obtain ⟨k1, e1, i1⟩ := field_int (i := 1) hx hxl rfl Try.underlying3 c3
  obtain ⟨k2, e2, i2⟩ := field_int (i := 2) hx hxl rfl Try.underlying3 c3
  obtain ⟨k3, e3, i3⟩ := field_int (i := 3) hx hxl rfl Try.underlying3 c3
  refine ⟨⟨k0, k1, k2, k3⟩, List.ext_getElem? fun i => ?_, i3⟩
  match i with
  | 0 => exact e0.trans rfl
  | 1 => exact e1.trans rfl
  | 2 => exact e2.trans rfl
  | 3 => exact e3.trans rfl
  | i + 4 => rw [List.getElem?_eq_none (by omega), List.getElem?_eq_none (by simp)]
theorem open_fc (n : Nat) (cs : List Value) (y : DataW H × List MemPlace) (h : DataW.trod enc Try.prog w base spare held n 58 cs = some y) : ∃ f : Fc, cs = (fcC f).toList ∧ True := by
  obtain ⟨xs, m, _, _, hlen, hxl, hx⟩ := DataW.trod_struct Try.underlying58 h
  rw [c58] at hlen
  obtain ⟨k0, e0, i0⟩ := field_int (i := 0) hx hxl rfl Try.underlying3 c3
  obtain ⟨k1, e1, i1⟩ := field_int (i := 1) hx hxl rfl Try.underlying3 c3
  obtain ⟨k2, e2, i2⟩ := field_int (i := 2) hx hxl rfl Try.underlying3 c3
  obtain ⟨k3, e3, i3⟩ := field_int (i := 3) hx hxl rfl Try.underlying3 c3
  obtain ⟨k4, e4, i4⟩ := field_int (i := 4) hx hxl rfl Try.underlying3 c3
  obtain ⟨k5, e5, i5⟩ := field_int (i := 5) hx hxl rfl Try.underlying3 c3
  obtain ⟨k6, e6, i6⟩ := field_int (i := 6) hx hxl rfl Try.underlying3 c3
  obtain ⟨k7, e7, i7⟩ := field_int (i := 7) hx hxl rfl Try.underlying3 c3
  obtain ⟨k8, e8, i8⟩ := field_int (i := 8) hx hxl rfl Try.underlying3 c3
  obtain ⟨k9, e9, i9⟩ := field_int (i := 9) hx hxl rfl Try.underlying3 c3
  obtain ⟨k10, e10, i10⟩ := field_int (i := 10) hx hxl rfl Try.underlying3 c3
  obtain ⟨k11, e11, i11⟩ := field_int (i := 11) hx hxl rfl Try.underlying3 c3
  obtain ⟨k12, e12, i12⟩ := field_int (i := 12) hx hxl rfl Try.underlying3 c3
  obtain ⟨k13, e13, i13⟩ := field_int (i := 13) hx hxl rfl Try.underlying3 c3
  obtain ⟨k14, e14, i14⟩ := field_int (i := 14) hx hxl rfl Try.underlying3 c3
  obtain ⟨k15, e15, i15⟩ := field_int (i := 15) hx hxl rfl Try.underlying3 c3
  obtain ⟨k16, e16, i16⟩ := field_int (i := 16) hx hxl rfl Try.underlying3 c3
  obtain ⟨k17, e17, i17⟩ := field_str (i := 17) hx hxl rfl Try.underlying9 c9
  refine ⟨⟨k0, k1, k2, k3, k4, k5, k6, k7, k8, k9, k10, k11, k12, k13, k14, k15, k16, k17⟩, List.ext_getElem? fun i => ?_, trivial⟩
  match i with
  | 0 => exact e0.trans rfl
  | 1 => exact e1.trans rfl
  | 2 => exact e2.trans rfl
  | 3 => exact e3.trans rfl
  | 4 => exact e4.trans rfl
  | 5 => exact e5.trans rfl
  | 6 => exact e6.trans rfl
  | 7 => exact e7.trans rfl
  | 8 => exact e8.trans rfl
  | 9 => exact e9.trans rfl
  | 10 => exact e10.trans rfl
  | 11 => exact e11.trans rfl
  | 12 => exact e12.trans rfl
  | 13 => exact e13.trans rfl
  | 14 => exact e14.trans rfl
  | 15 => exact e15.trans rfl
  | 16 => exact e16.trans rfl
  | 17 => exact e17.trans rfl
  | i + 18 => rw [List.getElem?_eq_none (by omega), List.getElem?_eq_none (by simp)]
theorem open_sms {b0 : Nat} {v : Value} {d : DataW H} {ps : List MemPlace} (hv : Value.okWide Try.prog w .any b0 22 v) (h : DataW.Trod enc Try.prog w base spare held 22 v d ps) :
    ∃ (A : Option Addr) (cap : Nat) (X : List Sm), v = .slice A X.length cap ∧ Rd w A 9 (X.map smC) ∧ (∀ f ∈ X, True) ∧ X.length ≤ cap ∧ X.length ≤ 9223372036854775807 := by
  obtain ⟨A, len, cap, rfl⟩ := okWide_slice Try.underlying22 hv
  obtain ⟨fuel, hf⟩ := h
  obtain ⟨X, rfl, hr, hg, h1, h2⟩ := open_rows (fun x : Sm => smC x) (fun f => True) ⟨0, 0, 0, 0, 0, 0, 0, 0, 0⟩ Try.underlying22 c24 (fun _ => rfl) (by decide) (fun x u hu => by simp at hu; rcases hu with rfl | rfl | rfl | rfl | rfl | rfl | rfl | rfl | rfl <;> rfl) open_sm hf
  exact ⟨A, cap, X, rfl, hr, hg, h1, Nat.le_trans h1 (Nat.le_trans h2 (by decide))⟩
theorem open_rus {b0 : Nat} {v : Value} {d : DataW H} {ps : List MemPlace} (hv : Value.okWide Try.prog w .any b0 30 v) (h : DataW.Trod enc Try.prog w base spare held 30 v d ps) :
    ∃ (A : Option Addr) (cap : Nat) (X : List Ru), v = .slice A X.length cap ∧ Rd w A 4 (X.map ruC) ∧ (∀ f ∈ X, isI64 f.n) ∧ X.length ≤ cap ∧ X.length ≤ 9223372036854775807 := by
  obtain ⟨A, len, cap, rfl⟩ := okWide_slice Try.underlying30 hv
  obtain ⟨fuel, hf⟩ := h
  obtain ⟨X, rfl, hr, hg, h1, h2⟩ := open_rows (fun x : Ru => ruC x) (fun f => isI64 f.n) ⟨0, 0, 0, 0⟩ Try.underlying30 c44 (fun _ => rfl) (by decide) (fun x u hu => by simp at hu; rcases hu with rfl | rfl | rfl | rfl <;> rfl) open_ru hf
  exact ⟨A, cap, X, rfl, hr, hg, h1, Nat.le_trans h1 (Nat.le_trans h2 (by decide))⟩
theorem open_fcs {b0 : Nat} {v : Value} {d : DataW H} {ps : List MemPlace} (hv : Value.okWide Try.prog w .any b0 31 v) (h : DataW.Trod enc Try.prog w base spare held 31 v d ps) :
    ∃ (A : Option Addr) (cap : Nat) (X : List Fc), v = .slice A X.length cap ∧ Rd w A 18 (X.map fcC) ∧ (∀ f ∈ X, True) ∧ X.length ≤ cap ∧ X.length ≤ 9223372036854775807 := by
  obtain ⟨A, len, cap, rfl⟩ := okWide_slice Try.underlying31 hv
  obtain ⟨fuel, hf⟩ := h
  obtain ⟨X, rfl, hr, hg, h1, h2⟩ := open_rows (fun x : Fc => fcC x) (fun f => True) fc0 Try.underlying31 c58 (fun _ => rfl) (by decide) (fun x u hu => by simp at hu; rcases hu with rfl | rfl | rfl | rfl | rfl | rfl | rfl | rfl | rfl | rfl | rfl | rfl | rfl | rfl | rfl | rfl | rfl | rfl <;> rfl) open_fc hf
  exact ⟨A, cap, X, rfl, hr, hg, h1, Nat.le_trans h1 (Nat.le_trans h2 (by decide))⟩
theorem open_oneSm {b0 : Nat} {v : Value} {d : DataW H} {ps : List MemPlace} (hv : Value.okWide Try.prog w .any b0 24 v) (h : DataW.Trod enc Try.prog w base spare held 24 v d ps) : ∃ f : Sm, v = .agg (smC f) ∧ True := by
  obtain ⟨fuel, hf⟩ := h
  obtain ⟨x, e, hg⟩ := open_sm _ _ _ hf
  obtain ⟨cs, rfl, _⟩ := okWide_struct Try.underlying24 hv
  refine ⟨x, ?_, hg⟩
  have e' : cs.toList = (smC x).toList := by simpa [Value.cells] using e
  rw [Array.toList_inj.1 e']
theorem open_oneRu {b0 : Nat} {v : Value} {d : DataW H} {ps : List MemPlace} (hv : Value.okWide Try.prog w .any b0 44 v) (h : DataW.Trod enc Try.prog w base spare held 44 v d ps) : ∃ f : Ru, v = .agg (ruC f) ∧ isI64 f.n := by
  obtain ⟨fuel, hf⟩ := h
  obtain ⟨x, e, hg⟩ := open_ru _ _ _ hf
  obtain ⟨cs, rfl, _⟩ := okWide_struct Try.underlying44 hv
  refine ⟨x, ?_, hg⟩
  have e' : cs.toList = (ruC x).toList := by simpa [Value.cells] using e
  rw [Array.toList_inj.1 e']
end
end Go.Proofs.Ytpcfgoadkfajfaa
