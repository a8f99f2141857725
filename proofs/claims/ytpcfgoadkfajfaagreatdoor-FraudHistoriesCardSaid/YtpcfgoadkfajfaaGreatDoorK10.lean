/- Walks, printed by a program. Walks, printed by a program. Walks, printed by a program. Walks, printed by a program. Walks, printed by a program. The reference's groups and measures, plainly. No program's function in it. Walks, printed by a program. Walks, printed by a program. Walks, printed by a program. Walks, printed by a program. Walks, printed by a program. Walks, printed by a program. Walks, printed by a program. Walks, printed by a program. -/
import Derived.Test.YtpcfgoadkfajfaaGreatDoorK9
import Derived.Test.YtpcfgoadkfajfaaGreatDoorK7
namespace Go.Proofs.YtpcfgoadkfajfaaGreatDoor
set_option linter.all false
open Go Go.RowKit
set_option maxRecDepth 100000
theorem ent_51 : ∀ args w, (callFunc 51 args).run Tryz.prog w = .ok (.enter 51 args) w := enters_of Tryz.func51 (by kernel_rfl) rfl
theorem drop_more {α : Type} {l m : List α} {j : Nat} (h : l.drop j = m.drop j) : l.drop (j + 1) = m.drop (j + 1) := by
  have := congrArg (List.drop 1) h
  rwa [List.drop_drop, List.drop_drop] at this
theorem drop_at {α : Type} {l m : List α} {j : Nat} {x : α} (h : l.drop j = m.drop j) (hx : m[j]? = some x) : l[j]? = some x := by
  have := congrArg (fun q : List α => q[0]?) h
  simp only [List.getElem?_drop, Nat.add_zero] at this
  rw [this]; exact hx
set_option maxRecDepth 100000 in
theorem w_delR {w : World} {A : Option Addr} {cap : Nat} (rs : List Ru) (hl : rs.length ≤ 1000000) (hs : SL w (List.flatMap Ent.blocks [.row A cap 42 4 (List.map ruC rs)]) w [.row A cap 42 4 (List.map ruC rs)]) :
    Calls Tryz.prog 27 #[.slice A (List.length (rs : List Ru)) cap, .func (.func 29) #[] #[]] w (fun e w' => ∃ z : Unit, True ∧ e = .returned (.slice A (List.length (List.filter okR rs)) cap) ∧ SL w (List.flatMap Ent.blocks [.row A cap 42 4 (List.map ruC rs)]) w' [.row A cap 42 4 (List.map ruC (List.filter okR rs))]) := by
 refine calls_of_CX (O := (List.flatMap Ent.blocks [.row A cap 42 4 (List.map ruC rs)])) (L := [.row A cap 42 4 (List.map ruC rs)]) (args := [.slice A (List.length (rs : List Ru)) cap, .func (.func 29) #[] #[]]) Tryz.func27 rfl (by simp [Tryz.ntmps27]) hs ?_
 refine CX.sub (V' := [(0, .slice A (List.length (rs : List Ru)) cap), (1, .func (.func 29) #[] #[])]) ⟨rfl, rfl, trivial⟩ ?_
 refine CX.seq ?_
 refine CX.region ?_
 refine RX.cons rfl rfl (op_w (yw_assign rfl rfl) rfl rfl ?_)
 refine RX.nil (XX.next (V' := [(0, _), (1, _)]) ⟨rfl, rfl, trivial⟩ ?_)
 refine CX.seq ?_
 refine CX.region ?_
 refine RX.cons rfl rfl (op_w (yw_move rfl rfl) rfl rfl ?_)
 refine RX.cons rfl rfl (op_w (yw_move rfl rfl) rfl rfl ?_)
 refine RX.cons rfl rfl (op_callE rfl rfl rfl rfl rfl ent_51 (fun w hw => w_idxR rs (Ent.rd (hw.ents _ (List.mem_of_getElem? (i := 0) rfl))) hl) (fun v0 hv0 => ?_))
 refine RX.cons rfl rfl (op_w (yw_assign rfl rfl) rfl rfl ?_)
 refine RX.nil (XX.next (V' := [(0, _), (1, _), (5, _)]) ⟨rfl, rfl, rfl, trivial⟩ ?_)
 refine CX.seq ?_
 refine CX.seq ?_
 rcases hv0 with ⟨i0, x1, rfl, hx1, hbad, hgood⟩ | ⟨rfl, hgood⟩
 ·have hi0 := (List.getElem?_eq_some_iff.1 hx1).1
  refine CX.region ?_
  refine RX.cons rfl rfl (op_w (yw_move rfl rfl) rfl rfl ?_)
  refine RX.cons rfl rfl (op_w (yw_eql rfl rfl rfl) rfl rfl ?_)
  refine RX.nil (XX.next (V' := [(0, _), (1, _), (5, _), (12, _)]) ⟨rfl, rfl, rfl, rfl, trivial⟩ ?_)
  refine CX.condD (p := ((i0 : Nat) : Int) = (-1)) rfl (fun c12 => ?_) (fun c12 => ?_)
  ·exfalso; omega
  ·refine CX.skip (XX.next (V' := [(0, _), (1, _), (5, _)]) ⟨rfl, rfl, rfl, trivial⟩ ?_)
   refine CX.seq ?_
   refine CX.seq ?_
   refine CX.region ?_
   refine RX.cons rfl rfl (op_w (yw_move rfl rfl) rfl rfl ?_)
   refine RX.cons rfl rfl (op_w (yw_add rfl rfl rfl (by omega) (by omega)) rfl rfl ?_)
   refine RX.know (t := 15) (u := .int .i64 ((i0 + 1 : Nat) : Int)) rfl (congrArg (Value.int .i64) (by omega)) ?_
   refine RX.cons rfl rfl (op_w (yw_assign rfl rfl) rfl rfl ?_)
   refine RX.nil (XX.next (V' := [(0, _), (1, _), (5, _), (6, _)]) ⟨rfl, rfl, rfl, rfl, trivial⟩ ?_)
   refine CX.block ?_
   refine CX.loop (σ := Nat × Nat × List Ru) (fun z => [(0, .slice A rs.length cap), (1, .func (.func 29) #[] #[]), (5, .int .i64 ((z.2.1 : Nat) : Int)), (6, .int .i64 ((z.1 : Nat) : Int))]) (fun z => [.row A cap 42 4 (List.map ruC z.2.2)]) (fun z => z.1 ≤ rs.length ∧ z.2.1 < z.1 ∧ z.2.2.length = rs.length ∧ List.take z.2.1 z.2.2 = List.filter okR (List.take z.1 rs) ∧ List.drop z.1 z.2.2 = List.drop z.1 rs) (fun z => rs.length - z.1) (i0 + 1, i0, rs) ⟨by dsimp only; omega, by dsimp only; omega, rfl, by dsimp only; rw [take_filter_snoc hx1, hbad, filter_all_ok hgood]; simp, rfl⟩ ⟨rfl, rfl, rfl, rfl, trivial⟩ rfl (fun z hI => ?_)
   obtain ⟨j, i, ys⟩ := z
   dsimp only at hI ⊢
   obtain ⟨hj, hij, hyn, hyt, hyd⟩ := hI
   refine CX.seq ?_
   refine CX.seq ?_
   refine CX.region ?_
   refine RX.cons rfl rfl (op_w (yw_move rfl rfl) rfl rfl ?_)
   refine RX.cons rfl rfl (op_w (yw_move rfl rfl) rfl rfl ?_)
   refine RX.cons rfl rfl (op_w (yw_lenS rfl Tryz.underlying23 rfl) rfl rfl ?_)
   refine RX.cons rfl rfl (op_w (yw_lss rfl rfl rfl) rfl rfl ?_)
   refine RX.nil (XX.next (V' := [(0, _), (1, _), (5, _), (6, _), (19, _)]) ⟨rfl, rfl, rfl, rfl, rfl, trivial⟩ ?_)
   refine CX.condD (p := ((j : Nat) : Int) < ((rs.length : Nat) : Int)) rfl (fun c19 => ?_) (fun c19 => ?_)
   ·obtain ⟨x0, hx0⟩ := get_some (l := rs) (k := j) (by omega)
    have hx0m := List.mem_of_getElem? hx0
    have hy0 : ys[j]? = some x0 := drop_at hyd hx0
    refine CX.rowSome 0 rfl (by rw [List.length_map]; omega) (fun hA => ?_)
    refine CX.skip (XX.next (V' := [(0, _), (1, _), (5, _), (6, _)]) ⟨rfl, rfl, rfl, rfl, trivial⟩ ?_)
    refine CX.seq ?_
    refine CX.block ?_
    refine CX.seq ?_
    refine CX.region ?_
    refine RX.cons rfl rfl (op_w (yw_move rfl rfl) rfl rfl ?_)
    refine RX.cons rfl rfl (op_w (yw_move rfl rfl) rfl rfl ?_)
    refine RX.cons rfl rfl (op_w (yw_index (k := j) rfl slt_23 rfl rfl (by omega) (by omega) hA) rfl rfl ?_)
    refine RX.cons rfl rfl (op_yld (y_rowElem (i := 0) rfl rfl agg_42 rfl (map_get hy0)) rfl rfl ?_)
    refine RX.cons rfl rfl (op_alloc rfl rfl rfl zero_42 fun g7 => ?_)
    refine RX.cons rfl rfl (op_storeAll (i := 0) rfl rfl rfl rfl szt_42 rfl (plain_of rfl) rfl rfl ?_)
    refine RX.nil (XX.next (V' := [(0, _), (1, _), (5, _), (6, _), (7, _)]) ⟨rfl, rfl, rfl, rfl, rfl, trivial⟩ ?_)
    refine CX.seq ?_
    refine CX.region ?_
    refine RX.cons rfl rfl (op_w (yw_move rfl rfl) rfl rfl ?_)
    refine RX.cons rfl rfl (op_yld (y_loadA (i := 0) rfl rfl agg_42 rfl rfl) rfl rfl ?_)
    refine RX.cons rfl rfl (op_callV (v := .bool (!(okR x0))) rfl rfl rfl rfl rfl ent_29 (fun w hw => w_judge1 x0) ?_)
    refine RX.cons rfl rfl (op_w (yw_not rfl rfl) rfl rfl ?_)
    refine RX.nil (XX.next (V' := [(0, _), (1, _), (5, _), (6, _), (7, _), (29, _)]) ⟨rfl, rfl, rfl, rfl, rfl, rfl, trivial⟩ ?_)
    refine CX.cond (b := !(!(okR x0))) rfl (fun c29 => ?_) (fun c29 => ?_)
    ·refine CX.seq ?_
     refine CX.region ?_
     refine RX.cons rfl rfl (op_w (yw_move rfl rfl) rfl rfl ?_)
     refine RX.cons rfl rfl (op_w (yw_move rfl rfl) rfl rfl ?_)
     refine RX.cons rfl rfl (op_yld (y_loadA (i := 0) rfl rfl agg_42 rfl rfl) rfl rfl ?_)
     refine RX.cons rfl rfl (op_w (yw_index (k := i) rfl slt_23 rfl rfl (by omega) (by omega) hA) rfl rfl ?_)
     refine RX.cons rfl rfl (op_storeElemE (i := 1) (k := i) (ys := List.map ruC (ys.set i x0)) rfl rfl rfl rfl szt_42 rfl (plain_of rfl) rfl (by rw [List.length_map]; omega) (by rw [List.map_set]; rfl) ?_)
     refine RX.nil (XX.next (V' := [(0, _), (1, _), (5, _), (6, _)]) ⟨rfl, rfl, rfl, rfl, trivial⟩ ?_)
     refine CX.region ?_
     refine RX.cons rfl rfl (op_w (yw_move rfl rfl) rfl rfl ?_)
     refine RX.cons rfl rfl (op_w (yw_add rfl rfl rfl (by omega) (by omega)) rfl rfl ?_)
     refine RX.know (t := 35) (u := .int .i64 ((i + 1 : Nat) : Int)) rfl (congrArg (Value.int .i64) (by omega)) ?_
     refine RX.cons rfl rfl (op_w (yw_assign rfl rfl) rfl rfl ?_)
     refine RX.nil (XX.inBlock (V' := [(0, _), (1, _), (5, _), (6, _)]) ⟨rfl, rfl, rfl, rfl, trivial⟩ ?_)
     refine XX.next (V' := [(0, _), (1, _), (5, _), (6, _)]) ⟨rfl, rfl, rfl, rfl, trivial⟩ ?_
     refine CX.region ?_
     refine RX.cons rfl rfl (op_w (yw_move rfl rfl) rfl rfl ?_)
     refine RX.cons rfl rfl (op_w (yw_add rfl rfl rfl (by omega) (by omega)) rfl rfl ?_)
     refine RX.cons rfl rfl (op_w (yw_assign rfl rfl) rfl rfl ?_)
     refine RX.nil (XX.againP ([.blk g7 (.cells (ruC x0) 42 (0, 0))]) (j + 1, i + 1, ys.set i x0) (by dsimp only; omega) ⟨by dsimp only; omega, by dsimp only; omega, by dsimp only; rw [List.length_set]; exact hyn, by dsimp only; rw [take_filter_snoc hx0, set_take_succ _ (by omega), hyt, if_pos (by simpa using c29)], by dsimp only; rw [List.drop_set_of_lt (by omega)]; exact drop_more hyd⟩ ⟨rfl, rfl, rfl, rfl, trivial⟩ ((perm_pick 1 rfl).trans (List.Perm.cons _ (List.Perm.refl _))))
    ·refine CX.skip (XX.inBlock (V' := [(0, _), (1, _), (5, _), (6, _)]) ⟨rfl, rfl, rfl, rfl, trivial⟩ ?_)
     refine XX.next (V' := [(0, _), (1, _), (5, _), (6, _)]) ⟨rfl, rfl, rfl, rfl, trivial⟩ ?_
     refine CX.region ?_
     refine RX.cons rfl rfl (op_w (yw_move rfl rfl) rfl rfl ?_)
     refine RX.cons rfl rfl (op_w (yw_add rfl rfl rfl (by omega) (by omega)) rfl rfl ?_)
     refine RX.cons rfl rfl (op_w (yw_assign rfl rfl) rfl rfl ?_)
     refine RX.nil (XX.againP ([.blk g7 (.cells (ruC x0) 42 (0, 0))]) (j + 1, i, ys) (by dsimp only; omega) ⟨by dsimp only; omega, by dsimp only; omega, hyn, by dsimp only; rw [take_filter_snoc hx0, hyt, if_neg (by simpa using c29), List.append_nil], drop_more hyd⟩ ⟨rfl, rfl, rfl, rfl, trivial⟩ ((perm_pick 1 rfl).trans (List.Perm.cons _ (List.Perm.refl _))))
   ·rw [List.take_of_length_le (l := rs) (by omega)] at hyt
    refine CX.exit ?_
    refine XX.then_exit ?_
    refine XX.then_exit ?_
    refine XX.block_exit ?_
    refine XX.next (V' := [(0, _), (5, _)]) ⟨rfl, rfl, trivial⟩ ?_
    refine CX.seq ?_
    refine CX.region ?_
    refine RX.cons rfl rfl (op_w (yw_move rfl rfl) rfl rfl ?_)
    refine RX.cons rfl rfl (op_w (yw_move rfl rfl) rfl rfl ?_)
    refine RX.cons rfl rfl (op_w (yw_sliceFrom (k := i) rfl slt_23 rfl rfl (by omega) (by omega)) rfl rfl ?_)
    refine RX.cons rfl rfl (op_clearTail (i := 0) (k := i) rfl rfl slb_23 (plain_of rfl) rfl rfl (by rw [List.length_map]; exact hyn) (by omega) ?_)
    refine RX.know1 0 (q := .row A cap 42 4 (List.map ruC (List.take i ys))) rfl (by rw [List.map_take]) ?_
    refine RX.nil (XX.next (V' := [(0, _), (5, _)]) ⟨rfl, rfl, trivial⟩ ?_)
    refine CX.seq ?_
    refine CX.rowCap 0 (xs := List.take i ys) (enc := ruC) rfl (fun hcap => ?_)
    rw [List.length_take, Nat.min_eq_left (by omega)] at hcap
    refine CX.region ?_
    refine RX.cons rfl rfl (op_w (yw_move rfl rfl) rfl rfl ?_)
    refine RX.cons rfl rfl (op_w (yw_move rfl rfl) rfl rfl ?_)
    refine RX.cons rfl rfl (op_w (yw_sliceTo (k := i) rfl slt_23 rfl rfl (by omega) (by omega)) rfl rfl ?_)
    refine RX.cons rfl rfl (op_w (yw_assign rfl rfl) rfl rfl ?_)
    refine RX.nil (XX.next (V' := [(4, .slice A i cap)]) ⟨rfl, trivial⟩ ?_)
    refine CX.ret ?_
    exact ret_tmp rfl rfl fun w1 hw => ⟨(), trivial, by rw [← hyt, List.length_take, Nat.min_eq_left (by omega)], by rw [← hyt]; exact hw.pick ((perm_pick 0 rfl).trans (List.Perm.cons _ (List.Perm.refl _)))⟩
 ·refine CX.region ?_
  refine RX.cons rfl rfl (op_w (yw_move rfl rfl) rfl rfl ?_)
  refine RX.cons rfl rfl (op_w (yw_eql rfl rfl rfl) rfl rfl ?_)
  refine RX.nil (XX.next (V' := [(0, _), (1, _), (5, _), (12, _)]) ⟨rfl, rfl, rfl, rfl, trivial⟩ ?_)
  refine CX.condD (p := -1 = (-1)) rfl (fun c12 => ?_) (fun c12 => ?_)
  ·refine CX.seq ?_
   refine CX.region ?_
   refine RX.cons rfl rfl (op_w (yw_move rfl rfl) rfl rfl ?_)
   refine RX.cons rfl rfl (op_w (yw_assign rfl rfl) rfl rfl ?_)
   refine RX.nil (XX.next (V' := [(4, .slice A (List.length (rs : List Ru)) cap)]) ⟨rfl, trivial⟩ ?_)
   refine CX.ret ?_
   refine XX.then_ret ?_
   exact ret_tmp rfl rfl fun w1 hw => ⟨(), trivial, by rw [filter_all_ok hgood], by rw [filter_all_ok hgood]; exact hw.pick ((perm_pick 0 rfl).trans (List.Perm.cons _ (List.Perm.refl _)))⟩
  ·exact absurd rfl c12

end Go.Proofs.YtpcfgoadkfajfaaGreatDoor
namespace Go.Proofs.YtpcfgoadkfajfaaGreatDoor
set_option linter.all false
open Go Go.RowKit
set_option maxRecDepth 100000
theorem ent_28 : ∀ args w, (callFunc 28 args).run Tryz.prog w = .ok (.enter 28 args) w := enters_of Tryz.func28 (by kernel_rfl) rfl
theorem ent_27 : ∀ args w, (callFunc 27 args).run Tryz.prog w = .ok (.enter 27 args) w := enters_of Tryz.func27 (by kernel_rfl) rfl
theorem ent_31 : ∀ args w, (callFunc 31 args).run Tryz.prog w = .ok (.enter 31 args) w := enters_of Tryz.func31 (by kernel_rfl) rfl
theorem SL.apartO {w0 w : World} {O : List Nat} {M R : List Ent} (h : SL w0 O w (M ++ R)) (i : Nat) {A : Option Addr} {cap : Nat} {e : TypeId} {sz : Nat} {xs : List (Array Value)} (hq : R[i]? = some (.row A cap e sz xs)) : ∀ q, A = some q → q.block ∉ M.flatMap Ent.blocks := fun q hA => h.apart i hq (b := q.block) (by simp [Ent.blocks, hA])
theorem judK_fmeas {ls : List Sm} {kvc : List (Int × Int)} {kv : List ((Int × Int) × Sg)} (hc : ClOk (rep (edgesOf ls)) (accs ls) kvc) (hg : GsOk ls kvc kv) (rs : List Ru) (s : Sm) : judK (fmeas kvc kv s) (rs.filter okR) s = jud rs ls s := by
  rw [← judK_filter, show fmeas kvc kv s = fun k m => meas ls s k m from funext fun k => funext fun m => fmeas_eq hc hg s k m]
set_option maxRecDepth 100000 in
theorem w_Judge {w : World} {AR A : Option Addr} {capR cap : Nat} (rs : List Ru) (ls : List Sm) (hrR : Rd w AR 4 (rs.map ruC)) (hr : Rd w A 9 (ls.map smC)) (hlR : rs.length ≤ 1000000) (hl : ls.length ≤ 100000) :
    Calls Tryz.prog 14 #[.slice AR rs.length capR, .slice A ls.length cap] w (fun e w' => ∃ z : Option Addr × Nat, True ∧ e = .returned (.slice z.1 (List.length (List.map (jud rs ls) ls)) z.2) ∧ SL w [] w' [.row z.1 z.2 3 1 (List.map iR (List.map (jud rs ls) ls))]) := by
 refine calls_of_CX (O := []) (L := []) (args := [.slice AR rs.length capR, .slice A ls.length cap]) Tryz.func14 rfl (by simp [Tryz.ntmps14]) (SL.refl w) ?_
 refine CX.sub (V' := [(0, .slice AR rs.length capR), (1, .slice A ls.length cap)]) ⟨rfl, rfl, trivial⟩ ?_
 refine CX.seq ?_
 refine CX.region ?_
 refine RX.cons rfl rfl (op_w (yw_assign rfl rfl) rfl rfl ?_)
 refine RX.nil (XX.next (V' := [(0, _), (1, _)]) ⟨rfl, rfl, trivial⟩ ?_)
 refine CX.seq ?_
 refine CX.region ?_
 refine RX.cons rfl rfl (op_w (yw_move rfl rfl) rfl rfl ?_)
 refine RX.cons rfl rfl (op_callE rfl rfl rfl rfl rfl ent_28 (fun w hw => w_cloneR rs (hw.rd hrR (by simp)) hlR) (fun ⟨A1, c1⟩ _ => ?_))
 refine RX.cons rfl rfl (op_callP [.row A1 c1 42 4 (List.map ruC rs)] [] rfl rfl rfl rfl rfl ent_27 ((perm_pick 0 rfl).trans (List.Perm.cons _ (List.Perm.refl _))) (σ := Unit) (val := fun _ => .slice A1 (List.length (List.filter okR rs)) c1) (LL := fun _ => [.row A1 c1 42 4 (List.map ruC (List.filter okR rs))]) (post := fun _ => True) (fun w hw hs => w_delR rs hlR hs) (fun _ _ => ?_))
 refine RX.cons rfl rfl (op_w (yw_assign rfl rfl) rfl rfl ?_)
 refine RX.nil (XX.next (V' := [(0, _), (1, _)]) ⟨rfl, rfl, trivial⟩ ?_)
 refine CX.seq ?_
 refine CX.region ?_
 refine RX.cons rfl rfl (op_w (yw_move rfl rfl) rfl rfl ?_)
 refine RX.cons rfl rfl (op_callE rfl rfl rfl rfl rfl ent_25 (fun w hw => w_newFilter ls (hw.rd hr (by simp)) hl) (fun ⟨⟨gF, gg, gcl⟩, kv, kvc⟩ ⟨hcl, hgs⟩ => ?_))
 refine RX.cons rfl rfl (op_w (yw_assign rfl rfl) rfl rfl ?_)
 refine RX.nil (XX.next (V' := [(0, _), (1, _), (5, _)]) ⟨rfl, rfl, rfl, trivial⟩ ?_)
 refine CX.seq ?_
 refine CX.region ?_
 refine RX.cons rfl rfl (op_w (yw_assign rfl rfl) rfl rfl ?_)
 refine RX.nil (XX.next (V' := [(0, _), (1, _), (5, _), (6, _)]) ⟨rfl, rfl, rfl, rfl, trivial⟩ ?_)
 refine CX.seq ?_
 refine CX.seq ?_
 refine CX.region ?_
 refine RX.cons rfl rfl (op_w (yw_move rfl rfl) rfl rfl ?_)
 refine RX.cons rfl rfl (op_w (yw_lenS rfl Tryz.underlying34 rfl) rfl rfl ?_)
 refine RX.cons rfl rfl (op_w (yw_move rfl rfl) rfl rfl ?_)
 refine RX.nil (XX.next (V' := [(0, _), (5, _), (6, _), (14, _), (15, _), (16, _)]) ⟨rfl, rfl, rfl, rfl, rfl, rfl, trivial⟩ ?_)
 refine CX.block ?_
 refine CX.rowNil 3 1 ?_
 refine CX.loop (σ := Nat × (Option Addr × Nat) × List Int) (fun z => [(0, .slice A1 (List.length ((List.filter okR rs) : List Ru)) c1), (5, .pointer (some ⟨gF, 0, none⟩)), (6, .slice z.2.1.1 (List.length (z.2.2 : List Int)) z.2.1.2), (14, .slice A ls.length cap), (15, .int .i64 ((ls.length : Nat) : Int)), (16, .int .i64 ((z.1 : Nat) : Int))]) (fun z => [.row z.2.1.1 z.2.1.2 3 1 (List.map iR z.2.2), kmap key2 sgV gg kv, pack (List.map sgE kv), .blk gF (.cells (#[.map (some gg), .map (some gcl)]) 110 (0, 0)), kmap (fun x : Int => Value.int .i64 x) (fun x : Int => Value.int .i64 x) gcl kvc, .row A1 c1 42 4 (List.map ruC (List.filter okR rs))]) (fun z => z.1 ≤ ls.length ∧ z.2.2 = List.map (jud rs ls) (List.take z.1 ls)) (fun z => ls.length - z.1) (0, (none, 0), []) ⟨Nat.zero_le _, rfl⟩ ⟨rfl, rfl, rfl, rfl, rfl, rfl, trivial⟩ rfl (fun z hI => ?_)
 obtain ⟨i, ⟨A2, c2⟩, ys⟩ := z
 dsimp only at hI ⊢
 obtain ⟨hi, hys⟩ := hI
 have hyn : ys.length = i := by rw [hys, List.length_map, List.length_take]; omega
 refine CX.seq ?_
 refine CX.region ?_
 refine RX.cons rfl rfl (op_w (yw_lss rfl rfl rfl) rfl rfl ?_)
 refine RX.nil (XX.next (V' := [(0, _), (5, _), (6, _), (14, _), (15, _), (16, _), (17, _)]) ⟨rfl, rfl, rfl, rfl, rfl, rfl, rfl, trivial⟩ ?_)
 refine CX.seq ?_
 refine CX.condD (p := ((i : Nat) : Int) < ((ls.length : Nat) : Int)) rfl (fun c17 => ?_) (fun c17 => ?_)
 ·obtain ⟨x0, hx0⟩ := get_some (l := ls) (k := i) (by omega)
  have hx0m := List.mem_of_getElem? hx0
  have hA : ∃ b j, A = some ⟨b, j, none⟩ := hr.some (k := 0) (by simp; omega)
  refine CX.skip (XX.next (V' := [(0, _), (5, _), (6, _), (14, _), (15, _), (16, _)]) ⟨rfl, rfl, rfl, rfl, rfl, rfl, trivial⟩ ?_)
  refine CX.seq ?_
  refine CX.block ?_
  refine CX.seq ?_
  refine CX.region ?_
  refine RX.cons rfl rfl (op_w (yw_index (k := i) rfl slt_34 rfl rfl (by omega) (by omega) hA) rfl rfl ?_)
  refine RX.cons rfl rfl (op_yld (y_elem rfl rfl agg_39 hr (by simp) (map_get hx0)) rfl rfl ?_)
  refine RX.cons rfl rfl (op_alloc rfl rfl rfl zero_39 fun g8 => ?_)
  refine RX.cons rfl rfl (op_storeAll (i := 0) rfl rfl rfl rfl szt_39 rfl (plain_of rfl) rfl rfl ?_)
  refine RX.nil (XX.next (V' := [(0, _), (5, _), (6, _), (8, _), (14, _), (15, _), (16, _)]) ⟨rfl, rfl, rfl, rfl, rfl, rfl, rfl, trivial⟩ ?_)
  refine CX.region ?_
  refine RX.cons rfl rfl (op_w (yw_move rfl rfl) rfl rfl ?_)
  refine RX.cons rfl rfl (op_w (yw_move rfl rfl) rfl rfl ?_)
  refine RX.cons rfl rfl (op_w (yw_move rfl rfl) rfl rfl ?_)
  refine RX.cons rfl rfl (op_yld (y_loadA (i := 0) rfl rfl agg_39 rfl rfl) rfl rfl ?_)
  refine RX.cons rfl rfl (op_callP [kmap key2 sgV gg kv, pack (List.map sgE kv), .blk gF (.cells (#[.map (some gg), .map (some gcl)]) 110 (0, 0)), kmap (fun x : Int => Value.int .i64 x) (fun x : Int => Value.int .i64 x) gcl kvc] [.blk g8 (.cells (smC x0) 39 (0, 0)), .row A2 c2 3 1 (List.map iR ys), .row A1 c1 42 4 (List.map ruC (List.filter okR rs))] rfl rfl rfl rfl rfl ent_31 ((perm_pick 2 rfl).trans (List.Perm.cons _ ((perm_pick 2 rfl).trans (List.Perm.cons _ ((perm_pick 2 rfl).trans (List.Perm.cons _ ((perm_pick 2 rfl).trans (List.Perm.cons _ (List.Perm.refl _))))))))) (σ := Unit) (val := fun _ => .int .i64 (judK (fmeas kvc kv x0) (List.filter okR rs) x0)) (LL := fun _ => [kmap key2 sgV gg kv, pack (List.map sgE kv), .blk gF (.cells (#[.map (some gg), .map (some gcl)]) 110 (0, 0)), kmap (fun x : Int => Value.int .i64 x) (fun x : Int => Value.int .i64 x) gcl kvc]) (post := fun _ => True) (fun w hw hs => w_judge kv kvc (List.filter okR rs) x0 (fun y => Nat.le_trans (hgs.len y) (by omega)) (Ent.rd (hw.ents _ (List.mem_of_getElem? (i := 6) rfl))) (Nat.le_trans (List.length_filter_le _ _) hlR) (hw.apartO 2 rfl) hs) (fun _ _ => ?_))
  refine RX.cons rfl rfl (op_buildSlice rfl rfl rfl slb_24 rfl rfl (by intro v hv; simp only [List.mem_cons, List.not_mem_nil, or_false] at hv; subst hv; exact ⟨rfl, (plain_of rfl)⟩) (by decide) fun g9 => ?_)
  refine RX.cons rfl rfl (op_appendM iR (i := 6) (j := 0) (xs := ys) ([judK (fmeas kvc kv x0) (List.filter okR rs) x0]) rfl rfl rfl slb_24 rfl rfl rfl rfl rfl rfl (by rw [List.length_singleton]; omega) (by rw [List.length_singleton]; omega) fun A3 c3 => ?_)
  refine RX.cons rfl rfl (op_w (yw_assign rfl rfl) rfl rfl ?_)
  refine RX.nil (XX.inBlock (V' := [(0, _), (5, _), (6, _), (14, _), (15, _), (16, _)]) ⟨rfl, rfl, rfl, rfl, rfl, rfl, trivial⟩ ?_)
  refine XX.next (V' := [(0, _), (5, _), (6, _), (14, _), (15, _), (16, _)]) ⟨rfl, rfl, rfl, rfl, rfl, rfl, trivial⟩ ?_
  refine CX.region ?_
  refine RX.cons rfl rfl (op_w (yw_add rfl rfl rfl (by omega) (by omega)) rfl rfl ?_)
  refine RX.cons rfl rfl (op_w (yw_move rfl rfl) rfl rfl ?_)
  refine RX.nil (XX.againP ([.row (some ⟨g9, 0, none⟩) 1 3 1 (List.map iR ([judK (fmeas kvc kv x0) (List.filter okR rs) x0])), .blk g8 (.cells (smC x0) 39 (0, 0))]) (i + 1, (A3, c3), ys ++ [judK (fmeas kvc kv x0) (List.filter okR rs) x0]) (by dsimp only; omega) ⟨by dsimp only; omega, by dsimp only; rw [take_map_succ hx0, ← hys, judK_fmeas hcl hgs]⟩ ⟨rfl, rfl, rfl, rfl, rfl, rfl, trivial⟩ ((perm_pick 6 rfl).trans (List.Perm.cons _ ((perm_pick 1 rfl).trans (List.Perm.cons _ ((perm_pick 1 rfl).trans (List.Perm.cons _ ((perm_pick 1 rfl).trans (List.Perm.cons _ ((perm_pick 1 rfl).trans (List.Perm.cons _ ((perm_pick 2 rfl).trans (List.Perm.cons _ (List.Perm.refl _))))))))))))))
 ·rw [List.take_of_length_le (by omega)] at hys
  refine CX.exit ?_
  refine XX.then_exit ?_
  refine XX.then_exit ?_
  refine XX.block_exit ?_
  refine XX.next (V' := [(6, _)]) ⟨rfl, trivial⟩ ?_
  refine CX.seq ?_
  refine CX.region ?_
  refine RX.cons rfl rfl (op_w (yw_move rfl rfl) rfl rfl ?_)
  refine RX.cons rfl rfl (op_w (yw_assign rfl rfl) rfl rfl ?_)
  refine RX.nil (XX.next (V' := [(4, .slice A2 (List.length (ys : List Int)) c2)]) ⟨rfl, trivial⟩ ?_)
  refine CX.ret ?_
  exact ret_tmp rfl rfl fun w1 hw => ⟨(A2, c2), trivial, by rw [hys], by rw [← hys]; exact hw.pick ((perm_pick 0 rfl).trans (List.Perm.cons _ (List.Perm.refl _)))⟩

end Go.Proofs.YtpcfgoadkfajfaaGreatDoor
namespace Go.Proofs.YtpcfgoadkfajfaaGreatDoor
set_option linter.all false
open Go Go.RowKit
set_option maxRecDepth 100000
theorem fld_27_6 : Fld Tryz.prog 27 6 6 := ⟨_, _, (Tryz.prog.info? 3).get!, Tryz.underlying27, rfl, rfl, by kernel_rfl, by decide +kernel⟩
theorem fld_27_1 : Fld Tryz.prog 27 1 1 := ⟨_, _, (Tryz.prog.info? 3).get!, Tryz.underlying27, rfl, rfl, by kernel_rfl, by decide +kernel⟩
theorem slt_22 : SlT Tryz.prog 22 27 18 := ⟨(Tryz.prog.info? 27).get!, Tryz.underlying22, by kernel_rfl, by kernel_rfl⟩
theorem agg_27 : AggT Tryz.prog 27 18 := ⟨_, _, Tryz.underlying27, rfl, (by kernel_rfl : Tryz.prog.info? 27 = some (Tryz.prog.info? 27).get!), by kernel_rfl⟩
theorem ent_91 : ∀ args w, (callFunc 91 args).run Tryz.prog w = .ok (.enter 91 args) w := enters_of Tryz.func91 (by kernel_rfl) rfl
theorem zero_27 : Zero Tryz.prog 27 (.agg (#[.int .i64 0, .int .i64 0, .int .i64 0, .int .i64 0, .int .i64 0, .int .i64 0, .int .i64 0, .int .i64 0, .int .i64 0, .int .i64 0, .int .i64 0, .int .i64 0, .int .i64 0, .int .i64 0, .int .i64 0, .int .i64 0, .int .i64 0, .string .empty])) := ⟨(Tryz.prog.info? 27).get!, by kernel_rfl, by kernel_rfl⟩
theorem ent_90 : ∀ args w, (callFunc 90 args).run Tryz.prog w = .ok (.enter 90 args) w := enters_of Tryz.func90 (by kernel_rfl) rfl
theorem szt_27 : SzT Tryz.prog 27 18 := ⟨(Tryz.prog.info? 27).get!, by kernel_rfl, by kernel_rfl⟩
/-- A fact. -/
structure Fc where
  kind : Int
  id : Int
  ver : Int
  per : Int
  sec : Int
  acc : Int
  dev : Int
  song : Int
  ter : Int
  hol : Int
  role : Int
  since : Int
  till : Int
  amt : Int
  shr : Int
  cur : Int
  mark : Int
  text : ByteArray
abbrev fcC (f : Fc) : Array Value := #[.int .i64 f.kind, .int .i64 f.id, .int .i64 f.ver, .int .i64 f.per, .int .i64 f.sec, .int .i64 f.acc, .int .i64 f.dev, .int .i64 f.song, .int .i64 f.ter, .int .i64 f.hol, .int .i64 f.role, .int .i64 f.since, .int .i64 f.till, .int .i64 f.amt, .int .i64 f.shr, .int .i64 f.cur, .int .i64 f.mark, .string f.text]
def fc0 : Fc := ⟨0, 0, 0, 0, 0, 0, 0, 0, 0, 0, 0, 0, 0, 0, 0, 0, 0, .empty⟩
def hitF (d i : Int) (f : Fc) : Bool := decide (f.dev = d ∧ f.id = i)
/-- The mark given by hand; 0 if there is none. -/
def markOf (fs : List Fc) (d i : Int) : Int := ((fs.find? (hitF d i)).getD fc0).mark
set_option maxRecDepth 100000 in
theorem w_of1 {w : World} {gd gi : Nat} (f : Fc) (d i : Int) (h1 : w.cell? ⟨gd, 0, none⟩ = some (.int .i64 d)) (h2 : w.cell? ⟨gi, 0, none⟩ = some (.int .i64 i)) :
    Calls Tryz.prog 91 #[.agg (fcC f), .pointer (some ⟨gd, 0, none⟩), .pointer (some ⟨gi, 0, none⟩)] w (fun e w' => e = .returned (.bool (hitF d i f)) ∧ SL w [] w' []) := by
 refine calls_of_CX (O := []) (L := []) (args := [.agg (fcC f), .pointer (some ⟨gd, 0, none⟩), .pointer (some ⟨gi, 0, none⟩)]) Tryz.func91 rfl (by simp [Tryz.ntmps91]) (SL.refl w) ?_
 refine CX.sub (V' := [(0, .agg (fcC f)), (1, .pointer (some ⟨gd, 0, none⟩)), (2, .pointer (some ⟨gi, 0, none⟩))]) ⟨rfl, rfl, rfl, trivial⟩ ?_
 refine CX.seq ?_
 refine CX.region ?_
 refine RX.cons rfl rfl (op_box rfl rfl rfl rfl fun gf => ?_)
 refine RX.cons rfl rfl (op_w (yw_assign rfl rfl) rfl rfl ?_)
 refine RX.nil (XX.next (V' := [(1, _), (2, _), (3, _)]) ⟨rfl, rfl, rfl, trivial⟩ ?_)
 refine CX.seq ?_
 refine CX.region ?_
 refine RX.cons rfl rfl (op_w (yw_fieldAddr rfl fld_27_6 rfl) rfl rfl ?_)
 refine RX.cons rfl rfl (op_yld (y_load (i := 0) rfl rfl one_3 rfl rfl) rfl rfl ?_)
 refine RX.cons rfl rfl (op_yld (y_loadG (v := .int .i64 d) rfl rfl one_3 h1 (by simp)) rfl rfl ?_)
 refine RX.cons rfl rfl (op_w (yw_eql rfl rfl rfl) rfl rfl ?_)
 refine RX.cons rfl rfl (op_w (yw_move rfl rfl) rfl rfl ?_)
 refine RX.splitD (t := 9) (p := Fc.dev f = d) rfl (fun d9 => ?_) (fun d9 => ?_)
 ·refine RX.consG rfl rfl rfl rfl rfl (op_w (yw_fieldAddr rfl fld_27_1 rfl) rfl rfl ?_)
  refine RX.consG rfl rfl rfl rfl rfl (op_yld (y_load (i := 0) rfl rfl one_3 rfl rfl) rfl rfl ?_)
  refine RX.consG rfl rfl rfl rfl rfl (op_yld (y_loadG (v := .int .i64 i) rfl rfl one_3 h2 (by simp)) rfl rfl ?_)
  refine RX.consG rfl rfl rfl rfl rfl (op_w (yw_eql rfl rfl rfl) rfl rfl ?_)
  refine RX.cons rfl rfl (op_w (yw_pickT rfl rfl rfl) rfl rfl ?_)
  refine RX.cons rfl rfl (op_w (yw_assign rfl rfl) rfl rfl ?_)
  refine RX.nil (XX.next (V' := [(4, .bool (decide (Fc.id f = i)))]) ⟨rfl, trivial⟩ ?_)
  refine CX.ret ?_
  exact ret_tmp rfl rfl fun w1 hw => ⟨congrArg (fun b => Ending.returned (Value.bool b)) (by unfold hitF; first | exact (decide_eq_false (by omega)).symm | exact decide_eq_decide.2 (by omega) | exact (decide_eq_true (by omega)).symm), hw.sub (List.nil_sublist _)⟩
 ·refine RX.skip rfl rfl rfl rfl rfl rfl rfl ?_
  refine RX.skip rfl rfl rfl rfl rfl rfl rfl ?_
  refine RX.skip rfl rfl rfl rfl rfl rfl rfl ?_
  refine RX.skip rfl rfl rfl rfl rfl rfl rfl ?_
  refine RX.cons rfl rfl (op_w (yw_pickF rfl rfl rfl) rfl rfl ?_)
  refine RX.cons rfl rfl (op_w (yw_assign rfl rfl) rfl rfl ?_)
  refine RX.nil (XX.next (V' := [(4, .bool false)]) ⟨rfl, trivial⟩ ?_)
  refine CX.ret ?_
  exact ret_tmp rfl rfl fun w1 hw => ⟨congrArg (fun b => Ending.returned (Value.bool b)) (by unfold hitF; first | exact (decide_eq_false (by omega)).symm | exact decide_eq_decide.2 (by omega) | exact (decide_eq_true (by omega)).symm), hw.sub (List.nil_sublist _)⟩

theorem find_here {p : Fc → Bool} {fs : List Fc} {j : Nat} {x : Fc} (hx : fs[j]? = some x) (hp : p x = true) (h : ∀ y ∈ fs.take j, p y = false) : fs.find? p = some x := by
  have hj := (List.getElem?_eq_some_iff.1 hx).1
  have e : fs = fs.take j ++ x :: fs.drop (j + 1) := by
    conv => lhs; rw [← List.take_append_drop j fs]
    rw [List.drop_eq_getElem_cons hj, (List.getElem?_eq_some_iff.1 hx).2]
  rw [e, List.find?_append, List.find?_eq_none.2 (fun y hy => by rw [h y hy]; simp)]
  simp [hp]
theorem find_not {p : Fc → Bool} {fs : List Fc} (h : ∀ y ∈ fs, p y = false) : fs.find? p = none := List.find?_eq_none.2 (fun y hy => by rw [h y hy]; simp)
set_option maxRecDepth 100000 in
theorem w_idxF {w : World} {AM : Option Addr} {capM : Nat} (fs : List Fc) (hrM : Rd w AM 18 (fs.map fcC)) (hlM : fs.length ≤ 1000000) (d i : Int) {gd gi : Nat} (h1 : w.cell? ⟨gd, 0, none⟩ = some (.int .i64 d)) (h2 : w.cell? ⟨gi, 0, none⟩ = some (.int .i64 i)) :
    Calls Tryz.prog 90 #[.slice AM fs.length capM, .func (.func 91) #[] #[.pointer (some ⟨gd, 0, none⟩), .pointer (some ⟨gi, 0, none⟩)]] w (fun e w' => ∃ v : Int, ((∃ (j : Nat) (x : Fc), v = ((j : Nat) : Int) ∧ fs[j]? = some x ∧ fs.find? (hitF d i) = some x) ∨ (v = -1 ∧ fs.find? (hitF d i) = none)) ∧ e = .returned (.int .i64 v) ∧ SL w [] w' []) := by
 refine calls_of_CX (O := []) (L := []) (args := [.slice AM fs.length capM, .func (.func 91) #[] #[.pointer (some ⟨gd, 0, none⟩), .pointer (some ⟨gi, 0, none⟩)]]) Tryz.func90 rfl (by simp [Tryz.ntmps90]) (SL.refl w) ?_
 refine CX.sub (V' := [(0, .slice AM fs.length capM), (1, .func (.func 91) #[] #[.pointer (some ⟨gd, 0, none⟩), .pointer (some ⟨gi, 0, none⟩)])]) ⟨rfl, rfl, trivial⟩ ?_
 refine CX.seq ?_
 refine CX.region ?_
 refine RX.cons rfl rfl (op_w (yw_assign rfl rfl) rfl rfl ?_)
 refine RX.nil (XX.next (V' := [(0, _), (1, _)]) ⟨rfl, rfl, trivial⟩ ?_)
 refine CX.seq ?_
 refine CX.seq ?_
 refine CX.region ?_
 refine RX.cons rfl rfl (op_w (yw_move rfl rfl) rfl rfl ?_)
 refine RX.cons rfl rfl (op_w (yw_lenS rfl Tryz.underlying22 rfl) rfl rfl ?_)
 refine RX.cons rfl rfl (op_w (yw_move rfl rfl) rfl rfl ?_)
 refine RX.nil (XX.next (V' := [(0, _), (1, _), (7, _), (8, _)]) ⟨rfl, rfl, rfl, rfl, trivial⟩ ?_)
 refine CX.block ?_
 refine CX.loop (σ := Nat) (fun k => [(0, .slice AM fs.length capM), (1, .func (.func 91) #[] #[.pointer (some ⟨gd, 0, none⟩), .pointer (some ⟨gi, 0, none⟩)]), (7, .int .i64 ((fs.length : Nat) : Int)), (8, .int .i64 ((k : Nat) : Int))]) (fun k => []) (fun k => k ≤ fs.length ∧ ∀ y ∈ fs.take k, hitF d i y = false) (fun k => fs.length - k) 0 ⟨Nat.zero_le _, by simp⟩ ⟨rfl, rfl, rfl, rfl, trivial⟩ rfl (fun k hI => ?_)
 obtain ⟨hk, hall⟩ := hI
 refine CX.seq ?_
 refine CX.region ?_
 refine RX.cons rfl rfl (op_w (yw_lss rfl rfl rfl) rfl rfl ?_)
 refine RX.nil (XX.next (V' := [(0, _), (1, _), (7, _), (8, _), (9, _)]) ⟨rfl, rfl, rfl, rfl, rfl, trivial⟩ ?_)
 refine CX.seq ?_
 refine CX.condD (p := ((k : Nat) : Int) < ((fs.length : Nat) : Int)) rfl (fun c9 => ?_) (fun c9 => ?_)
 ·obtain ⟨x0, hx0⟩ := get_some (l := fs) (k := k) (by omega)
  have hx0m := List.mem_of_getElem? hx0
  have hAM : ∃ b j, AM = some ⟨b, j, none⟩ := hrM.some (k := 0) (by simp; omega)
  refine CX.skip (XX.next (V' := [(0, _), (1, _), (7, _), (8, _)]) ⟨rfl, rfl, rfl, rfl, trivial⟩ ?_)
  refine CX.seq ?_
  refine CX.block ?_
  refine CX.seq ?_
  refine CX.region ?_
  refine RX.cons rfl rfl (op_w (yw_move rfl rfl) rfl rfl ?_)
  refine RX.cons rfl rfl (op_w (yw_assign rfl rfl) rfl rfl ?_)
  refine RX.nil (XX.next (V' := [(0, _), (1, _), (5, _), (7, _), (8, _)]) ⟨rfl, rfl, rfl, rfl, rfl, trivial⟩ ?_)
  refine CX.seq ?_
  refine CX.region ?_
  refine RX.cons rfl rfl (op_w (yw_move rfl rfl) rfl rfl ?_)
  refine RX.cons rfl rfl (op_w (yw_move rfl rfl) rfl rfl ?_)
  refine RX.cons rfl rfl (op_w (yw_move rfl rfl) rfl rfl ?_)
  refine RX.cons rfl rfl (op_w (yw_index (k := k) rfl slt_22 rfl rfl (by omega) (by omega) hAM) rfl rfl ?_)
  refine RX.cons rfl rfl (op_yld (y_elem rfl rfl agg_27 hrM (by simp) (map_get hx0)) rfl rfl ?_)
  refine RX.cons rfl rfl (op_callV (v := .bool (hitF d i x0)) rfl rfl rfl rfl rfl ent_91 (fun w hw => w_of1 x0 d i (hw.keepC h1 (by simp)) (hw.keepC h2 (by simp))) ?_)
  refine RX.nil (XX.next (V' := [(0, _), (1, _), (5, _), (7, _), (8, _), (16, _)]) ⟨rfl, rfl, rfl, rfl, rfl, rfl, trivial⟩ ?_)
  refine CX.cond (b := hitF d i x0) rfl (fun c16 => ?_) (fun c16 => ?_)
  ·refine CX.seq ?_
   refine CX.region ?_
   refine RX.cons rfl rfl (op_w (yw_move rfl rfl) rfl rfl ?_)
   refine RX.cons rfl rfl (op_w (yw_assign rfl rfl) rfl rfl ?_)
   refine RX.nil (XX.next (V' := [(4, .int .i64 ((k : Nat) : Int))]) ⟨rfl, trivial⟩ ?_)
   refine CX.ret ?_
   refine XX.block_ret ?_
   refine XX.then_ret ?_
   refine XX.then_ret ?_
   refine XX.block_ret ?_
   refine XX.then_ret ?_
   exact ret_tmp rfl rfl fun w1 hw => ⟨((k : Nat) : Int), .inl ⟨k, x0, rfl, hx0, find_here hx0 (by simpa using c16) hall⟩, rfl, hw.sub (List.nil_sublist _)⟩
  ·refine CX.skip (XX.inBlock (V' := [(0, _), (1, _), (7, _), (8, _)]) ⟨rfl, rfl, rfl, rfl, trivial⟩ ?_)
   refine XX.next (V' := [(0, _), (1, _), (7, _), (8, _)]) ⟨rfl, rfl, rfl, rfl, trivial⟩ ?_
   refine CX.region ?_
   refine RX.cons rfl rfl (op_w (yw_add rfl rfl rfl (by omega) (by omega)) rfl rfl ?_)
   refine RX.cons rfl rfl (op_w (yw_move rfl rfl) rfl rfl ?_)
   refine RX.nil (XX.againP ([]) (k + 1) (by omega) ⟨by omega, all_snocP (p := fun x : Fc => hitF d i x = false) hx0 (by simpa using c16) hall⟩ ⟨rfl, rfl, rfl, rfl, trivial⟩ (List.Perm.refl _))
 ·rw [List.take_of_length_le (by omega)] at hall
  refine CX.exit ?_
  refine XX.then_exit ?_
  refine XX.then_exit ?_
  refine XX.block_exit ?_
  refine XX.next (V' := []) trivial ?_
  refine CX.seq ?_
  refine CX.region ?_
  refine RX.cons rfl rfl (op_w (yw_assign rfl rfl) rfl rfl ?_)
  refine RX.nil (XX.next (V' := [(4, .int .i64 (-1))]) ⟨rfl, trivial⟩ ?_)
  refine CX.ret ?_
  exact ret_tmp rfl rfl fun w1 hw => ⟨-1, .inr ⟨rfl, find_not hall⟩, rfl, hw.sub (List.nil_sublist _)⟩

set_option maxRecDepth 100000 in
theorem w_first {w : World} {AM : Option Addr} {capM : Nat} (fs : List Fc) (hrM : Rd w AM 18 (fs.map fcC)) (hlM : fs.length ≤ 1000000) (d i : Int) {gd gi : Nat} (h1 : w.cell? ⟨gd, 0, none⟩ = some (.int .i64 d)) (h2 : w.cell? ⟨gi, 0, none⟩ = some (.int .i64 i)) :
    Calls Tryz.prog 39 #[.slice AM fs.length capM, .func (.func 91) #[] #[.pointer (some ⟨gd, 0, none⟩), .pointer (some ⟨gi, 0, none⟩)]] w (fun e w' => ∃ b : Bool, True ∧ e = .returned (.tuple #[.agg (fcC ((List.find? (hitF d i) fs).getD fc0)), .bool b]) ∧ SL w [] w' []) := by
 refine calls_of_CX (O := []) (L := []) (args := [.slice AM fs.length capM, .func (.func 91) #[] #[.pointer (some ⟨gd, 0, none⟩), .pointer (some ⟨gi, 0, none⟩)]]) Tryz.func39 rfl (by simp [Tryz.ntmps39]) (SL.refl w) ?_
 refine CX.sub (V' := [(0, .slice AM fs.length capM), (1, .func (.func 91) #[] #[.pointer (some ⟨gd, 0, none⟩), .pointer (some ⟨gi, 0, none⟩)])]) ⟨rfl, rfl, trivial⟩ ?_
 refine CX.seq ?_
 refine CX.region ?_
 refine RX.cons rfl rfl (op_alloc rfl rfl rfl zero_27 fun g4 => ?_)
 refine RX.cons rfl rfl (op_w (yw_assign rfl rfl) rfl rfl ?_)
 refine RX.nil (XX.next (V' := [(0, _), (1, _), (4, .pointer (some ⟨g4, 0, none⟩))]) ⟨rfl, rfl, rfl, trivial⟩ ?_)
 refine CX.seq ?_
 refine CX.seq ?_
 refine CX.region ?_
 refine RX.cons rfl rfl (op_w (yw_move rfl rfl) rfl rfl ?_)
 refine RX.cons rfl rfl (op_w (yw_move rfl rfl) rfl rfl ?_)
 refine RX.cons rfl rfl (op_callE rfl rfl rfl rfl rfl ent_90 (fun w hw => w_idxF fs (hw.rd hrM (by simp)) hlM d i (hw.keepC h1 (by simp)) (hw.keepC h2 (by simp))) (fun v1 hv1 => ?_))
 refine RX.cons rfl rfl (op_w (yw_assign rfl rfl) rfl rfl ?_)
 refine RX.nil (XX.next (V' := [(0, _), (4, .pointer (some ⟨g4, 0, none⟩)), (6, _)]) ⟨rfl, rfl, rfl, trivial⟩ ?_)
 refine CX.seq ?_
 rcases hv1 with ⟨j, x1, rfl, hx1, hf1⟩ | ⟨rfl, hf1⟩
 ·have hj := (List.getElem?_eq_some_iff.1 hx1).1
  refine CX.region ?_
  refine RX.cons rfl rfl (op_w (yw_move rfl rfl) rfl rfl ?_)
  refine RX.cons rfl rfl (op_w (yw_geq rfl rfl rfl) rfl rfl ?_)
  refine RX.nil (XX.next (V' := [(0, _), (4, .pointer (some ⟨g4, 0, none⟩)), (6, _), (12, _)]) ⟨rfl, rfl, rfl, rfl, trivial⟩ ?_)
  refine CX.condD (p := 0 ≤ ((j : Nat) : Int)) rfl (fun c12 => ?_) (fun c12 => ?_)
  ·have hAM : ∃ b j, AM = some ⟨b, j, none⟩ := hrM.some (k := 0) (by simp; omega)
   refine CX.seq ?_
   refine CX.region ?_
   refine RX.cons rfl rfl (op_w (yw_move rfl rfl) rfl rfl ?_)
   refine RX.cons rfl rfl (op_w (yw_move rfl rfl) rfl rfl ?_)
   refine RX.cons rfl rfl (op_w (yw_index (k := j) rfl slt_22 rfl rfl (by omega) (by omega) hAM) rfl rfl ?_)
   refine RX.cons rfl rfl (op_yld (y_elem rfl rfl agg_27 hrM (by simp) (map_get hx1)) rfl rfl ?_)
   refine RX.cons rfl rfl (op_storeAll (i := 0) rfl rfl rfl rfl szt_27 rfl (plain_of rfl) rfl rfl ?_)
   refine RX.cons rfl rfl (op_w (yw_assign rfl rfl) rfl rfl ?_)
   refine RX.nil (XX.next (V' := [(4, .pointer (some ⟨g4, 0, none⟩)), (5, .bool true)]) ⟨rfl, rfl, trivial⟩ ?_)
   refine CX.ret ?_
   refine XX.then_ret ?_
   exact ret_cellT (i := 0) rfl rfl rfl agg_27 rfl rfl fun w1 hw => ⟨true, trivial, by rw [hf1]; rfl, hw.sub (List.nil_sublist _)⟩
  ·exfalso; omega
 ·refine CX.region ?_
  refine RX.cons rfl rfl (op_w (yw_move rfl rfl) rfl rfl ?_)
  refine RX.cons rfl rfl (op_w (yw_geq rfl rfl rfl) rfl rfl ?_)
  refine RX.nil (XX.next (V' := [(0, _), (4, .pointer (some ⟨g4, 0, none⟩)), (6, _), (12, _)]) ⟨rfl, rfl, rfl, rfl, trivial⟩ ?_)
  refine CX.condD (p := 0 ≤ -1) rfl (fun c12 => ?_) (fun c12 => ?_)
  ·exfalso; omega
  ·refine CX.skip (XX.next (V' := [(4, .pointer (some ⟨g4, 0, none⟩))]) ⟨rfl, trivial⟩ ?_)
   refine CX.seq ?_
   refine CX.region ?_
   refine RX.cons rfl rfl (op_alloc rfl rfl rfl zero_27 fun g7 => ?_)
   refine RX.nil (XX.next (V' := [(4, .pointer (some ⟨g4, 0, none⟩)), (7, _)]) ⟨rfl, rfl, trivial⟩ ?_)
   refine CX.seq ?_
   refine CX.region ?_
   refine RX.cons rfl rfl (op_yld (y_loadA (i := 0) rfl rfl agg_27 rfl rfl) rfl rfl ?_)
   refine RX.cons rfl rfl (op_storeAll (i := 1) rfl rfl rfl rfl szt_27 rfl (plain_of rfl) rfl rfl ?_)
   refine RX.cons rfl rfl (op_w (yw_assign rfl rfl) rfl rfl ?_)
   refine RX.nil (XX.next (V' := [(4, .pointer (some ⟨g4, 0, none⟩)), (5, .bool false)]) ⟨rfl, rfl, trivial⟩ ?_)
   refine CX.ret ?_
   exact ret_cellT (i := 1) rfl rfl rfl agg_27 rfl rfl fun w1 hw => ⟨false, trivial, by rw [hf1]; rfl, hw.sub (List.nil_sublist _)⟩

end Go.Proofs.YtpcfgoadkfajfaaGreatDoor
namespace Go.Proofs.YtpcfgoadkfajfaaGreatDoor
set_option linter.all false
open Go Go.RowKit
set_option maxRecDepth 100000
theorem fld_30_1 : Fld Tryz.prog 30 1 1 := ⟨_, _, (Tryz.prog.info? 22).get!, Tryz.underlying30, rfl, rfl, by kernel_rfl, by decide +kernel⟩
theorem one_22 : One Tryz.prog 22 := ⟨_, Tryz.underlying22, rfl⟩
theorem ent_40 : ∀ args w, (callFunc 40 args).run Tryz.prog w = .ok (.enter 40 args) w := enters_of Tryz.func40 (by kernel_rfl) rfl
theorem ent_39 : ∀ args w, (callFunc 39 args).run Tryz.prog w = .ok (.enter 39 args) w := enters_of Tryz.func39 (by kernel_rfl) rfl
theorem fld_27_16 : Fld Tryz.prog 27 16 16 := ⟨_, _, (Tryz.prog.info? 3).get!, Tryz.underlying27, rfl, rfl, by kernel_rfl, by decide +kernel⟩
set_option maxRecDepth 100000 in
theorem w_baseOf {w : World} (d i : Int) :
    Calls Tryz.prog 40 #[.int .i64 d, .int .i64 i] w (fun e w' => ∃ z : Nat × Nat, True ∧ e = .returned (.func (.func 91) #[] #[.pointer (some ⟨z.1, 0, none⟩), .pointer (some ⟨z.2, 0, none⟩)]) ∧ SL w [] w' [.blk z.1 (.cells #[.int .i64 d] 3 (0, 0)), .blk z.2 (.cells #[.int .i64 i] 3 (0, 0))]) := by
 refine calls_of_CX (O := []) (L := []) (args := [.int .i64 d, .int .i64 i]) Tryz.func40 rfl (by simp [Tryz.ntmps40]) (SL.refl w) ?_
 refine CX.sub (V' := [(0, .int .i64 d), (1, .int .i64 i)]) ⟨rfl, rfl, trivial⟩ ?_
 refine CX.seq ?_
 refine CX.region ?_
 refine RX.cons rfl rfl (op_box rfl rfl rfl rfl fun gd => ?_)
 refine RX.cons rfl rfl (op_box rfl rfl rfl rfl fun gi => ?_)
 refine RX.cons rfl rfl (op_w (yw_assign rfl rfl) rfl rfl ?_)
 refine RX.nil (XX.next (V' := [(2, _), (3, _)]) ⟨rfl, rfl, trivial⟩ ?_)
 refine CX.seq ?_
 refine CX.region ?_
 refine RX.cons rfl rfl (op_w (yw_makeFunc rfl rfl rfl) rfl rfl ?_)
 refine RX.cons rfl rfl (op_w (yw_assign rfl rfl) rfl rfl ?_)
 refine RX.nil (XX.next (V' := [(4, .func (.func 91) #[] #[.pointer (some ⟨gd, 0, none⟩), .pointer (some ⟨gi, 0, none⟩)])]) ⟨rfl, trivial⟩ ?_)
 refine CX.ret ?_
 exact ret_tmp rfl rfl fun w1 hw => ⟨(gd, gi), trivial, rfl, hw.pick ((perm_pick 1 rfl).trans (List.Perm.cons _ ((perm_pick 0 rfl).trans (List.Perm.cons _ (List.Perm.refl _)))))⟩

set_option maxRecDepth 100000 in
theorem w_Mark {w : World} {AM : Option Addr} {capM : Nat} (fs : List Fc) (hrM : Rd w AM 18 (fs.map fcC)) (hlM : fs.length ≤ 1000000) (d i : Int) {v0 v2 v3 v4 v5 v6 v7 v8 v9 : Value} :
    Calls Tryz.prog 22 #[.agg (#[v0, .slice AM fs.length capM, v2, v3, v4, v5, v6, v7, v8, v9]), .int .i64 d, .int .i64 i] w (fun e w' => e = .returned (.int .i64 (markOf fs d i)) ∧ SL w [] w' []) := by
 refine calls_of_CX (O := []) (L := []) (args := [.agg (#[v0, .slice AM fs.length capM, v2, v3, v4, v5, v6, v7, v8, v9]), .int .i64 d, .int .i64 i]) Tryz.func22 rfl (by simp [Tryz.ntmps22]) (SL.refl w) ?_
 refine CX.sub (V' := [(0, .agg (#[v0, .slice AM fs.length capM, v2, v3, v4, v5, v6, v7, v8, v9])), (1, .int .i64 d), (2, .int .i64 i)]) ⟨rfl, rfl, rfl, trivial⟩ ?_
 refine CX.seq ?_
 refine CX.region ?_
 refine RX.cons rfl rfl (op_box rfl rfl rfl rfl fun g3 => ?_)
 refine RX.cons rfl rfl (op_w (yw_assign rfl rfl) rfl rfl ?_)
 refine RX.nil (XX.next (V' := [(1, _), (2, _), (3, _)]) ⟨rfl, rfl, rfl, trivial⟩ ?_)
 refine CX.seq ?_
 refine CX.drawL 10 ([.blk g3 (.cells (#[v0, .slice AM fs.length capM, v2, v3, v4, v5, v6, v7, v8, v9]) 30 (0, 0))]) [(0, 8, 1024), (1, 1024, 2048), (0, 2, 4096), (0, 4, 8192), (12, 12288, 16384), (18, 18432, 32768), (32, 32768, 512), (64, 512, 65536), (64, 512, 131072), (0, 0, 128), (767, 65664, 0), (2047, 131072, 256)] (by kernel_rfl) (by kernel_rfl) (by kernel_rfl) ?_
 refine DX.takeW 0 1 (by kernel_rfl) rfl rfl rfl rfl rfl (yw_fieldAddr rfl fld_30_1 rfl) ?_
 refine DX.take 1 3 (by kernel_rfl) rfl rfl rfl rfl rfl (List.Sublist.refl _) (y_load (i := 0) rfl rfl one_22 rfl rfl) ?_
 refine DX.takeW 2 7 (by kernel_rfl) rfl rfl rfl rfl rfl (yw_move rfl rfl) ?_
 refine DX.takeW 3 15 (by kernel_rfl) rfl rfl rfl rfl rfl (yw_move rfl rfl) ?_
 refine DX.step2 4 9 31 527 (by kernel_rfl) rfl rfl rfl rfl rfl rfl (op_callE rfl rfl rfl rfl rfl ent_40 (fun w hw => w_baseOf d i) (fun ⟨gd, gi⟩ _ => (DXs.mk (List.Sublist.cons _ (List.Sublist.cons _ (List.Sublist.refl _))) ?_))) (op_alloc rfl rfl rfl zero_27 fun g7 => (DXs.mk (List.Sublist.cons _ (List.Sublist.refl _)) ?_))
 ·refine DX.step2 5 9 63 543 (by kernel_rfl) rfl rfl rfl rfl rfl rfl (op_callE rfl rfl rfl rfl rfl ent_39 (fun w hw => w_first fs (hw.rd hrM (by simp)) hlM d i (hw.cellOf (i := 0) rfl rfl) (hw.cellOf (i := 1) rfl rfl)) (fun b1 _ => (DXs.mk (List.Sublist.cons _ (List.Sublist.cons _ (List.Sublist.refl _))) ?_))) (op_alloc rfl rfl rfl zero_27 fun g7 => (DXs.mk (List.Sublist.cons _ (List.Sublist.cons _ (List.Sublist.cons _ (List.Sublist.refl _)))) ?_))
  ·refine DX.takeW 6 127 (by kernel_rfl) rfl rfl rfl rfl rfl (yw_move rfl rfl) ?_
   refine DX.takeW 7 255 (by kernel_rfl) rfl rfl rfl rfl rfl (yw_extract rfl rfl rfl) ?_
   refine DX.takeW 8 511 (by kernel_rfl) rfl rfl rfl rfl rfl (yw_extract rfl rfl rfl) ?_
   refine DX.step 9 1023 (by kernel_rfl) rfl rfl rfl (op_alloc rfl rfl rfl zero_27 fun g7 => (DXs.mk (List.Sublist.cons _ (List.Sublist.cons _ (List.Sublist.cons _ (List.Sublist.refl _)))) ?_))
   refine DX.stepT 10 2047 (by kernel_rfl) rfl rfl rfl rfl (op_storeAll (i := 0) rfl rfl rfl rfl szt_27 rfl (plain_of rfl) rfl rfl ?_)
   refine DX.takeW 11 4095 (by kernel_rfl) rfl rfl rfl rfl rfl (yw_assign rfl rfl) ?_
   refine DX.done (by kernel_rfl) (XX.next (V' := [(7, _)]) ⟨rfl, trivial⟩ ?_)
   refine CX.seq ?_
   refine CX.region ?_
   refine RX.cons rfl rfl (op_w (yw_fieldAddr rfl fld_27_16 rfl) rfl rfl ?_)
   refine RX.cons rfl rfl (op_yld (y_load (i := 0) rfl rfl one_3 rfl rfl) rfl rfl ?_)
   refine RX.cons rfl rfl (op_w (yw_assign rfl rfl) rfl rfl ?_)
   refine RX.nil (XX.next (V' := [(6, .int .i64 (Fc.mark ((List.find? (hitF d i) fs).getD fc0)))]) ⟨rfl, trivial⟩ ?_)
   refine CX.ret ?_
   exact ret_tmp rfl rfl fun w1 hw => ⟨rfl, hw.sub (List.nil_sublist _)⟩
  ·refine DX.step 5 575 (by kernel_rfl) rfl rfl rfl (op_callE rfl rfl rfl rfl rfl ent_39 (fun w hw => w_first fs (hw.rd hrM (by simp)) hlM d i (hw.cellOf (i := 1) rfl rfl) (hw.cellOf (i := 2) rfl rfl)) (fun b1 _ => (DXs.mk (List.Sublist.cons _ (List.Sublist.cons _ (List.Sublist.cons _ (List.Sublist.refl _)))) ?_)))
   refine DX.takeW 6 639 (by kernel_rfl) rfl rfl rfl rfl rfl (yw_move rfl rfl) ?_
   refine DX.takeW 7 767 (by kernel_rfl) rfl rfl rfl rfl rfl (yw_extract rfl rfl rfl) ?_
   refine DX.takeW 8 1023 (by kernel_rfl) rfl rfl rfl rfl rfl (yw_extract rfl rfl rfl) ?_
   refine DX.stepT 10 2047 (by kernel_rfl) rfl rfl rfl rfl (op_storeAll (i := 0) rfl rfl rfl rfl szt_27 rfl (plain_of rfl) rfl rfl ?_)
   refine DX.takeW 11 4095 (by kernel_rfl) rfl rfl rfl rfl rfl (yw_assign rfl rfl) ?_
   refine DX.done (by kernel_rfl) (XX.next (V' := [(7, _)]) ⟨rfl, trivial⟩ ?_)
   refine CX.seq ?_
   refine CX.region ?_
   refine RX.cons rfl rfl (op_w (yw_fieldAddr rfl fld_27_16 rfl) rfl rfl ?_)
   refine RX.cons rfl rfl (op_yld (y_load (i := 0) rfl rfl one_3 rfl rfl) rfl rfl ?_)
   refine RX.cons rfl rfl (op_w (yw_assign rfl rfl) rfl rfl ?_)
   refine RX.nil (XX.next (V' := [(6, .int .i64 (Fc.mark ((List.find? (hitF d i) fs).getD fc0)))]) ⟨rfl, trivial⟩ ?_)
   refine CX.ret ?_
   exact ret_tmp rfl rfl fun w1 hw => ⟨rfl, hw.sub (List.nil_sublist _)⟩
 ·refine DX.step 4 543 (by kernel_rfl) rfl rfl rfl (op_callE rfl rfl rfl rfl rfl ent_40 (fun w hw => w_baseOf d i) (fun ⟨gd, gi⟩ _ => (DXs.mk (List.Sublist.cons _ (List.Sublist.cons _ (List.Sublist.cons _ (List.Sublist.refl _)))) ?_)))
  refine DX.step 5 575 (by kernel_rfl) rfl rfl rfl (op_callE rfl rfl rfl rfl rfl ent_39 (fun w hw => w_first fs (hw.rd hrM (by simp)) hlM d i (hw.cellOf (i := 0) rfl rfl) (hw.cellOf (i := 1) rfl rfl)) (fun b1 _ => (DXs.mk (List.Sublist.cons _ (List.Sublist.cons _ (List.Sublist.cons _ (List.Sublist.refl _)))) ?_)))
  refine DX.takeW 6 639 (by kernel_rfl) rfl rfl rfl rfl rfl (yw_move rfl rfl) ?_
  refine DX.takeW 7 767 (by kernel_rfl) rfl rfl rfl rfl rfl (yw_extract rfl rfl rfl) ?_
  refine DX.takeW 8 1023 (by kernel_rfl) rfl rfl rfl rfl rfl (yw_extract rfl rfl rfl) ?_
  refine DX.stepT 10 2047 (by kernel_rfl) rfl rfl rfl rfl (op_storeAll (i := 2) rfl rfl rfl rfl szt_27 rfl (plain_of rfl) rfl rfl ?_)
  refine DX.takeW 11 4095 (by kernel_rfl) rfl rfl rfl rfl rfl (yw_assign rfl rfl) ?_
  refine DX.done (by kernel_rfl) (XX.next (V' := [(7, _)]) ⟨rfl, trivial⟩ ?_)
  refine CX.seq ?_
  refine CX.region ?_
  refine RX.cons rfl rfl (op_w (yw_fieldAddr rfl fld_27_16 rfl) rfl rfl ?_)
  refine RX.cons rfl rfl (op_yld (y_load (i := 2) rfl rfl one_3 rfl rfl) rfl rfl ?_)
  refine RX.cons rfl rfl (op_w (yw_assign rfl rfl) rfl rfl ?_)
  refine RX.nil (XX.next (V' := [(6, .int .i64 (Fc.mark ((List.find? (hitF d i) fs).getD fc0)))]) ⟨rfl, trivial⟩ ?_)
  refine CX.ret ?_
  exact ret_tmp rfl rfl fun w1 hw => ⟨rfl, hw.sub (List.nil_sublist _)⟩

end Go.Proofs.YtpcfgoadkfajfaaGreatDoor
namespace Go.Proofs.YtpcfgoadkfajfaaGreatDoor
set_option linter.all false
open Go Go.RowKit
set_option maxRecDepth 100000
theorem ent_21 : ∀ args w, (callFunc 21 args).run Tryz.prog w = .ok (.enter 21 args) w := enters_of Tryz.func21 (by kernel_rfl) rfl
theorem ent_14 : ∀ args w, (callFunc 14 args).run Tryz.prog w = .ok (.enter 14 args) w := enters_of Tryz.func14 (by kernel_rfl) rfl
theorem fld_39_8 : Fld Tryz.prog 39 8 8 := ⟨_, _, (Tryz.prog.info? 3).get!, Tryz.underlying39, rfl, rfl, by kernel_rfl, by decide +kernel⟩
theorem agg_30 : AggT Tryz.prog 30 10 := ⟨_, _, Tryz.underlying30, rfl, (by kernel_rfl : Tryz.prog.info? 30 = some (Tryz.prog.info? 30).get!), by kernel_rfl⟩
theorem fld_39_1 : Fld Tryz.prog 39 1 1 := ⟨_, _, (Tryz.prog.info? 3).get!, Tryz.underlying39, rfl, rfl, by kernel_rfl, by decide +kernel⟩
theorem ent_22 : ∀ args w, (callFunc 22 args).run Tryz.prog w = .ok (.enter 22 args) w := enters_of Tryz.func22 (by kernel_rfl) rfl
abbrev mkS (s : Sm) (m : Int) : Sm := { s with mark := m }
def handM (fs : List Fc) (s : Sm) (m : Int) : Int := if 1 ≤ markOf fs s.dev s.id ∧ markOf fs s.dev s.id ≤ 3 then markOf fs s.dev s.id else m
/-- The streams with their marks. -/
def applyS (fs : List Fc) (rs : List Ru) (ls : List Sm) : List Sm := ls.map fun s => mkS s (handM fs s (jud rs ls s))
theorem set_mark (Y : List Sm) (k : Nat) (x : Sm) (m : Int) : (List.map smC Y).set k ((smC x).setIfInBounds 8 (.int .i64 m)) = List.map smC (Y.set k (mkS x m)) := by rw [List.map_set]; rfl
theorem map_set_step {α : Type} {l : List α} {k : Nat} {x : α} (f : α → α) (hx : l[k]? = some x) : ((l.take k).map f ++ l.drop k).set k (f x) = (l.take (k + 1)).map f ++ l.drop (k + 1) := by
  have hk := (List.getElem?_eq_some_iff.1 hx).1
  rw [take_map_succ hx, List.set_append_right _ _ (by simp; omega), List.length_map, List.length_take, Nat.min_eq_left (by omega), Nat.sub_self, List.drop_eq_getElem_cons hk, List.append_assoc]
  rfl
theorem map_set_at {α : Type} {l : List α} {k : Nat} {x : α} (f : α → α) (hx : l[k]? = some x) : ((l.take k).map f ++ l.drop k)[k]? = some x := by
  have hk := (List.getElem?_eq_some_iff.1 hx).1
  rw [List.getElem?_append_right (by simp; omega), List.length_map, List.length_take, Nat.min_eq_left (by omega), Nat.sub_self, List.getElem?_drop, Nat.add_zero]; exact hx
set_option maxRecDepth 100000 in
theorem w_Apply {w : World} {AM AR A : Option Addr} {capM capR cap : Nat} {v0 v2 v3 v4 v5 v6 v7 v8 v9 : Value} (fs : List Fc) (rs : List Ru) (ls : List Sm) (hrM : Rd w AM 18 (fs.map fcC)) (hrR : Rd w AR 4 (rs.map ruC)) (hr : Rd w A 9 (ls.map smC)) (hlM : fs.length ≤ 1000000) (hlR : rs.length ≤ 1000000) (hl : ls.length ≤ 100000) :
    Calls Tryz.prog 9 #[.agg (#[v0, .slice AM fs.length capM, v2, v3, v4, v5, v6, v7, v8, v9]), .slice AR rs.length capR, .slice A ls.length cap] w (fun e w' => ∃ z : Option Addr × Nat, True ∧ e = .returned (.slice z.1 (List.length (applyS fs rs ls)) z.2) ∧ SL w [] w' [.row z.1 z.2 39 9 (List.map smC (applyS fs rs ls))]) := by
 refine calls_of_CX (O := []) (L := []) (args := [.agg (#[v0, .slice AM fs.length capM, v2, v3, v4, v5, v6, v7, v8, v9]), .slice AR rs.length capR, .slice A ls.length cap]) Tryz.func9 rfl (by simp [Tryz.ntmps9]) (SL.refl w) ?_
 refine CX.sub (V' := [(0, .agg (#[v0, .slice AM fs.length capM, v2, v3, v4, v5, v6, v7, v8, v9])), (1, .slice AR rs.length capR), (2, .slice A ls.length cap)]) ⟨rfl, rfl, rfl, trivial⟩ ?_
 refine CX.seq ?_
 refine CX.region ?_
 refine RX.cons rfl rfl (op_box rfl rfl rfl rfl fun g3 => ?_)
 refine RX.cons rfl rfl (op_w (yw_assign rfl rfl) rfl rfl ?_)
 refine RX.nil (XX.next (V' := [(1, _), (2, _), (3, _)]) ⟨rfl, rfl, rfl, trivial⟩ ?_)
 refine CX.seq ?_
 refine CX.region ?_
 refine RX.cons rfl rfl (op_w (yw_move rfl rfl) rfl rfl ?_)
 refine RX.cons rfl rfl (op_callE rfl rfl rfl rfl rfl ent_21 (fun w hw => w_cloneS ls (hw.rd hr (by simp)) (by omega)) (fun ⟨A1, c1⟩ _ => ?_))
 refine RX.cons rfl rfl (op_w (yw_assign rfl rfl) rfl rfl ?_)
 refine RX.nil (XX.next (V' := [(1, _), (2, _), (3, _), (7, _)]) ⟨rfl, rfl, rfl, rfl, trivial⟩ ?_)
 refine CX.seq ?_
 refine CX.seq ?_
 refine CX.region ?_
 refine RX.cons rfl rfl (op_w (yw_move rfl rfl) rfl rfl ?_)
 refine RX.cons rfl rfl (op_w (yw_move rfl rfl) rfl rfl ?_)
 refine RX.cons rfl rfl (op_callE rfl rfl rfl rfl rfl ent_14 (fun w hw => w_Judge rs ls (hw.rd hrR (by simp)) (hw.rd hr (by simp)) hlR hl) (fun ⟨A2, c2⟩ _ => ?_))
 refine RX.cons rfl rfl (op_w (yw_lenS rfl Tryz.underlying24 rfl) rfl rfl ?_)
 refine RX.cons rfl rfl (op_w (yw_move rfl rfl) rfl rfl ?_)
 refine RX.nil (XX.next (V' := [(2, _), (3, _), (7, _), (15, _), (16, _), (17, _)]) ⟨rfl, rfl, rfl, rfl, rfl, rfl, trivial⟩ ?_)
 refine CX.block ?_
 refine CX.perm (L' := [.row A1 c1 39 9 (List.map smC ls), .row A2 c2 3 1 (List.map iR (List.map (jud rs ls) ls)), .blk g3 (.cells (#[v0, .slice AM fs.length capM, v2, v3, v4, v5, v6, v7, v8, v9]) 30 (0, 0))]) ((perm_pick 1 rfl).trans (List.Perm.cons _ ((perm_pick 0 rfl).trans (List.Perm.cons _ ((perm_pick 0 rfl).trans (List.Perm.cons _ (List.Perm.refl _))))))) ?_
 refine CX.loop (σ := Nat) (fun k => [(2, .slice A ls.length cap), (3, .pointer (some ⟨g3, 0, none⟩)), (7, .slice A1 ls.length c1), (15, .slice A2 (List.length ((List.map (jud rs ls) ls) : List Int)) c2), (16, .int .i64 ((List.length ((List.map (jud rs ls) ls) : List Int) : Nat) : Int)), (17, .int .i64 ((k : Nat) : Int))]) (fun k => [.row A1 c1 39 9 (List.map smC (List.map (fun s => mkS s (handM fs s (jud rs ls s))) (List.take k ls) ++ List.drop k ls)), .row A2 c2 3 1 (List.map iR (List.map (jud rs ls) ls)), .blk g3 (.cells (#[v0, .slice AM fs.length capM, v2, v3, v4, v5, v6, v7, v8, v9]) 30 (0, 0))]) (fun k => k ≤ ls.length) (fun k => ls.length - k) 0 (Nat.zero_le _) ⟨rfl, rfl, rfl, rfl, rfl, rfl, trivial⟩ (by simp) (fun k hI => ?_)
 have hk := hI
 refine CX.seq ?_
 refine CX.region ?_
 refine RX.cons rfl rfl (op_w (yw_lss rfl rfl rfl) rfl rfl ?_)
 refine RX.nil (XX.next (V' := [(2, _), (3, _), (7, _), (15, _), (16, _), (17, _), (18, _)]) ⟨rfl, rfl, rfl, rfl, rfl, rfl, rfl, trivial⟩ ?_)
 refine CX.seq ?_
 refine CX.condD (p := ((k : Nat) : Int) < ((List.length ((List.map (jud rs ls) ls) : List Int) : Nat) : Int)) rfl (fun c18 => ?_) (fun c18 => ?_)
 ·have hkl : k < ls.length := by rw [List.length_map] at c18; omega
  obtain ⟨x0, hx0⟩ := get_some (l := ls) (k := k) (by omega)
  have hx0m := List.mem_of_getElem? hx0
  have hA : ∃ b j, A = some ⟨b, j, none⟩ := hr.some (k := 0) (by simp; omega)
  have hY0 := map_set_at (fun s => mkS s (handM fs s (jud rs ls s))) hx0
  have hYn : (List.map (fun s => mkS s (handM fs s (jud rs ls s))) (List.take k ls) ++ List.drop k ls).length = ls.length := by simp; omega
  refine CX.rowSome 0 rfl (by rw [List.length_map]; omega) (fun hA1 => ?_)
  refine CX.rowSome 1 rfl (by rw [List.length_map, List.length_map]; omega) (fun hA2 => ?_)
  refine CX.skip (XX.next (V' := [(2, _), (3, _), (7, _), (15, _), (16, _), (17, _)]) ⟨rfl, rfl, rfl, rfl, rfl, rfl, trivial⟩ ?_)
  refine CX.seq ?_
  refine CX.block ?_
  refine CX.seq ?_
  refine CX.region ?_
  refine RX.cons rfl rfl (op_w (yw_move rfl rfl) rfl rfl ?_)
  refine RX.cons rfl rfl (op_w (yw_index (k := k) rfl slt_24 rfl rfl (by omega) (by rw [List.length_map]; omega) hA2) rfl rfl ?_)
  refine RX.cons rfl rfl (op_yld (y_rowElem1 (i := 1) rfl rfl one_3 rfl (map_get (map_get hx0))) rfl rfl ?_)
  refine RX.cons rfl rfl (op_w (yw_assign rfl rfl) rfl rfl ?_)
  refine RX.cons rfl rfl (op_w (yw_assign rfl rfl) rfl rfl ?_)
  refine RX.nil (XX.next (V' := [(2, _), (3, _), (7, _), (8, _), (9, _), (15, _), (16, _), (17, _)]) ⟨rfl, rfl, rfl, rfl, rfl, rfl, rfl, rfl, trivial⟩ ?_)
  refine CX.seq ?_
  refine CX.region ?_
  refine RX.cons rfl rfl (op_w (yw_move rfl rfl) rfl rfl ?_)
  refine RX.cons rfl rfl (op_w (yw_move rfl rfl) rfl rfl ?_)
  refine RX.cons rfl rfl (op_w (yw_move rfl rfl) rfl rfl ?_)
  refine RX.cons rfl rfl (op_w (yw_index (k := k) rfl slt_34 rfl rfl (by omega) (by omega) hA1) rfl rfl ?_)
  refine RX.cons rfl rfl (op_w (yw_fieldAddr rfl fld_39_8 rfl) rfl rfl ?_)
  refine RX.cons rfl rfl (op_storeElemF (j := 8) (i := 0) (ys := List.map smC ((List.map (fun s => mkS s (handM fs s (jud rs ls s))) (List.take k ls) ++ List.drop k ls).set k (mkS x0 (jud rs ls x0)))) rfl rfl rfl rfl szt_3 rfl rfl rfl (map_get hY0) (by decide) (set_mark _ k x0 (jud rs ls x0)) ?_)
  refine RX.nil (XX.next (V' := [(2, _), (3, _), (7, _), (8, _), (15, _), (16, _), (17, _)]) ⟨rfl, rfl, rfl, rfl, rfl, rfl, rfl, trivial⟩ ?_)
  refine CX.seq ?_
  refine CX.draw 13 [(0, 8, 134217728), (0, 4, 268435456), (0, 256, 536870912), (6, 805306368, 1073741824), (8, 1073741824, 2147483648), (16, 2147483648, 4294967296), (0, 4, 8589934592), (0, 256, 17179869184), (192, 25769803776, 34359738368), (256, 34359738368, 68719476736), (512, 68719476736, 137438953472), (1057, 141868138496, 274877906944), (4095, 274877906944, 1024)] (by kernel_rfl) (by kernel_rfl) (by kernel_rfl) ?_
  refine DX.take 0 1 (by kernel_rfl) rfl rfl rfl rfl rfl (List.Sublist.refl _) (y_loadA (i := 2) rfl rfl agg_30 rfl rfl) ?_
  refine DX.takeW 1 3 (by kernel_rfl) rfl rfl rfl rfl rfl (yw_move rfl rfl) ?_
  refine DX.takeW 2 7 (by kernel_rfl) rfl rfl rfl rfl rfl (yw_move rfl rfl) ?_
  refine DX.takeW 3 15 (by kernel_rfl) rfl rfl rfl rfl rfl (yw_index (k := k) rfl slt_34 rfl rfl (by omega) (by omega) hA) ?_
  refine DX.takeW 4 31 (by kernel_rfl) rfl rfl rfl rfl rfl (yw_field0 rfl fld_39_0 rfl) ?_
  refine DX.take 5 63 (by kernel_rfl) rfl rfl rfl rfl rfl (List.Sublist.refl _) (y_elemF (j := 0) rfl rfl one_3 hr (by simp) (map_get hx0) rfl) ?_
  refine DX.takeW 6 127 (by kernel_rfl) rfl rfl rfl rfl rfl (yw_move rfl rfl) ?_
  refine DX.takeW 7 255 (by kernel_rfl) rfl rfl rfl rfl rfl (yw_move rfl rfl) ?_
  refine DX.takeW 8 511 (by kernel_rfl) rfl rfl rfl rfl rfl (yw_index (k := k) rfl slt_34 rfl rfl (by omega) (by omega) hA) ?_
  refine DX.takeW 9 1023 (by kernel_rfl) rfl rfl rfl rfl rfl (yw_fieldAddr rfl fld_39_1 rfl) ?_
  refine DX.take 10 2047 (by kernel_rfl) rfl rfl rfl rfl rfl (List.Sublist.refl _) (y_elemF rfl rfl one_3 hr (by simp) (map_get hx0) rfl) ?_
  refine DX.step 11 4095 (by kernel_rfl) rfl rfl rfl (op_callV (v := .int .i64 (markOf fs (Sm.dev x0) (Sm.id x0))) rfl rfl rfl rfl rfl ent_22 (fun w hw => w_Mark fs (hw.rd hrM (by simp)) hlM (Sm.dev x0) (Sm.id x0)) (DXs.mk (List.Sublist.refl _) ?_))
  refine DX.takeW 12 8191 (by kernel_rfl) rfl rfl rfl rfl rfl (yw_assign rfl rfl) ?_
  refine DX.done (by kernel_rfl) (XX.next (V' := [(2, _), (3, _), (7, _), (8, _), (10, _), (15, _), (16, _), (17, _)]) ⟨rfl, rfl, rfl, rfl, rfl, rfl, rfl, rfl, trivial⟩ ?_)
  refine CX.seq ?_
  refine CX.region ?_
  refine RX.cons rfl rfl (op_w (yw_move rfl rfl) rfl rfl ?_)
  refine RX.cons rfl rfl (op_w (yw_geq rfl rfl rfl) rfl rfl ?_)
  refine RX.cons rfl rfl (op_w (yw_move rfl rfl) rfl rfl ?_)
  refine RX.splitD (t := 41) (p := 1 ≤ markOf fs (Sm.dev x0) (Sm.id x0)) rfl (fun d41 => ?_) (fun d41 => ?_)
  ·refine RX.consG rfl rfl rfl rfl rfl (op_w (yw_move rfl rfl) rfl rfl ?_)
   refine RX.consG rfl rfl rfl rfl rfl (op_w (yw_leq rfl rfl rfl) rfl rfl ?_)
   refine RX.cons rfl rfl (op_w (yw_pickT rfl rfl rfl) rfl rfl ?_)
   refine RX.nil (XX.next (V' := [(2, _), (3, _), (7, _), (8, _), (10, _), (15, _), (16, _), (17, _), (44, _)]) ⟨rfl, rfl, rfl, rfl, rfl, rfl, rfl, rfl, rfl, trivial⟩ ?_)
   refine CX.condD (p := markOf fs (Sm.dev x0) (Sm.id x0) ≤ 3) rfl (fun c44 => ?_) (fun c44 => ?_)
   ·refine CX.region ?_
    refine RX.cons rfl rfl (op_w (yw_move rfl rfl) rfl rfl ?_)
    refine RX.cons rfl rfl (op_w (yw_move rfl rfl) rfl rfl ?_)
    refine RX.cons rfl rfl (op_w (yw_move rfl rfl) rfl rfl ?_)
    refine RX.cons rfl rfl (op_w (yw_index (k := k) rfl slt_34 rfl rfl (by omega) (by omega) hA1) rfl rfl ?_)
    refine RX.cons rfl rfl (op_w (yw_fieldAddr rfl fld_39_8 rfl) rfl rfl ?_)
    refine RX.cons rfl rfl (op_storeElemF (j := 8) (i := 0) (ys := List.map smC (((List.map (fun s => mkS s (handM fs s (jud rs ls s))) (List.take k ls) ++ List.drop k ls).set k (mkS x0 (jud rs ls x0))).set k (mkS (mkS x0 (jud rs ls x0)) (markOf fs (Sm.dev x0) (Sm.id x0))))) rfl rfl rfl rfl szt_3 rfl rfl rfl (map_get (l := ((List.map (fun s => mkS s (handM fs s (jud rs ls s))) (List.take k ls) ++ List.drop k ls).set k (mkS x0 (jud rs ls x0)))) (by rw [List.getElem?_set_self (by omega)])) (by decide) (set_mark _ k (mkS x0 (jud rs ls x0)) (markOf fs (Sm.dev x0) (Sm.id x0))) ?_)
    refine RX.nil (XX.inBlock (V' := [(2, _), (3, _), (7, _), (15, _), (16, _), (17, _)]) ⟨rfl, rfl, rfl, rfl, rfl, rfl, trivial⟩ ?_)
    refine XX.next (V' := [(2, _), (3, _), (7, _), (15, _), (16, _), (17, _)]) ⟨rfl, rfl, rfl, rfl, rfl, rfl, trivial⟩ ?_
    refine CX.ents (L' := [.row A1 c1 39 9 (List.map smC (List.map (fun s => mkS s (handM fs s (jud rs ls s))) (List.take (k + 1) ls) ++ List.drop (k + 1) ls)), .row A2 c2 3 1 (List.map iR (List.map (jud rs ls) ls)), .blk g3 (.cells (#[v0, .slice AM fs.length capM, v2, v3, v4, v5, v6, v7, v8, v9]) 30 (0, 0))]) (by rw [← map_set_step (fun s => mkS s (handM fs s (jud rs ls s))) hx0, List.set_set, List.set_set, handM, if_pos ⟨by omega, by omega⟩]; rfl) ?_
    refine CX.region ?_
    refine RX.cons rfl rfl (op_w (yw_add rfl rfl rfl (by omega) (by omega)) rfl rfl ?_)
    refine RX.cons rfl rfl (op_w (yw_move rfl rfl) rfl rfl ?_)
    refine RX.nil (XX.againP ([]) (k + 1) (by omega) (by omega) ⟨rfl, rfl, rfl, rfl, rfl, rfl, trivial⟩ ((perm_pick 0 rfl).trans (List.Perm.cons _ ((perm_pick 0 rfl).trans (List.Perm.cons _ ((perm_pick 0 rfl).trans (List.Perm.cons _ (List.Perm.refl _))))))))
   ·refine CX.skip (XX.inBlock (V' := [(2, _), (3, _), (7, _), (15, _), (16, _), (17, _)]) ⟨rfl, rfl, rfl, rfl, rfl, rfl, trivial⟩ ?_)
    refine XX.next (V' := [(2, _), (3, _), (7, _), (15, _), (16, _), (17, _)]) ⟨rfl, rfl, rfl, rfl, rfl, rfl, trivial⟩ ?_
    refine CX.ents (L' := [.row A1 c1 39 9 (List.map smC (List.map (fun s => mkS s (handM fs s (jud rs ls s))) (List.take (k + 1) ls) ++ List.drop (k + 1) ls)), .row A2 c2 3 1 (List.map iR (List.map (jud rs ls) ls)), .blk g3 (.cells (#[v0, .slice AM fs.length capM, v2, v3, v4, v5, v6, v7, v8, v9]) 30 (0, 0))]) (by rw [← map_set_step (fun s => mkS s (handM fs s (jud rs ls s))) hx0, handM, if_neg (by omega)]; rfl) ?_
    refine CX.region ?_
    refine RX.cons rfl rfl (op_w (yw_add rfl rfl rfl (by omega) (by omega)) rfl rfl ?_)
    refine RX.cons rfl rfl (op_w (yw_move rfl rfl) rfl rfl ?_)
    refine RX.nil (XX.againP ([]) (k + 1) (by omega) (by omega) ⟨rfl, rfl, rfl, rfl, rfl, rfl, trivial⟩ ((perm_pick 0 rfl).trans (List.Perm.cons _ ((perm_pick 0 rfl).trans (List.Perm.cons _ ((perm_pick 0 rfl).trans (List.Perm.cons _ (List.Perm.refl _))))))))
  ·refine RX.skip rfl rfl rfl rfl rfl rfl rfl ?_
   refine RX.skip rfl rfl rfl rfl rfl rfl rfl ?_
   refine RX.cons rfl rfl (op_w (yw_pickF rfl rfl rfl) rfl rfl ?_)
   refine RX.nil (XX.next (V' := [(2, _), (3, _), (7, _), (8, _), (10, _), (15, _), (16, _), (17, _), (44, _)]) ⟨rfl, rfl, rfl, rfl, rfl, rfl, rfl, rfl, rfl, trivial⟩ ?_)
   refine CX.condF rfl ?_
   refine CX.skip (XX.inBlock (V' := [(2, _), (3, _), (7, _), (15, _), (16, _), (17, _)]) ⟨rfl, rfl, rfl, rfl, rfl, rfl, trivial⟩ ?_)
   refine XX.next (V' := [(2, _), (3, _), (7, _), (15, _), (16, _), (17, _)]) ⟨rfl, rfl, rfl, rfl, rfl, rfl, trivial⟩ ?_
   refine CX.ents (L' := [.row A1 c1 39 9 (List.map smC (List.map (fun s => mkS s (handM fs s (jud rs ls s))) (List.take (k + 1) ls) ++ List.drop (k + 1) ls)), .row A2 c2 3 1 (List.map iR (List.map (jud rs ls) ls)), .blk g3 (.cells (#[v0, .slice AM fs.length capM, v2, v3, v4, v5, v6, v7, v8, v9]) 30 (0, 0))]) (by rw [← map_set_step (fun s => mkS s (handM fs s (jud rs ls s))) hx0, handM, if_neg (by omega)]; rfl) ?_
   refine CX.region ?_
   refine RX.cons rfl rfl (op_w (yw_add rfl rfl rfl (by omega) (by omega)) rfl rfl ?_)
   refine RX.cons rfl rfl (op_w (yw_move rfl rfl) rfl rfl ?_)
   refine RX.nil (XX.againP ([]) (k + 1) (by omega) (by omega) ⟨rfl, rfl, rfl, rfl, rfl, rfl, trivial⟩ ((perm_pick 0 rfl).trans (List.Perm.cons _ ((perm_pick 0 rfl).trans (List.Perm.cons _ ((perm_pick 0 rfl).trans (List.Perm.cons _ (List.Perm.refl _))))))))
 ·rw [List.length_map] at c18
  obtain rfl : k = ls.length := by omega
  refine CX.exit ?_
  refine XX.then_exit ?_
  refine XX.then_exit ?_
  refine XX.block_exit ?_
  refine XX.next (V' := [(7, _)]) ⟨rfl, trivial⟩ ?_
  refine CX.seq ?_
  refine CX.region ?_
  refine RX.cons rfl rfl (op_w (yw_move rfl rfl) rfl rfl ?_)
  refine RX.cons rfl rfl (op_w (yw_assign rfl rfl) rfl rfl ?_)
  refine RX.nil (XX.next (V' := [(6, .slice A1 ls.length c1)]) ⟨rfl, trivial⟩ ?_)
  refine CX.ret ?_
  exact ret_tmp rfl rfl fun w1 hw => ⟨(A1, c1), trivial, by rw [applyS, List.length_map], by rw [List.take_length, List.drop_length, List.append_nil] at hw; exact hw.pick ((perm_pick 0 rfl).trans (List.Perm.cons _ (List.Perm.refl _)))⟩

end Go.Proofs.YtpcfgoadkfajfaaGreatDoor
namespace Go.Proofs.YtpcfgoadkfajfaaGreatDoor
set_option linter.all false
theorem filter_snocB {α : Type} {p : α → Bool} {l : List α} {i : Nat} {x : α} (h : l[i]? = some x) : (l.take (i + 1)).filter p = (l.take i).filter p ++ (if p x = true then [x] else []) := by
  rw [take_succ h, List.filter_append]; congr 1
  cases e : p x <;> simp [e]
variable {ls : List Sm} {s t : Sm} {k : Int} {As : List Int}
theorem inGrp_acc (h : k = 1) : inGrp ls s k t = decide (t.acc = s.acc) := by unfold inGrp; rw [if_pos h]
theorem inGrp_dev (h1 : ¬ k = 1) (h : k = 2) : inGrp ls s k t = decide (t.dev = s.dev) := by unfold inGrp; rw [if_neg h1, if_pos h]
theorem inGrp_clu (h1 : ¬ k = 1) (h2 : ¬ k = 2) (h : k = 3) (hAs : ∀ x, x ∈ As ↔ s.acc ∈ (edgesOf ls).map Prod.fst ∧ Conn (edgesOf ls) (false, x) (false, s.acc)) : inGrp ls s k t = decide (t.acc ∈ As) := by
  unfold inGrp; rw [if_neg h1, if_neg h2, if_pos h, Bool.eq_iff_iff, Bool.and_eq_true, decide_eq_true_eq, decide_eq_true_eq, hAs, fst_edges]
  unfold joinA; rw [decide_eq_true_eq, rep_eq]
theorem inGrp_none (h1 : ¬ k = 1) (h2 : ¬ k = 2) (h3 : ¬ k = 3) : inGrp ls s k t = false := by unfold inGrp; rw [if_neg h1, if_neg h2, if_neg h3]
/-- What is counted of the first streams of a group. -/
def valsM (m : Int) (G : List Sm) (i : Nat) : List Int := if m = 1 then (List.range i).map Int.ofNat else (G.take i).map fun t => if m = 2 then t.acc else if m = 3 then t.dev else t.song
def valM (m : Int) (i : Nat) (t : Sm) : Int := if m = 1 then ((i : Nat) : Int) else if m = 2 then t.acc else if m = 3 then t.dev else t.song
theorem valsM_snoc {m : Int} {G : List Sm} {i : Nat} {t : Sm} (h : G[i]? = some t) : valsM m G (i + 1) = valsM m G i ++ [valM m i t] := by
  unfold valsM valM
  split
  · rw [List.range_succ, List.map_append]; rfl
  · rw [take_map_succ h]
def SeenOk (m : Int) (G : List Sm) (i : Nat) (seen : List Int) : Prop := seen.Nodup ∧ ∀ v, v ∈ seen ↔ v ∈ valsM m G i
theorem SeenOk.nil (m : Int) (G : List Sm) : SeenOk m G 0 [] := ⟨List.nodup_nil, fun v => by simp [valsM]⟩
theorem SeenOk.more {m : Int} {G : List Sm} {i : Nat} {seen : List Int} {t : Sm} {v : Int} (h : SeenOk m G i seen) (ht : G[i]? = some t) (hv : valM m i t = v) (hn : v ∉ seen) : SeenOk m G (i + 1) (seen ++ [v]) := by
  subst hv
  refine ⟨List.nodup_append.2 ⟨h.1, by simp, fun a ha b hb e => ?_⟩, fun v => ?_⟩
  · rw [List.mem_singleton.1 hb] at e; rw [e] at ha; exact hn ha
  · rw [valsM_snoc ht, List.mem_append, List.mem_append, h.2]
theorem SeenOk.known {m : Int} {G : List Sm} {i : Nat} {seen : List Int} {t : Sm} {v : Int} (h : SeenOk m G i seen) (ht : G[i]? = some t) (hv : valM m i t = v) (hn : v ∈ seen) : SeenOk m G (i + 1) seen := by
  subst hv
  refine ⟨h.1, fun v => ?_⟩
  rw [valsM_snoc ht, List.mem_append, h.2, List.mem_singleton]
  exact ⟨.inl, fun h2 => h2.elim id fun e => by rw [e]; exact (h.2 _).1 hn⟩
theorem SeenOk.is {m : Int} {G : List Sm} {seen : List Int} (h : SeenOk m G G.length seen) (hm : 1 ≤ m ∧ m ≤ 4) : seen.length = cnt G m := by
  have h1 := dcount_unique h.1 h.2
  rw [← h1]
  unfold valsM cnt
  by_cases e1 : m = 1
  · rw [if_pos e1, if_pos e1, dcount_nodup, List.length_map, List.length_range]
    refine List.Pairwise.map _ (fun a b (hab : a ≠ b) => ?_) List.nodup_range
    exact fun e => hab (Int.ofNat.inj e)
  · rw [if_neg e1, if_neg e1, List.take_length]
    by_cases e2 : m = 2
    · rw [if_pos e2]; simp only [e2, if_true]
    · rw [if_neg e2]
      by_cases e3 : m = 3
      · rw [if_pos e3]; simp only [e3, if_true]; simp
      · rw [if_neg e3, if_pos (by omega)]; simp only [if_neg e2, if_neg e3]
theorem cnt_nil (m : Int) : cnt [] m = 0 := by unfold cnt; repeat' split
                                               all_goals rfl
theorem cnt_none (G : List Sm) {m : Int} (h : ¬ (1 ≤ m ∧ m ≤ 4)) : cnt G m = 0 := by unfold cnt; rw [if_neg (by omega), if_neg (by omega), if_neg (by omega), if_neg (by omega)]
theorem SeenOk.fin {m : Int} {G : List Sm} {seen : List Int} (h : SeenOk m G G.length seen) (h0 : ¬ (1 ≤ m ∧ m ≤ 4) → G.length = 0) (hn : seen.length ≤ G.length) : seen.length = cnt G m := by
  by_cases hm : 1 ≤ m ∧ m ≤ 4
  · exact h.is hm
  · rw [cnt_none _ hm]; have := h0 hm; omega
/-- One judgement of a rule. -/
def meetsOne (ls : List Sm) (s : Sm) (a : Int) (r : Ru) : Bool := okR r && decide (r.act = a) && decide (r.n < ((meas ls s r.sub r.mea : Nat) : Int))
def matchR (rs : List Ru) (ls : List Sm) (s : Sm) (a : Int) : Bool := !(free rs s) && meets rs ls s a
theorem free_iff (rs : List Ru) (s : Sm) : (∃ x ∈ rs, okR x = true ∧ Ru.act x = 3 ∧ Ru.n x = s.acc) ↔ free rs s = true := by
  unfold free; rw [List.any_eq_true]
  constructor
  · rintro ⟨x, h1, h2, h3, h4⟩; exact ⟨x, h1, by simp [h2, h3, h4]⟩
  · rintro ⟨x, h1, h2⟩; exact ⟨x, h1, by simpa [and_assoc] using h2⟩
theorem jud_match (rs : List Ru) (ls : List Sm) (s : Sm) : jud rs ls s = if matchR rs ls s 2 = true then 3 else if matchR rs ls s 1 = true then 2 else 1 := by
  unfold jud matchR
  cases free rs s <;> simp
end Go.Proofs.YtpcfgoadkfajfaaGreatDoor
namespace Go.Proofs.YtpcfgoadkfajfaaGreatDoor
set_option linter.all false
open Go Go.RowKit
set_option maxRecDepth 100000

end Go.Proofs.YtpcfgoadkfajfaaGreatDoor
namespace Go.Proofs.YtpcfgoadkfajfaaGreatDoor
set_option linter.all false
open Go Go.RowKit
set_option maxRecDepth 100000

end Go.Proofs.YtpcfgoadkfajfaaGreatDoor
namespace Go.Proofs.YtpcfgoadkfajfaaGreatDoor
set_option linter.all false
open Go Go.RowKit
set_option maxRecDepth 100000
theorem match_yes {rs : List Ru} {ls : List Sm} {s : Sm} {a : Int} {x : Ru} (hx : x ∈ rs) (hf : ¬ (∃ x ∈ rs, okR x = true ∧ Ru.act x = 3 ∧ Ru.n x = s.acc)) (h : meetsOne ls s a x = true) : matchR rs ls s a = true := by
  unfold matchR
  rw [show free rs s = false from by cases hf' : free rs s with
    | false => rfl
    | true => exact absurd ((free_iff rs s).2 hf') hf]
  exact any_at hx h
theorem match_free {rs : List Ru} {ls : List Sm} {s : Sm} {a : Int} (hf : ∃ x ∈ rs, okR x = true ∧ Ru.act x = 3 ∧ Ru.n x = s.acc) : matchR rs ls s a = false := by
  unfold matchR; rw [(free_iff rs s).1 hf]; rfl
theorem match_none {rs : List Ru} {ls : List Sm} {s : Sm} {a : Int} (h : ∀ y ∈ rs, meetsOne ls s a y = false) : matchR rs ls s a = false := by
  unfold matchR
  rw [show meets rs ls s a = false from List.any_eq_false.2 (fun y hy => by have := h y hy; unfold meetsOne at this; simpa using this)]; simp
theorem one_yes {ls : List Sm} {s : Sm} {a : Int} {r : Ru} (h1 : okR r = true) (h2 : r.act = a) (h3 : r.n < ((meas ls s r.sub r.mea : Nat) : Int)) : meetsOne ls s a r = true := by simp [meetsOne, h1, h2, h3]
theorem one_bad {ls : List Sm} {s : Sm} {a : Int} {r : Ru} (h1 : okR r = false) : meetsOne ls s a r = false := by simp [meetsOne, h1]
theorem one_act {ls : List Sm} {s : Sm} {a : Int} {r : Ru} (h2 : ¬ r.act = a) : meetsOne ls s a r = false := by simp [meetsOne, h2]
theorem one_no {ls : List Sm} {s : Sm} {a : Int} {r : Ru} (h3 : ¬ r.n < ((meas ls s r.sub r.mea : Nat) : Int)) : meetsOne ls s a r = false := by
  have : ¬ (r.n < ((meas ls s r.sub r.mea : Nat) : Int)) := h3
  simp [meetsOne, this]
end Go.Proofs.YtpcfgoadkfajfaaGreatDoor
namespace Go.Proofs.YtpcfgoadkfajfaaGreatDoor
set_option linter.all false
open Go Go.RowKit
set_option maxRecDepth 100000

end Go.Proofs.YtpcfgoadkfajfaaGreatDoor
namespace Go.Proofs.YtpcfgoadkfajfaaGreatDoor
set_option linter.all false
open Go Go.RowKit
set_option maxRecDepth 100000

end Go.Proofs.YtpcfgoadkfajfaaGreatDoor
namespace Go.Proofs.YtpcfgoadkfajfaaGreatDoor
set_option linter.all false
open Go Go.RowKit
set_option maxRecDepth 100000
theorem eqg_39 : Tryz.prog.eqGuardType Tryz.prog.depth 39 = false := by kernel_rfl
theorem held_39 : Tryz.prog.stoodInHeld 39 = false := by kernel_rfl
def sameS (f g : Sm) : Bool := f.dev == g.dev && (f.id == g.id && (f.acc == g.acc && (f.song == g.song && (f.ter == g.ter && (f.sec == g.sec && (f.per == g.per && (f.ses == g.ses && (f.mark == g.mark && true))))))))
theorem sameS_iff (f g : Sm) : sameS f g = true ↔ f = g := by
  obtain ⟨⟩ := f
  obtain ⟨⟩ := g
  simp [sameS]
instance : DecidableEq Sm := fun f g => decidable_of_iff (sameS f g = true) (sameS_iff f g)
theorem eq_sm (f g : Sm) (w : World) : (Op.equalIn 10000 39 (.agg (smC f)) (.agg (smC g))).run Tryz.prog w = .ok (sameS f g) w :=
  equal_of Tryz.underlying39 held_39 (eqF_int rfl Tryz.underlying3 rfl rfl (eqF_int rfl Tryz.underlying3 rfl rfl (eqF_int rfl Tryz.underlying3 rfl rfl (eqF_int rfl Tryz.underlying3 rfl rfl (eqF_int rfl Tryz.underlying3 rfl rfl (eqF_int rfl Tryz.underlying3 rfl rfl (eqF_int rfl Tryz.underlying3 rfl rfl (eqF_int rfl Tryz.underlying3 rfl rfl (eqF_int rfl Tryz.underlying3 rfl rfl eqF_nil)))))))))
set_option maxRecDepth 100000 in
theorem w_same08 {w : World} {A B : Option Addr} {ca cb : Nat} (X Y : List Sm) (hrX : Rd w A 9 (X.map smC)) (hrY : Rd w B 9 (Y.map smC)) (hl : X.length ≤ 1000000) :
    Calls Tryz.prog 8 #[.slice A X.length ca, .slice B Y.length cb] w (fun e w' => e = .returned (.bool (decide (X = Y))) ∧ SL w [] w' []) := by
 refine calls_of_CX (O := []) (L := []) (args := [.slice A X.length ca, .slice B Y.length cb]) Tryz.func8 rfl (by simp [Tryz.ntmps8]) (SL.refl w) ?_
 refine CX.sub (V' := [(0, .slice A X.length ca), (1, .slice B Y.length cb)]) ⟨rfl, rfl, trivial⟩ ?_
 refine CX.seq ?_
 refine CX.region ?_
 refine RX.cons rfl rfl (op_w (yw_assign rfl rfl) rfl rfl ?_)
 refine RX.nil (XX.next (V' := [(0, _), (1, _)]) ⟨rfl, rfl, trivial⟩ ?_)
 refine CX.seq ?_
 refine CX.seq ?_
 refine CX.region ?_
 refine RX.cons rfl rfl (op_w (yw_move rfl rfl) rfl rfl ?_)
 refine RX.cons rfl rfl (op_w (yw_lenS rfl Tryz.underlying34 rfl) rfl rfl ?_)
 refine RX.cons rfl rfl (op_w (yw_move rfl rfl) rfl rfl ?_)
 refine RX.cons rfl rfl (op_w (yw_lenS rfl Tryz.underlying34 rfl) rfl rfl ?_)
 refine RX.cons rfl rfl (op_w (yw_neq rfl rfl rfl) rfl rfl ?_)
 refine RX.nil (XX.next (V' := [(0, _), (1, _), (10, _)]) ⟨rfl, rfl, rfl, trivial⟩ ?_)
 refine CX.condD (p := ((X.length : Nat) : Int) ≠ ((Y.length : Nat) : Int)) rfl (fun c10 => ?_) (fun c10 => ?_)
 ·refine CX.seq ?_
  refine CX.region ?_
  refine RX.cons rfl rfl (op_w (yw_assign rfl rfl) rfl rfl ?_)
  refine RX.nil (XX.next (V' := [(4, .bool false)]) ⟨rfl, trivial⟩ ?_)
  refine CX.ret ?_
  refine XX.then_ret ?_
  exact ret_tmp rfl rfl fun w1 hw => ⟨by rw [decide_eq_false (fun e => c10 (by rw [e]))], hw.sub (List.nil_sublist _)⟩
 ·refine CX.skip (XX.next (V' := [(0, _), (1, _)]) ⟨rfl, rfl, trivial⟩ ?_)
  refine CX.seq ?_
  refine CX.seq ?_
  refine CX.region ?_
  refine RX.cons rfl rfl (op_w (yw_assign rfl rfl) rfl rfl ?_)
  refine RX.nil (XX.next (V' := [(0, _), (1, _), (5, _)]) ⟨rfl, rfl, rfl, trivial⟩ ?_)
  refine CX.block ?_
  have hlen : X.length = Y.length := by omega
  refine CX.loop (σ := Nat) (fun i => [(0, .slice A X.length ca), (1, .slice B Y.length cb), (5, .int .i64 ((i : Nat) : Int))]) (fun i => []) (fun i => i ≤ X.length ∧ X.take i = Y.take i) (fun i => X.length - i) 0 ⟨Nat.zero_le _, by simp⟩ ⟨rfl, rfl, rfl, trivial⟩ rfl (fun i hI => ?_)
  obtain ⟨hi, hf⟩ := hI
  refine CX.seq ?_
  refine CX.seq ?_
  refine CX.region ?_
  refine RX.cons rfl rfl (op_w (yw_move rfl rfl) rfl rfl ?_)
  refine RX.cons rfl rfl (op_w (yw_move rfl rfl) rfl rfl ?_)
  refine RX.cons rfl rfl (op_w (yw_lenS rfl Tryz.underlying34 rfl) rfl rfl ?_)
  refine RX.cons rfl rfl (op_w (yw_lss rfl rfl rfl) rfl rfl ?_)
  refine RX.nil (XX.next (V' := [(0, _), (1, _), (5, _), (14, _)]) ⟨rfl, rfl, rfl, rfl, trivial⟩ ?_)
  refine CX.condD (p := ((i : Nat) : Int) < ((X.length : Nat) : Int)) rfl (fun c14 => ?_) (fun c14 => ?_)
  ·obtain ⟨x0, ha⟩ := get_some (l := X) (k := i) (by omega)
   obtain ⟨y0, hb⟩ := get_some (l := Y) (k := i) (by omega)
   have hA : ∃ b j, A = some ⟨b, j, none⟩ := hrX.some (k := i) (by simp; omega)
   have hB : ∃ b j, B = some ⟨b, j, none⟩ := hrY.some (k := i) (by simp; omega)
   refine CX.skip (XX.next (V' := [(0, _), (1, _), (5, _)]) ⟨rfl, rfl, rfl, trivial⟩ ?_)
   refine CX.seq ?_
   refine CX.block ?_
   refine CX.seq ?_
   refine CX.draw 9 [(0, 1, 131072), (0, 32, 262144), (3, 393216, 524288), (4, 524288, 1048576), (0, 2, 2097152), (0, 32, 4194304), (48, 6291456, 8388608), (64, 8388608, 16777216), (136, 17825792, 33554432)] (by kernel_rfl) (by kernel_rfl) (by kernel_rfl) ?_
   refine DX.takeW 0 1 (by kernel_rfl) rfl rfl rfl rfl rfl (yw_move rfl rfl) ?_
   refine DX.takeW 1 3 (by kernel_rfl) rfl rfl rfl rfl rfl (yw_move rfl rfl) ?_
   refine DX.takeW 2 7 (by kernel_rfl) rfl rfl rfl rfl rfl (yw_index (k := i) rfl slt_34 rfl rfl (by omega) (by omega) hA) ?_
   refine DX.take 3 15 (by kernel_rfl) rfl rfl rfl rfl rfl (List.nil_sublist _) (y_elem rfl rfl agg_39 hrX (by simp) (map_get ha)) ?_
   refine DX.takeW 4 31 (by kernel_rfl) rfl rfl rfl rfl rfl (yw_move rfl rfl) ?_
   refine DX.takeW 5 63 (by kernel_rfl) rfl rfl rfl rfl rfl (yw_move rfl rfl) ?_
   refine DX.takeW 6 127 (by kernel_rfl) rfl rfl rfl rfl rfl (yw_index (k := i) rfl slt_34 rfl rfl (by omega) (by omega) hB) ?_
   refine DX.take 7 255 (by kernel_rfl) rfl rfl rfl rfl rfl (List.nil_sublist _) (y_elem rfl rfl agg_39 hrY (by simp) (map_get hb)) ?_
   refine DX.takeW 8 511 (by kernel_rfl) rfl rfl rfl rfl rfl (yw_neqAgg (b := sameS x0 y0) rfl rfl rfl eqg_39 (fun w => eq_sm x0 y0 w)) ?_
   refine DX.done (by kernel_rfl) (XX.next (V' := [(0, _), (1, _), (5, _), (25, _)]) ⟨rfl, rfl, rfl, rfl, trivial⟩ ?_)
   refine CX.cond (b := !(sameS x0 y0)) rfl (fun c25 => ?_) (fun c25 => ?_)
   ·refine CX.seq ?_
    refine CX.region ?_
    refine RX.cons rfl rfl (op_w (yw_assign rfl rfl) rfl rfl ?_)
    refine RX.nil (XX.next (V' := [(4, .bool false)]) ⟨rfl, trivial⟩ ?_)
    refine CX.ret ?_
    refine XX.block_ret ?_
    refine XX.then_ret ?_
    refine XX.then_ret ?_
    refine XX.block_ret ?_
    refine XX.then_ret ?_
    exact ret_tmp rfl rfl fun w1 hw => ⟨by rw [decide_eq_false (differ_at ha hb (fun e => by rw [(sameS_iff x0 y0).2 e] at c25; simp at c25))], hw.sub (List.nil_sublist _)⟩
   ·refine CX.skip (XX.inBlock (V' := [(0, _), (1, _), (5, _)]) ⟨rfl, rfl, rfl, trivial⟩ ?_)
    refine XX.next (V' := [(0, _), (1, _), (5, _)]) ⟨rfl, rfl, rfl, trivial⟩ ?_
    refine CX.region ?_
    refine RX.cons rfl rfl (op_w (yw_move rfl rfl) rfl rfl ?_)
    refine RX.cons rfl rfl (op_w (yw_add rfl rfl rfl (by omega) (by omega)) rfl rfl ?_)
    refine RX.cons rfl rfl (op_w (yw_assign rfl rfl) rfl rfl ?_)
    refine RX.nil (XX.againP ([]) (i + 1) (by omega) ⟨by omega, same_upto hf ha hb ((sameS_iff x0 y0).1 (by simpa using c25))⟩ ⟨rfl, rfl, rfl, trivial⟩ (List.Perm.refl _))
  ·refine CX.exit ?_
   refine XX.then_exit ?_
   refine XX.then_exit ?_
   refine XX.block_exit ?_
   refine XX.next (V' := []) trivial ?_
   refine CX.seq ?_
   refine CX.region ?_
   refine RX.cons rfl rfl (op_w (yw_assign rfl rfl) rfl rfl ?_)
   refine RX.nil (XX.next (V' := [(4, .bool true)]) ⟨rfl, trivial⟩ ?_)
   refine CX.ret ?_
   exact ret_tmp rfl rfl fun w1 hw => ⟨by rw [decide_eq_true (by rw [List.take_of_length_le (by omega), List.take_of_length_le (by omega)] at hf; exact hf)], hw.sub (List.nil_sublist _)⟩

end Go.Proofs.YtpcfgoadkfajfaaGreatDoor
namespace Go.Proofs.YtpcfgoadkfajfaaGreatDoor
set_option linter.all false
open Go Go.RowKit
set_option maxRecDepth 100000
theorem ent_11 : ∀ args w, (callFunc 11 args).run Tryz.prog w = .ok (.enter 11 args) w := enters_of Tryz.func11 (by kernel_rfl) rfl
theorem ent_12 : ∀ args w, (callFunc 12 args).run Tryz.prog w = .ok (.enter 12 args) w := enters_of Tryz.func12 (by kernel_rfl) rfl
theorem ent_13 : ∀ args w, (callFunc 13 args).run Tryz.prog w = .ok (.enter 13 args) w := enters_of Tryz.func13 (by kernel_rfl) rfl
theorem slb_22 : SlB Tryz.prog 22 27 18 152 (.agg (#[.int .i64 0, .int .i64 0, .int .i64 0, .int .i64 0, .int .i64 0, .int .i64 0, .int .i64 0, .int .i64 0, .int .i64 0, .int .i64 0, .int .i64 0, .int .i64 0, .int .i64 0, .int .i64 0, .int .i64 0, .int .i64 0, .int .i64 0, .string .empty])) := ⟨Tryz.underlying22, ⟨(Tryz.prog.info? 27).get!, by kernel_rfl, by kernel_rfl, by kernel_rfl, by kernel_rfl⟩, by decide, by decide⟩
theorem ent_9 : ∀ args w, (callFunc 9 args).run Tryz.prog w = .ok (.enter 9 args) w := enters_of Tryz.func9 (by kernel_rfl) rfl
def saneL : List Sm := [⟨1, 1, 1, 5, 0, 0, 0, 0, 0⟩, ⟨2, 1, 1, 5, 0, 0, 0, 0, 0⟩, ⟨2, 1, 2, 6, 0, 0, 0, 0, 0⟩, ⟨3, 1, 3, 5, 0, 0, 0, 0, 0⟩]
def saneM : List Sm := [⟨1, 1, 1, 5, 0, 0, 0, 0, 2⟩, ⟨2, 1, 1, 5, 0, 0, 0, 0, 1⟩, ⟨2, 1, 2, 6, 0, 0, 0, 0, 1⟩, ⟨3, 1, 3, 5, 0, 0, 0, 0, 1⟩]
def holdR : Ru := ⟨1, 3, 2, 1⟩
def voidR : Ru := ⟨2, 2, 2, 1⟩
def allowR : Ru := ⟨3, 1, 0, 2⟩
def saneF : Fc := ⟨2, 1, 0, 0, 0, 0, 2, 0, 0, 0, 0, 0, 0, 0, 0, 0, 1, .empty⟩
theorem sane1 : meas saneL ⟨1, 1, 1, 5, 0, 0, 0, 0, 0⟩ 1 1 = 2 := by decide +kernel
theorem sane2 : meas saneL ⟨1, 1, 1, 5, 0, 0, 0, 0, 0⟩ 3 1 = 3 := by decide +kernel
theorem sane3 : meas saneL ⟨1, 1, 1, 5, 0, 0, 0, 0, 0⟩ 3 4 = 2 := by decide +kernel
theorem sane4 : meas saneL ⟨2, 1, 1, 5, 0, 0, 0, 0, 0⟩ 2 2 = 2 := by decide +kernel
theorem saneA : List.map (jud [holdR] saneL) saneL = [2, 2, 2, 1] := by decide +kernel
theorem saneB : List.map (jud [holdR, voidR] saneL) saneL = [2, 3, 3, 1] := by decide +kernel
theorem saneC : List.map (jud [holdR, voidR, allowR] saneL) saneL = [2, 3, 1, 1] := by decide +kernel
theorem saneD : applyS [saneF] [holdR, voidR] saneL = saneM := by decide +kernel
theorem w_JudgeE {w : World} {AR A : Option Addr} {capR cap : Nat} (rs : List Ru) (ls : List Sm) (hrR : Rd w AR 4 (rs.map ruC)) (hr : Rd w A 9 (ls.map smC)) (hlR : rs.length ≤ 1000000) (hl : ls.length ≤ 100000) {res : List Int} (he : (List.map (jud rs ls) ls) = res) : Calls Tryz.prog 14 #[.slice AR rs.length capR, .slice A ls.length cap] w (fun e w' => ∃ z : Option Addr × Nat, True ∧ e = .returned (.slice z.1 (List.length res) z.2) ∧ SL w [] w' [.row z.1 z.2 3 1 (List.map iR res)]) := he ▸ w_Judge rs ls hrR hr hlR hl
theorem w_ApplyE {w : World} {AM AR A : Option Addr} {capM capR cap : Nat} {v0 v2 v3 v4 v5 v6 v7 v8 v9 : Value} (fs : List Fc) (rs : List Ru) (ls : List Sm) (hrM : Rd w AM 18 (fs.map fcC)) (hrR : Rd w AR 4 (rs.map ruC)) (hr : Rd w A 9 (ls.map smC)) (hlM : fs.length ≤ 1000000) (hlR : rs.length ≤ 1000000) (hl : ls.length ≤ 100000) {res : List Sm} (he : (applyS fs rs ls) = res) : Calls Tryz.prog 9 #[.agg (#[v0, .slice AM fs.length capM, v2, v3, v4, v5, v6, v7, v8, v9]), .slice AR rs.length capR, .slice A ls.length cap] w (fun e w' => ∃ z : Option Addr × Nat, True ∧ e = .returned (.slice z.1 (List.length res) z.2) ∧ SL w [] w' [.row z.1 z.2 39 9 (List.map smC res)]) := he ▸ w_Apply fs rs ls hrM hrR hr hlM hlR hl
set_option maxRecDepth 100000 in
theorem w_sane {w : World} :
    Calls Tryz.prog 4 #[] w (fun e w' => e = .returned (.bool true) ∧ SL w [] w' []) := by
 refine calls_of_CX (O := []) (L := []) (args := []) Tryz.func4 rfl (by simp [Tryz.ntmps4]) (SL.refl w) ?_
 refine CX.sub (V' := []) trivial ?_
 refine CX.seq ?_
 refine CX.region ?_
 refine RX.cons rfl rfl (op_w (yw_assign rfl rfl) rfl rfl ?_)
 refine RX.nil (XX.next (V' := []) trivial ?_)
 refine CX.seq ?_
 refine CX.region ?_
 refine RX.cons rfl rfl (op_callV (v := .agg (smC ⟨1, 1, 1, 5, 0, 0, 0, 0, 0⟩)) rfl rfl rfl rfl rfl ent_11 (fun w hw => w_stream 1 1 5) ?_)
 refine RX.cons rfl rfl (op_callV (v := .agg (smC ⟨2, 1, 1, 5, 0, 0, 0, 0, 0⟩)) rfl rfl rfl rfl rfl ent_11 (fun w hw => w_stream 1 2 5) ?_)
 refine RX.cons rfl rfl (op_callV (v := .agg (smC ⟨2, 1, 2, 6, 0, 0, 0, 0, 0⟩)) rfl rfl rfl rfl rfl ent_11 (fun w hw => w_stream 2 2 6) ?_)
 refine RX.cons rfl rfl (op_callV (v := .agg (smC ⟨3, 1, 3, 5, 0, 0, 0, 0, 0⟩)) rfl rfl rfl rfl rfl ent_11 (fun w hw => w_stream 3 3 5) ?_)
 refine RX.cons rfl rfl (op_buildSlice rfl rfl rfl slb_34 rfl rfl (by intro v hv; simp only [List.mem_cons, List.not_mem_nil, or_false] at hv; rcases hv with rfl | rfl | rfl | rfl <;> exact ⟨rfl, (plain_of rfl)⟩) (by decide) fun sr => ?_)
 refine RX.cons rfl rfl (op_w (yw_assign rfl rfl) rfl rfl ?_)
 refine RX.nil (XX.next (V' := [(1, _)]) ⟨rfl, trivial⟩ ?_)
 refine CX.seq ?_
 refine CX.region ?_
 refine RX.cons rfl rfl (op_w (yw_build (v := .agg (ruC holdR)) rfl rfl (fun _ => by kernel_rfl)) rfl rfl ?_)
 refine RX.cons rfl rfl (op_alloc rfl rfl rfl zero_42 fun g2 => ?_)
 refine RX.cons rfl rfl (op_storeAll (i := 0) rfl rfl rfl rfl szt_42 rfl (plain_of rfl) rfl rfl ?_)
 refine RX.nil (XX.next (V' := [(1, _), (2, _)]) ⟨rfl, rfl, trivial⟩ ?_)
 refine CX.seq ?_
 refine CX.region ?_
 refine RX.cons rfl rfl (op_w (yw_build (v := .agg (ruC voidR)) rfl rfl (fun _ => by kernel_rfl)) rfl rfl ?_)
 refine RX.cons rfl rfl (op_alloc rfl rfl rfl zero_42 fun g3 => ?_)
 refine RX.cons rfl rfl (op_storeAll (i := 0) rfl rfl rfl rfl szt_42 rfl (plain_of rfl) rfl rfl ?_)
 refine RX.nil (XX.next (V' := [(1, _), (2, _), (3, _)]) ⟨rfl, rfl, rfl, trivial⟩ ?_)
 refine CX.seq ?_
 refine CX.region ?_
 refine RX.cons rfl rfl (op_w (yw_build (v := .agg (ruC allowR)) rfl rfl (fun _ => by kernel_rfl)) rfl rfl ?_)
 refine RX.cons rfl rfl (op_alloc rfl rfl rfl zero_42 fun g4 => ?_)
 refine RX.cons rfl rfl (op_storeAll (i := 0) rfl rfl rfl rfl szt_42 rfl (plain_of rfl) rfl rfl ?_)
 refine RX.nil (XX.next (V' := [(1, _), (2, _), (3, _), (4, _)]) ⟨rfl, rfl, rfl, rfl, trivial⟩ ?_)
 refine CX.seq ?_
 refine CX.region ?_
 refine RX.cons rfl rfl (op_w (yw_move rfl rfl) rfl rfl ?_)
 refine RX.cons rfl rfl (op_w (yw_move rfl rfl) rfl rfl ?_)
 refine RX.cons rfl rfl (op_w (yw_index (k := 0) rfl slt_34 rfl rfl rfl (by decide) ⟨_, _, rfl⟩) rfl rfl ?_)
 refine RX.cons rfl rfl (op_yld (y_rowElem (i := 3) rfl rfl agg_39 rfl (show (List.map smC saneL)[0]? = some (smC ⟨1, 1, 1, 5, 0, 0, 0, 0, 0⟩) from rfl)) rfl rfl ?_)
 refine RX.cons rfl rfl (op_callV (v := .int .i64 ((meas saneL ⟨1, 1, 1, 5, 0, 0, 0, 0, 0⟩ 1 1 : Nat) : Int)) rfl rfl rfl rfl rfl ent_12 (fun w hw => w_Measure saneL (Ent.rd (hw.ents _ (List.mem_of_getElem? (i := 3) rfl))) (by decide) ⟨1, 1, 1, 5, 0, 0, 0, 0, 0⟩ 1 1) ?_)
 refine RX.know (t := 22) (u := .int .i64 2) rfl (by rw [sane1]; rfl) ?_
 refine RX.cons rfl rfl (op_w (yw_eql rfl rfl rfl) rfl rfl ?_)
 refine RX.know (t := 23) (u := .bool true) rfl (congrArg Value.bool (decide_eq_true rfl)) ?_
 refine RX.cons rfl rfl (op_w (yw_move rfl rfl) rfl rfl ?_)
 refine RX.consG rfl rfl rfl rfl rfl (op_w (yw_move rfl rfl) rfl rfl ?_)
 refine RX.consG rfl rfl rfl rfl rfl (op_w (yw_move rfl rfl) rfl rfl ?_)
 refine RX.consG rfl rfl rfl rfl rfl (op_w (yw_index (k := 0) rfl slt_34 rfl rfl rfl (by decide) ⟨_, _, rfl⟩) rfl rfl ?_)
 refine RX.consG rfl rfl rfl rfl rfl (op_yld (y_rowElem (i := 3) rfl rfl agg_39 rfl (show (List.map smC saneL)[0]? = some (smC ⟨1, 1, 1, 5, 0, 0, 0, 0, 0⟩) from rfl)) rfl rfl ?_)
 refine RX.consG rfl rfl rfl rfl rfl (op_callV (v := .int .i64 ((meas saneL ⟨1, 1, 1, 5, 0, 0, 0, 0, 0⟩ 3 1 : Nat) : Int)) rfl rfl rfl rfl rfl ent_12 (fun w hw => w_Measure saneL (Ent.rd (hw.ents _ (List.mem_of_getElem? (i := 3) rfl))) (by decide) ⟨1, 1, 1, 5, 0, 0, 0, 0, 0⟩ 3 1) ?_)
 refine RX.know (t := 29) (u := .int .i64 3) rfl (by rw [sane2]; rfl) ?_
 refine RX.consG rfl rfl rfl rfl rfl (op_w (yw_eql rfl rfl rfl) rfl rfl ?_)
 refine RX.know (t := 30) (u := .bool true) rfl (congrArg Value.bool (decide_eq_true rfl)) ?_
 refine RX.cons rfl rfl (op_w (yw_pickT rfl rfl rfl) rfl rfl ?_)
 refine RX.cons rfl rfl (op_w (yw_move rfl rfl) rfl rfl ?_)
 refine RX.consG rfl rfl rfl rfl rfl (op_w (yw_move rfl rfl) rfl rfl ?_)
 refine RX.consG rfl rfl rfl rfl rfl (op_w (yw_move rfl rfl) rfl rfl ?_)
 refine RX.consG rfl rfl rfl rfl rfl (op_w (yw_index (k := 0) rfl slt_34 rfl rfl rfl (by decide) ⟨_, _, rfl⟩) rfl rfl ?_)
 refine RX.consG rfl rfl rfl rfl rfl (op_yld (y_rowElem (i := 3) rfl rfl agg_39 rfl (show (List.map smC saneL)[0]? = some (smC ⟨1, 1, 1, 5, 0, 0, 0, 0, 0⟩) from rfl)) rfl rfl ?_)
 refine RX.consG rfl rfl rfl rfl rfl (op_callV (v := .int .i64 ((meas saneL ⟨1, 1, 1, 5, 0, 0, 0, 0, 0⟩ 3 4 : Nat) : Int)) rfl rfl rfl rfl rfl ent_12 (fun w hw => w_Measure saneL (Ent.rd (hw.ents _ (List.mem_of_getElem? (i := 3) rfl))) (by decide) ⟨1, 1, 1, 5, 0, 0, 0, 0, 0⟩ 3 4) ?_)
 refine RX.know (t := 37) (u := .int .i64 2) rfl (by rw [sane3]; rfl) ?_
 refine RX.consG rfl rfl rfl rfl rfl (op_w (yw_eql rfl rfl rfl) rfl rfl ?_)
 refine RX.know (t := 38) (u := .bool true) rfl (congrArg Value.bool (decide_eq_true rfl)) ?_
 refine RX.cons rfl rfl (op_w (yw_pickT rfl rfl rfl) rfl rfl ?_)
 refine RX.cons rfl rfl (op_w (yw_move rfl rfl) rfl rfl ?_)
 refine RX.consG rfl rfl rfl rfl rfl (op_w (yw_move rfl rfl) rfl rfl ?_)
 refine RX.consG rfl rfl rfl rfl rfl (op_w (yw_move rfl rfl) rfl rfl ?_)
 refine RX.consG rfl rfl rfl rfl rfl (op_w (yw_index (k := 1) rfl slt_34 rfl rfl rfl (by decide) ⟨_, _, rfl⟩) rfl rfl ?_)
 refine RX.consG rfl rfl rfl rfl rfl (op_yld (y_rowElem (i := 3) rfl rfl agg_39 rfl (show (List.map smC saneL)[1]? = some (smC ⟨2, 1, 1, 5, 0, 0, 0, 0, 0⟩) from rfl)) rfl rfl ?_)
 refine RX.consG rfl rfl rfl rfl rfl (op_callV (v := .int .i64 ((meas saneL ⟨2, 1, 1, 5, 0, 0, 0, 0, 0⟩ 2 2 : Nat) : Int)) rfl rfl rfl rfl rfl ent_12 (fun w hw => w_Measure saneL (Ent.rd (hw.ents _ (List.mem_of_getElem? (i := 3) rfl))) (by decide) ⟨2, 1, 1, 5, 0, 0, 0, 0, 0⟩ 2 2) ?_)
 refine RX.know (t := 45) (u := .int .i64 2) rfl (by rw [sane4]; rfl) ?_
 refine RX.consG rfl rfl rfl rfl rfl (op_w (yw_eql rfl rfl rfl) rfl rfl ?_)
 refine RX.know (t := 46) (u := .bool true) rfl (congrArg Value.bool (decide_eq_true rfl)) ?_
 refine RX.cons rfl rfl (op_w (yw_pickT rfl rfl rfl) rfl rfl ?_)
 refine RX.cons rfl rfl (op_w (yw_assign rfl rfl) rfl rfl ?_)
 refine RX.nil (XX.next (V' := [(1, _), (2, _), (3, _), (4, _), (5, _)]) ⟨rfl, rfl, rfl, rfl, rfl, trivial⟩ ?_)
 refine CX.seq ?_
 refine CX.region ?_
 refine RX.cons rfl rfl (op_yld (y_loadA (i := 2) rfl rfl agg_42 rfl rfl) rfl rfl ?_)
 refine RX.cons rfl rfl (op_buildSlice rfl rfl rfl slb_23 rfl rfl (by intro v hv; simp only [List.mem_cons, List.not_mem_nil, or_false] at hv; subst hv; exact ⟨rfl, (plain_of rfl)⟩) (by decide) fun q6 => ?_)
 refine RX.cons rfl rfl (op_w (yw_move rfl rfl) rfl rfl ?_)
 refine RX.cons rfl rfl (op_callE rfl rfl rfl rfl rfl ent_14 (fun w hw => w_JudgeE [holdR] saneL (Ent.rd (hw.ents _ (List.mem_of_getElem? (i := 0) rfl))) (Ent.rd (hw.ents _ (List.mem_of_getElem? (i := 4) rfl))) (by decide) (by decide) saneA) (fun ⟨A1, c1⟩ _ => ?_))
 refine RX.cons rfl rfl (op_buildSlice rfl rfl rfl slb_24 rfl rfl (by intro v hv; simp only [List.mem_cons, List.not_mem_nil, or_false] at hv; rcases hv with rfl | rfl | rfl | rfl <;> exact ⟨rfl, (plain_of rfl)⟩) (by decide) fun p6 => ?_)
 refine RX.cons rfl rfl (op_callV (v := .bool (decide (([2, 2, 2, 1] : List Int) = ([2, 2, 2, 1] : List Int)))) rfl rfl rfl rfl rfl ent_13 (fun w hw => w_sameInts ([2, 2, 2, 1] : List Int) ([2, 2, 2, 1] : List Int) (Ent.rd (hw.ents _ (List.mem_of_getElem? (i := 1) rfl))) (Ent.rd (hw.ents _ (List.mem_of_getElem? (i := 0) rfl))) (by decide)) ?_)
 refine RX.know (t := 53) (u := .bool true) rfl (congrArg Value.bool (decide_eq_true rfl)) ?_
 refine RX.cons rfl rfl (op_w (yw_assign rfl rfl) rfl rfl ?_)
 refine RX.nil (XX.next (V' := [(1, _), (2, _), (3, _), (4, _), (5, _), (6, _)]) ⟨rfl, rfl, rfl, rfl, rfl, rfl, trivial⟩ ?_)
 refine CX.seq ?_
 refine CX.region ?_
 refine RX.cons rfl rfl (op_yld (y_loadA (i := 5) rfl rfl agg_42 rfl rfl) rfl rfl ?_)
 refine RX.cons rfl rfl (op_yld (y_loadA (i := 4) rfl rfl agg_42 rfl rfl) rfl rfl ?_)
 refine RX.cons rfl rfl (op_buildSlice rfl rfl rfl slb_23 rfl rfl (by intro v hv; simp only [List.mem_cons, List.not_mem_nil, or_false] at hv; rcases hv with rfl | rfl <;> exact ⟨rfl, (plain_of rfl)⟩) (by decide) fun q7 => ?_)
 refine RX.cons rfl rfl (op_w (yw_move rfl rfl) rfl rfl ?_)
 refine RX.cons rfl rfl (op_callE rfl rfl rfl rfl rfl ent_14 (fun w hw => w_JudgeE [holdR, voidR] saneL (Ent.rd (hw.ents _ (List.mem_of_getElem? (i := 0) rfl))) (Ent.rd (hw.ents _ (List.mem_of_getElem? (i := 7) rfl))) (by decide) (by decide) saneB) (fun ⟨A1, c1⟩ _ => ?_))
 refine RX.cons rfl rfl (op_buildSlice rfl rfl rfl slb_24 rfl rfl (by intro v hv; simp only [List.mem_cons, List.not_mem_nil, or_false] at hv; rcases hv with rfl | rfl | rfl | rfl <;> exact ⟨rfl, (plain_of rfl)⟩) (by decide) fun p7 => ?_)
 refine RX.cons rfl rfl (op_callV (v := .bool (decide (([2, 3, 3, 1] : List Int) = ([2, 3, 3, 1] : List Int)))) rfl rfl rfl rfl rfl ent_13 (fun w hw => w_sameInts ([2, 3, 3, 1] : List Int) ([2, 3, 3, 1] : List Int) (Ent.rd (hw.ents _ (List.mem_of_getElem? (i := 1) rfl))) (Ent.rd (hw.ents _ (List.mem_of_getElem? (i := 0) rfl))) (by decide)) ?_)
 refine RX.know (t := 60) (u := .bool true) rfl (congrArg Value.bool (decide_eq_true rfl)) ?_
 refine RX.cons rfl rfl (op_w (yw_assign rfl rfl) rfl rfl ?_)
 refine RX.nil (XX.next (V' := [(1, _), (2, _), (3, _), (4, _), (5, _), (6, _), (7, _)]) ⟨rfl, rfl, rfl, rfl, rfl, rfl, rfl, trivial⟩ ?_)
 refine CX.seq ?_
 refine CX.region ?_
 refine RX.cons rfl rfl (op_yld (y_loadA (i := 8) rfl rfl agg_42 rfl rfl) rfl rfl ?_)
 refine RX.cons rfl rfl (op_yld (y_loadA (i := 7) rfl rfl agg_42 rfl rfl) rfl rfl ?_)
 refine RX.cons rfl rfl (op_yld (y_loadA (i := 6) rfl rfl agg_42 rfl rfl) rfl rfl ?_)
 refine RX.cons rfl rfl (op_buildSlice rfl rfl rfl slb_23 rfl rfl (by intro v hv; simp only [List.mem_cons, List.not_mem_nil, or_false] at hv; rcases hv with rfl | rfl | rfl <;> exact ⟨rfl, (plain_of rfl)⟩) (by decide) fun q8 => ?_)
 refine RX.cons rfl rfl (op_w (yw_move rfl rfl) rfl rfl ?_)
 refine RX.cons rfl rfl (op_callE rfl rfl rfl rfl rfl ent_14 (fun w hw => w_JudgeE [holdR, voidR, allowR] saneL (Ent.rd (hw.ents _ (List.mem_of_getElem? (i := 0) rfl))) (Ent.rd (hw.ents _ (List.mem_of_getElem? (i := 10) rfl))) (by decide) (by decide) saneC) (fun ⟨A1, c1⟩ _ => ?_))
 refine RX.cons rfl rfl (op_buildSlice rfl rfl rfl slb_24 rfl rfl (by intro v hv; simp only [List.mem_cons, List.not_mem_nil, or_false] at hv; rcases hv with rfl | rfl | rfl | rfl <;> exact ⟨rfl, (plain_of rfl)⟩) (by decide) fun p8 => ?_)
 refine RX.cons rfl rfl (op_callV (v := .bool (decide (([2, 3, 1, 1] : List Int) = ([2, 3, 1, 1] : List Int)))) rfl rfl rfl rfl rfl ent_13 (fun w hw => w_sameInts ([2, 3, 1, 1] : List Int) ([2, 3, 1, 1] : List Int) (Ent.rd (hw.ents _ (List.mem_of_getElem? (i := 1) rfl))) (Ent.rd (hw.ents _ (List.mem_of_getElem? (i := 0) rfl))) (by decide)) ?_)
 refine RX.know (t := 68) (u := .bool true) rfl (congrArg Value.bool (decide_eq_true rfl)) ?_
 refine RX.cons rfl rfl (op_w (yw_assign rfl rfl) rfl rfl ?_)
 refine RX.nil (XX.next (V' := [(1, _), (2, _), (3, _), (5, _), (6, _), (7, _), (8, _)]) ⟨rfl, rfl, rfl, rfl, rfl, rfl, rfl, trivial⟩ ?_)
 refine CX.seq ?_
 refine CX.region ?_
 refine RX.cons rfl rfl (op_w (yw_build (v := .agg (fcC saneF)) rfl rfl (fun _ => by kernel_rfl)) rfl rfl ?_)
 refine RX.cons rfl rfl (op_buildSlice rfl rfl rfl slb_22 rfl rfl (by intro v hv; simp only [List.mem_cons, List.not_mem_nil, or_false] at hv; subst hv; exact ⟨rfl, (plain_of rfl)⟩) (by decide) fun mr => ?_)
 refine RX.cons rfl rfl (op_w (yw_build (v := .agg (#[.slice none 0 0, .slice (some ⟨mr, 0, none⟩) 1 1, .slice none 0 0, .slice none 0 0, .slice none 0 0, .slice none 0 0, .slice none 0 0, .slice none 0 0, .slice none 0 0, .slice none 0 0])) rfl rfl (fun _ => by kernel_rfl)) rfl rfl ?_)
 refine RX.cons rfl rfl (op_yld (y_loadA (i := 12) rfl rfl agg_42 rfl rfl) rfl rfl ?_)
 refine RX.cons rfl rfl (op_yld (y_loadA (i := 11) rfl rfl agg_42 rfl rfl) rfl rfl ?_)
 refine RX.cons rfl rfl (op_buildSlice rfl rfl rfl slb_23 rfl rfl (by intro v hv; simp only [List.mem_cons, List.not_mem_nil, or_false] at hv; rcases hv with rfl | rfl <;> exact ⟨rfl, (plain_of rfl)⟩) (by decide) fun q9 => ?_)
 refine RX.cons rfl rfl (op_w (yw_move rfl rfl) rfl rfl ?_)
 refine RX.cons rfl rfl (op_callE rfl rfl rfl rfl rfl ent_9 (fun w hw => w_ApplyE [saneF] [holdR, voidR] saneL (Ent.rd (hw.ents _ (List.mem_of_getElem? (i := 1) rfl))) (Ent.rd (hw.ents _ (List.mem_of_getElem? (i := 0) rfl))) (Ent.rd (hw.ents _ (List.mem_of_getElem? (i := 14) rfl))) (by decide) (by decide) (by decide) saneD) (fun ⟨A1, c1⟩ _ => ?_))
 refine RX.cons rfl rfl (op_w (yw_assign rfl rfl) rfl rfl ?_)
 refine RX.nil (XX.next (V' := [(5, _), (6, _), (7, _), (8, _), (9, _)]) ⟨rfl, rfl, rfl, rfl, rfl, trivial⟩ ?_)
 refine CX.seq ?_
 refine CX.rowSome 0 rfl (by decide) (fun hAm => ?_)
 refine CX.region ?_
 refine RX.cons rfl rfl (op_w (yw_move rfl rfl) rfl rfl ?_)
 refine RX.cons rfl rfl (op_w (yw_move rfl rfl) rfl rfl ?_)
 refine RX.consG rfl rfl rfl rfl rfl (op_w (yw_move rfl rfl) rfl rfl ?_)
 refine RX.cons rfl rfl (op_w (yw_pickT rfl rfl rfl) rfl rfl ?_)
 refine RX.cons rfl rfl (op_w (yw_move rfl rfl) rfl rfl ?_)
 refine RX.consG rfl rfl rfl rfl rfl (op_w (yw_move rfl rfl) rfl rfl ?_)
 refine RX.cons rfl rfl (op_w (yw_pickT rfl rfl rfl) rfl rfl ?_)
 refine RX.cons rfl rfl (op_w (yw_move rfl rfl) rfl rfl ?_)
 refine RX.consG rfl rfl rfl rfl rfl (op_w (yw_move rfl rfl) rfl rfl ?_)
 refine RX.cons rfl rfl (op_w (yw_pickT rfl rfl rfl) rfl rfl ?_)
 refine RX.cons rfl rfl (op_w (yw_move rfl rfl) rfl rfl ?_)
 refine RX.consG rfl rfl rfl rfl rfl (op_w (yw_move rfl rfl) rfl rfl ?_)
 refine RX.consG rfl rfl rfl rfl rfl (op_w (yw_lenS rfl Tryz.underlying34 rfl) rfl rfl ?_)
 refine RX.consG rfl rfl rfl rfl rfl (op_w (yw_eql rfl rfl rfl) rfl rfl ?_)
 refine RX.know (t := 90) (u := .bool true) rfl (congrArg Value.bool (decide_eq_true rfl)) ?_
 refine RX.cons rfl rfl (op_w (yw_pickT rfl rfl rfl) rfl rfl ?_)
 refine RX.cons rfl rfl (op_w (yw_move rfl rfl) rfl rfl ?_)
 refine RX.consG rfl rfl rfl rfl rfl (op_w (yw_move rfl rfl) rfl rfl ?_)
 refine RX.consG rfl rfl rfl rfl rfl (op_w (yw_index (k := 0) rfl slt_34 rfl rfl rfl (by decide) hAm) rfl rfl ?_)
 refine RX.consG rfl rfl rfl rfl rfl (op_w (yw_fieldAddr rfl fld_39_8 rfl) rfl rfl ?_)
 refine RX.consG rfl rfl rfl rfl rfl (op_yld (y_rowElemF (i := 0) rfl rfl one_3 rfl (show (List.map smC saneM)[0]? = some (smC ⟨1, 1, 1, 5, 0, 0, 0, 0, 2⟩) from rfl) rfl) rfl rfl ?_)
 refine RX.consG rfl rfl rfl rfl rfl (op_w (yw_eql rfl rfl rfl) rfl rfl ?_)
 refine RX.know (t := 97) (u := .bool true) rfl (congrArg Value.bool (decide_eq_true rfl)) ?_
 refine RX.cons rfl rfl (op_w (yw_pickT rfl rfl rfl) rfl rfl ?_)
 refine RX.cons rfl rfl (op_w (yw_move rfl rfl) rfl rfl ?_)
 refine RX.consG rfl rfl rfl rfl rfl (op_w (yw_move rfl rfl) rfl rfl ?_)
 refine RX.consG rfl rfl rfl rfl rfl (op_w (yw_index (k := 1) rfl slt_34 rfl rfl rfl (by decide) hAm) rfl rfl ?_)
 refine RX.consG rfl rfl rfl rfl rfl (op_w (yw_fieldAddr rfl fld_39_8 rfl) rfl rfl ?_)
 refine RX.consG rfl rfl rfl rfl rfl (op_yld (y_rowElemF (i := 0) rfl rfl one_3 rfl (show (List.map smC saneM)[1]? = some (smC ⟨2, 1, 1, 5, 0, 0, 0, 0, 1⟩) from rfl) rfl) rfl rfl ?_)
 refine RX.consG rfl rfl rfl rfl rfl (op_w (yw_eql rfl rfl rfl) rfl rfl ?_)
 refine RX.know (t := 104) (u := .bool true) rfl (congrArg Value.bool (decide_eq_true rfl)) ?_
 refine RX.cons rfl rfl (op_w (yw_pickT rfl rfl rfl) rfl rfl ?_)
 refine RX.cons rfl rfl (op_w (yw_move rfl rfl) rfl rfl ?_)
 refine RX.consG rfl rfl rfl rfl rfl (op_w (yw_move rfl rfl) rfl rfl ?_)
 refine RX.consG rfl rfl rfl rfl rfl (op_w (yw_index (k := 2) rfl slt_34 rfl rfl rfl (by decide) hAm) rfl rfl ?_)
 refine RX.consG rfl rfl rfl rfl rfl (op_w (yw_fieldAddr rfl fld_39_8 rfl) rfl rfl ?_)
 refine RX.consG rfl rfl rfl rfl rfl (op_yld (y_rowElemF (i := 0) rfl rfl one_3 rfl (show (List.map smC saneM)[2]? = some (smC ⟨2, 1, 2, 6, 0, 0, 0, 0, 1⟩) from rfl) rfl) rfl rfl ?_)
 refine RX.consG rfl rfl rfl rfl rfl (op_w (yw_eql rfl rfl rfl) rfl rfl ?_)
 refine RX.know (t := 111) (u := .bool true) rfl (congrArg Value.bool (decide_eq_true rfl)) ?_
 refine RX.cons rfl rfl (op_w (yw_pickT rfl rfl rfl) rfl rfl ?_)
 refine RX.cons rfl rfl (op_w (yw_move rfl rfl) rfl rfl ?_)
 refine RX.consG rfl rfl rfl rfl rfl (op_w (yw_move rfl rfl) rfl rfl ?_)
 refine RX.consG rfl rfl rfl rfl rfl (op_w (yw_index (k := 3) rfl slt_34 rfl rfl rfl (by decide) hAm) rfl rfl ?_)
 refine RX.consG rfl rfl rfl rfl rfl (op_w (yw_fieldAddr rfl fld_39_8 rfl) rfl rfl ?_)
 refine RX.consG rfl rfl rfl rfl rfl (op_yld (y_rowElemF (i := 0) rfl rfl one_3 rfl (show (List.map smC saneM)[3]? = some (smC ⟨3, 1, 3, 5, 0, 0, 0, 0, 1⟩) from rfl) rfl) rfl rfl ?_)
 refine RX.consG rfl rfl rfl rfl rfl (op_w (yw_eql rfl rfl rfl) rfl rfl ?_)
 refine RX.know (t := 118) (u := .bool true) rfl (congrArg Value.bool (decide_eq_true rfl)) ?_
 refine RX.cons rfl rfl (op_w (yw_pickT rfl rfl rfl) rfl rfl ?_)
 refine RX.cons rfl rfl (op_w (yw_assign rfl rfl) rfl rfl ?_)
 refine RX.nil (XX.next (V' := [(0, .bool true)]) ⟨rfl, trivial⟩ ?_)
 refine CX.ret ?_
 exact ret_tmp rfl rfl fun w1 hw => ⟨rfl, hw.sub (List.nil_sublist _)⟩

end Go.Proofs.YtpcfgoadkfajfaaGreatDoor
namespace Go.Proofs.YtpcfgoadkfajfaaGreatDoor
set_option linter.all false
open Go Go.RowKit
set_option maxRecDepth 100000
theorem fld_126_0 : Fld Tryz.prog 126 0 0 := ⟨_, _, (Tryz.prog.info? 123).get!, Tryz.underlying126, rfl, rfl, by kernel_rfl, by decide +kernel⟩
theorem one_123 : One Tryz.prog 123 := ⟨_, Tryz.underlying123, rfl⟩
theorem ptrt_123 : PtrT Tryz.prog 123 126 := ⟨(Tryz.prog.info? 126).get!, Tryz.underlying123, by kernel_rfl, by decide +kernel⟩
theorem szt_123 : SzT Tryz.prog 123 1 := ⟨(Tryz.prog.info? 123).get!, by kernel_rfl, by kernel_rfl⟩
theorem ent_108 : ∀ args w, (callFunc 108 args).run Tryz.prog w = .ok (.enter 108 args) w := enters_of Tryz.func108 (by kernel_rfl) rfl
theorem fld_126_1 : Fld Tryz.prog 126 1 1 := ⟨_, _, (Tryz.prog.info? 124).get!, Tryz.underlying126, rfl, rfl, by kernel_rfl, by decide +kernel⟩
theorem one_124 : One Tryz.prog 124 := ⟨_, Tryz.underlying124, rfl⟩
theorem slb_124 : SlB Tryz.prog 124 5 1 1 (.int .u8 0) := ⟨Tryz.underlying124, ⟨(Tryz.prog.info? 5).get!, by kernel_rfl, by kernel_rfl, by kernel_rfl, by kernel_rfl⟩, by decide, by decide⟩
theorem szt_124 : SzT Tryz.prog 124 1 := ⟨(Tryz.prog.info? 124).get!, by kernel_rfl, by kernel_rfl⟩
/-- A builder's blocks. -/
abbrev brO (A : Option Addr) (gb : Nat) : List Nat := (A.map Addr.block).toList ++ [gb]
set_option maxRecDepth 100000 in
theorem w_copyFresh {w : World} {gb : Nat} (sv : Value) (h1 : sv.oneCell' = true) (hs : SL w [gb] w [.blk gb (.cells #[.pointer none, sv] 126 (0, 0))]) :
    Calls Tryz.prog 108 #[.pointer (some ⟨gb, 0, none⟩)] w (fun e w' => e = .returned (.tuple #[]) ∧ SL w [gb] w' [.blk gb (.cells #[.pointer (some ⟨gb, 0, none⟩), sv] 126 (0, 0))]) := by
 refine calls_of_CX (O := [gb]) (L := [.blk gb (.cells (#[.pointer none, sv]) 126 (0, 0))]) (args := [.pointer (some ⟨gb, 0, none⟩)]) Tryz.func108 rfl (by simp [Tryz.ntmps108]) hs ?_
 refine CX.sub (V' := [(0, .pointer (some ⟨gb, 0, none⟩))]) ⟨rfl, trivial⟩ ?_
 refine CX.seq ?_
 refine CX.region ?_
 refine RX.cons rfl rfl (op_w (yw_move rfl rfl) rfl rfl ?_)
 refine RX.cons rfl rfl (op_w (yw_nilCheck rfl rfl) rfl rfl ?_)
 refine RX.cons rfl rfl (op_w (yw_field0 rfl fld_126_0 rfl) rfl rfl ?_)
 refine RX.cons rfl rfl (op_yld (y_load (i := 0) rfl rfl one_123 rfl rfl) rfl rfl ?_)
 refine RX.cons rfl rfl (op_w (yw_ptrNil rfl ptrt_123 rfl rfl) rfl rfl ?_)
 refine RX.nil (XX.next (V' := [(0, _), (6, _)]) ⟨rfl, rfl, trivial⟩ ?_)
 refine CX.condT rfl ?_
 refine CX.region ?_
 refine RX.cons rfl rfl (op_w (yw_move rfl rfl) rfl rfl ?_)
 refine RX.cons rfl rfl (op_w (yw_move rfl rfl) rfl rfl ?_)
 refine RX.cons rfl rfl (op_yld (y_toUnsafe (i := 0) rfl ptrt_123 Tryz.underlying189 rfl rfl (by simp)) rfl rfl ?_)
 refine RX.cons rfl rfl (op_ext1 rfl rfl rfl rfl rfl Tryz.func122 (by kernel_rfl) (by kernel_rfl) (by kernel_rfl) (by kernel_rfl) rfl ?_)
 refine RX.cons rfl rfl (op_yld (y_fromUnsafe (i := 0) rfl Tryz.underlying189 ptrt_123 rfl rfl (by kernel_rfl)) rfl rfl ?_)
 refine RX.cons rfl rfl (op_w (yw_nilCheck rfl rfl) rfl rfl ?_)
 refine RX.cons rfl rfl (op_w (yw_field0 rfl fld_126_0 rfl) rfl rfl ?_)
 refine RX.cons rfl rfl (op_store1 (i := 0) (cs' := #[.pointer (some ⟨gb, 0, none⟩), sv]) rfl rfl rfl rfl szt_123 rfl rfl rfl rfl ?_)
 refine RX.nil ?_
 exact end_none rfl fun w1 hw => ⟨rfl, hw⟩

set_option maxRecDepth 100000 in
theorem w_copyUsed {w : World} {gb : Nat} (sv : Value) (h1 : sv.oneCell' = true) (hs : SL w [gb] w [.blk gb (.cells #[.pointer (some ⟨gb, 0, none⟩), sv] 126 (0, 0))]) :
    Calls Tryz.prog 108 #[.pointer (some ⟨gb, 0, none⟩)] w (fun e w' => e = .returned (.tuple #[]) ∧ SL w [gb] w' [.blk gb (.cells #[.pointer (some ⟨gb, 0, none⟩), sv] 126 (0, 0))]) := by
 refine calls_of_CX (O := [gb]) (L := [.blk gb (.cells (#[.pointer (some ⟨gb, 0, none⟩), sv]) 126 (0, 0))]) (args := [.pointer (some ⟨gb, 0, none⟩)]) Tryz.func108 rfl (by simp [Tryz.ntmps108]) hs ?_
 refine CX.sub (V' := [(0, .pointer (some ⟨gb, 0, none⟩))]) ⟨rfl, trivial⟩ ?_
 refine CX.seq ?_
 refine CX.region ?_
 refine RX.cons rfl rfl (op_w (yw_move rfl rfl) rfl rfl ?_)
 refine RX.cons rfl rfl (op_w (yw_nilCheck rfl rfl) rfl rfl ?_)
 refine RX.cons rfl rfl (op_w (yw_field0 rfl fld_126_0 rfl) rfl rfl ?_)
 refine RX.cons rfl rfl (op_yld (y_load (i := 0) rfl rfl one_123 rfl rfl) rfl rfl ?_)
 refine RX.cons rfl rfl (op_w (yw_ptrSome rfl ptrt_123 rfl rfl) rfl rfl ?_)
 refine RX.nil (XX.next (V' := [(0, _), (6, _)]) ⟨rfl, rfl, trivial⟩ ?_)
 refine CX.condF rfl ?_
 refine CX.seq ?_
 refine CX.region ?_
 refine RX.cons rfl rfl (op_w (yw_move rfl rfl) rfl rfl ?_)
 refine RX.cons rfl rfl (op_w (yw_nilCheck rfl rfl) rfl rfl ?_)
 refine RX.cons rfl rfl (op_w (yw_field0 rfl fld_126_0 rfl) rfl rfl ?_)
 refine RX.cons rfl rfl (op_yld (y_load (i := 0) rfl rfl one_123 rfl rfl) rfl rfl ?_)
 refine RX.cons rfl rfl (op_w (yw_move rfl rfl) rfl rfl ?_)
 refine RX.cons rfl rfl (op_w (yw_ptrNe rfl ptrt_123 rfl rfl) rfl rfl ?_)
 refine RX.nil (XX.next (V' := [(19, _)]) ⟨rfl, trivial⟩ ?_)
 refine CX.condF rfl ?_
 refine CX.skip ?_
 exact end_none rfl fun w1 hw => ⟨rfl, hw⟩

theorem w_copy {w : World} {gb : Nat} (sv p : Value) (h1 : sv.oneCell' = true) (hp : p = .pointer none ∨ p = .pointer (some ⟨gb, 0, none⟩)) (hs : SL w [gb] w [.blk gb (.cells #[p, sv] 126 (0, 0))]) :
    Calls Tryz.prog 108 #[.pointer (some ⟨gb, 0, none⟩)] w (fun e w' => e = .returned (.tuple #[]) ∧ SL w [gb] w' [.blk gb (.cells #[.pointer (some ⟨gb, 0, none⟩), sv] 126 (0, 0))]) := by
  rcases hp with rfl | rfl
  · exact w_copyFresh sv h1 hs
  · exact w_copyUsed sv h1 hs
set_option maxRecDepth 100000 in
theorem w_write {w : World} {gb cap : Nat} {A : Option Addr} {p : Value} (xs : List UInt8) (s : ByteArray) (hp : p = .pointer none ∨ p = .pointer (some ⟨gb, 0, none⟩)) (hn : xs.length + s.size ≤ 140737488355328) (hs : SL w (brO A gb) w [.row A cap 5 1 (List.map u8c xs), .blk gb (.cells #[p, .slice A xs.length cap] 126 (0, 0))]) :
    Calls Tryz.prog 75 #[.pointer (some ⟨gb, 0, none⟩), .string s] w (fun e w' => ∃ z : Option Addr × Nat, (A = none → s.size = 0 → z.1 = none) ∧ e = .returned (.tuple #[.int .i64 ((s.size : Nat) : Int), .nilIface]) ∧ SL w (brO A gb) w' [.row z.1 z.2 5 1 (List.map u8c (xs ++ s.data.toList)), .blk gb (.cells #[.pointer (some ⟨gb, 0, none⟩), .slice z.1 ((xs ++ s.data.toList).length) z.2] 126 (0, 0))]) := by
 refine calls_of_CX (O := (brO A gb)) (L := [.row A cap 5 1 (List.map u8c xs), .blk gb (.cells (#[p, .slice A (List.length (xs : List UInt8)) cap]) 126 (0, 0))]) (args := [.pointer (some ⟨gb, 0, none⟩), .string s]) Tryz.func75 rfl (by simp [Tryz.ntmps75]) hs ?_
 refine CX.sub (V' := [(0, .pointer (some ⟨gb, 0, none⟩)), (1, .string s)]) ⟨rfl, rfl, trivial⟩ ?_
 refine CX.seq ?_
 refine CX.region ?_
 refine RX.cons rfl rfl (op_w (yw_assign rfl rfl) rfl rfl ?_)
 refine RX.cons rfl rfl (op_w (yw_assign rfl rfl) rfl rfl ?_)
 refine RX.nil (XX.next (V' := [(0, _), (1, _)]) ⟨rfl, rfl, trivial⟩ ?_)
 refine CX.seq ?_
 refine CX.region ?_
 refine RX.cons rfl rfl (op_w (yw_move rfl rfl) rfl rfl ?_)
 refine RX.cons rfl rfl (op_callP [.blk gb (.cells (#[p, .slice A (List.length (xs : List UInt8)) cap]) 126 (0, 0))] [.row A cap 5 1 (List.map u8c xs)] rfl rfl rfl rfl rfl ent_108 ((perm_pick 1 rfl).trans (List.Perm.cons _ (List.Perm.refl _))) (σ := Unit) (val := fun _ => .tuple #[]) (LL := fun _ => [.blk gb (.cells #[.pointer (some ⟨gb, 0, none⟩), .slice A (List.length (xs : List UInt8)) cap] 126 (0, 0))]) (post := fun _ => True) (fun w hw hs => (w_copy (.slice A (List.length (xs : List UInt8)) cap) (p) rfl hp hs).mono fun e w' h => ⟨(), trivial, h⟩) (fun _ _ => ?_))
 refine RX.nil (XX.next (V' := [(0, _), (1, _)]) ⟨rfl, rfl, trivial⟩ ?_)
 refine CX.seq ?_
 refine CX.region ?_
 refine RX.cons rfl rfl (op_w (yw_move rfl rfl) rfl rfl ?_)
 refine RX.cons rfl rfl (op_w (yw_move rfl rfl) rfl rfl ?_)
 refine RX.cons rfl rfl (op_w (yw_nilCheck rfl rfl) rfl rfl ?_)
 refine RX.cons rfl rfl (op_w (yw_fieldAddr rfl fld_126_1 rfl) rfl rfl ?_)
 refine RX.cons rfl rfl (op_yld (y_load (i := 0) rfl rfl one_124 rfl rfl) rfl rfl ?_)
 refine RX.cons rfl rfl (op_w (yw_move rfl rfl) rfl rfl ?_)
 refine RX.cons rfl rfl (op_appendStr (i := 1) (xs := xs) rfl rfl rfl slb_124 Tryz.underlying9 rfl rfl rfl hn fun A1 c1 hA1 => ?_)
 refine RX.cons rfl rfl (op_w (yw_nilCheck rfl rfl) rfl rfl ?_)
 refine RX.cons rfl rfl (op_w (yw_fieldAddr rfl fld_126_1 rfl) rfl rfl ?_)
 refine RX.cons rfl rfl (op_store1 (i := 0) (cs' := #[.pointer (some ⟨gb, 0, none⟩), .slice A1 (((xs ++ s.data.toList)).length) c1]) rfl rfl rfl rfl szt_124 rfl rfl rfl rfl ?_)
 refine RX.nil (XX.next (V' := [(1, _)]) ⟨rfl, trivial⟩ ?_)
 refine CX.seq ?_
 refine CX.region ?_
 refine RX.cons rfl rfl (op_w (yw_move rfl rfl) rfl rfl ?_)
 refine RX.cons rfl rfl (op_w (yw_lenStr rfl Tryz.underlying9 rfl) rfl rfl ?_)
 refine RX.cons rfl rfl (op_w (yw_assign rfl rfl) rfl rfl ?_)
 refine RX.cons rfl rfl (op_w (yw_assign rfl rfl) rfl rfl ?_)
 refine RX.nil (XX.next (V' := [(4, .int .i64 ((ByteArray.size s : Nat) : Int)), (5, .nilIface)]) ⟨rfl, rfl, trivial⟩ ?_)
 refine CX.ret ?_
 exact ret_tmp2 rfl rfl rfl fun w1 hw => ⟨(A1, c1), hA1, rfl, hw.pick ((perm_pick 1 rfl).trans (List.Perm.cons _ ((perm_pick 0 rfl).trans (List.Perm.cons _ (List.Perm.refl _)))))⟩

set_option maxRecDepth 100000 in
theorem w_strNil {w : World} {gb cap : Nat} {p : Value} (hs : SL w (brO (none) gb) w [.row none cap 5 1 (List.map u8c ([])), .blk gb (.cells #[p, .slice none (([] : List UInt8).length) cap] 126 (0, 0))]) :
    Calls Tryz.prog 77 #[.pointer (some ⟨gb, 0, none⟩)] w (fun e w' => e = .returned (.string ⟨List.toArray ([] : List UInt8)⟩) ∧ SL w (brO (none) gb) w' [.blk gb (.cells #[p, .slice none (([] : List UInt8).length) cap] 126 (0, 0))]) := by
 refine calls_of_CX (O := (brO (none) gb)) (L := [.row none cap 5 1 (List.map u8c ([])), .blk gb (.cells (#[p, .slice none (([] : List UInt8).length) cap]) 126 (0, 0))]) (args := [.pointer (some ⟨gb, 0, none⟩)]) Tryz.func77 rfl (by simp [Tryz.ntmps77]) hs ?_
 refine CX.sub (V' := [(0, .pointer (some ⟨gb, 0, none⟩))]) ⟨rfl, trivial⟩ ?_
 refine CX.seq ?_
 refine CX.region ?_
 refine RX.cons rfl rfl (op_w (yw_assign rfl rfl) rfl rfl ?_)
 refine RX.nil (XX.next (V' := [(0, _)]) ⟨rfl, trivial⟩ ?_)
 refine CX.seq ?_
 refine CX.draw 10 [(0, 1, 8), (1, 8, 16), (2, 16, 32), (4, 32, 64), (8, 64, 128), (0, 1, 256), (32, 256, 512), (64, 512, 1024), (128, 1024, 2048), (256, 2048, 4096), (528, 4224, 8192), (2047, 8192, 4)] (by kernel_rfl) (by kernel_rfl) (by kernel_rfl) ?_
 refine DX.takeW 0 1 (by kernel_rfl) rfl rfl rfl rfl rfl (yw_move rfl rfl) ?_
 refine DX.takeW 1 3 (by kernel_rfl) rfl rfl rfl rfl rfl (yw_nilCheck rfl rfl) ?_
 refine DX.takeW 2 7 (by kernel_rfl) rfl rfl rfl rfl rfl (yw_fieldAddr rfl fld_126_1 rfl) ?_
 refine DX.take 3 15 (by kernel_rfl) rfl rfl rfl rfl rfl (List.Sublist.refl _) (y_load (i := 1) rfl rfl one_124 rfl rfl) ?_
 refine DX.takeW 4 31 (by kernel_rfl) rfl rfl rfl rfl rfl (yw_sliceData0 rfl rfl) ?_
 refine DX.takeW 5 63 (by kernel_rfl) rfl rfl rfl rfl rfl (yw_move rfl rfl) ?_
 refine DX.takeW 6 127 (by kernel_rfl) rfl rfl rfl rfl rfl (yw_nilCheck rfl rfl) ?_
 refine DX.takeW 7 255 (by kernel_rfl) rfl rfl rfl rfl rfl (yw_fieldAddr rfl fld_126_1 rfl) ?_
 refine DX.take 8 511 (by kernel_rfl) rfl rfl rfl rfl rfl (List.Sublist.refl _) (y_load (i := 1) rfl rfl one_124 rfl rfl) ?_
 refine DX.takeW 9 1023 (by kernel_rfl) rfl rfl rfl rfl rfl (yw_lenS rfl Tryz.underlying124 rfl) ?_
 refine DX.takeW 10 2047 (by kernel_rfl) rfl rfl rfl rfl rfl (yw_unsafeString0 rfl rfl rfl) ?_
 refine DX.takeW 11 4095 (by kernel_rfl) rfl rfl rfl rfl rfl (yw_assign rfl rfl) ?_
 refine DX.done (by kernel_rfl) (XX.next (V' := [(2, .string .empty)]) ⟨rfl, trivial⟩ ?_)
 refine CX.ret ?_
 exact ret_tmp rfl rfl fun w1 hw => ⟨rfl, hw.pick ((perm_pick 1 rfl).trans (List.Perm.cons _ (List.Perm.refl _)))⟩

set_option maxRecDepth 100000 in
theorem w_strSome {w : World} {gb cap : Nat} {p : Value} {gr : Nat} {xs : List UInt8} (h0 : xs ≠ []) (hc : cap ≠ 0) (hs : SL w (brO (some ⟨gr, 0, none⟩) gb) w [.row (some ⟨gr, 0, none⟩) cap 5 1 (List.map u8c xs), .blk gb (.cells #[p, .slice (some ⟨gr, 0, none⟩) ((xs : List UInt8).length) cap] 126 (0, 0))]) :
    Calls Tryz.prog 77 #[.pointer (some ⟨gb, 0, none⟩)] w (fun e w' => e = .returned (.string ⟨List.toArray (xs : List UInt8)⟩) ∧ SL w (brO (some ⟨gr, 0, none⟩) gb) w' [.blk gb (.cells #[p, .slice (some ⟨gr, 0, none⟩) ((xs : List UInt8).length) cap] 126 (0, 0))]) := by
 refine calls_of_CX (O := (brO (some ⟨gr, 0, none⟩) gb)) (L := [.row (some ⟨gr, 0, none⟩) cap 5 1 (List.map u8c xs), .blk gb (.cells (#[p, .slice (some ⟨gr, 0, none⟩) ((xs : List UInt8).length) cap]) 126 (0, 0))]) (args := [.pointer (some ⟨gb, 0, none⟩)]) Tryz.func77 rfl (by simp [Tryz.ntmps77]) hs ?_
 refine CX.sub (V' := [(0, .pointer (some ⟨gb, 0, none⟩))]) ⟨rfl, trivial⟩ ?_
 refine CX.seq ?_
 refine CX.region ?_
 refine RX.cons rfl rfl (op_w (yw_assign rfl rfl) rfl rfl ?_)
 refine RX.nil (XX.next (V' := [(0, _)]) ⟨rfl, trivial⟩ ?_)
 refine CX.seq ?_
 refine CX.draw 10 [(0, 1, 8), (1, 8, 16), (2, 16, 32), (4, 32, 64), (8, 64, 128), (0, 1, 256), (32, 256, 512), (64, 512, 1024), (128, 1024, 2048), (256, 2048, 4096), (528, 4224, 8192), (2047, 8192, 4)] (by kernel_rfl) (by kernel_rfl) (by kernel_rfl) ?_
 refine DX.takeW 0 1 (by kernel_rfl) rfl rfl rfl rfl rfl (yw_move rfl rfl) ?_
 refine DX.takeW 1 3 (by kernel_rfl) rfl rfl rfl rfl rfl (yw_nilCheck rfl rfl) ?_
 refine DX.takeW 2 7 (by kernel_rfl) rfl rfl rfl rfl rfl (yw_fieldAddr rfl fld_126_1 rfl) ?_
 refine DX.take 3 15 (by kernel_rfl) rfl rfl rfl rfl rfl (List.Sublist.refl _) (y_load (i := 1) rfl rfl one_124 rfl rfl) ?_
 refine DX.takeW 4 31 (by kernel_rfl) rfl rfl rfl rfl rfl (yw_sliceData (p := ⟨gr, 0, none⟩) rfl rfl hc) ?_
 refine DX.takeW 5 63 (by kernel_rfl) rfl rfl rfl rfl rfl (yw_move rfl rfl) ?_
 refine DX.takeW 6 127 (by kernel_rfl) rfl rfl rfl rfl rfl (yw_nilCheck rfl rfl) ?_
 refine DX.takeW 7 255 (by kernel_rfl) rfl rfl rfl rfl rfl (yw_fieldAddr rfl fld_126_1 rfl) ?_
 refine DX.take 8 511 (by kernel_rfl) rfl rfl rfl rfl rfl (List.Sublist.refl _) (y_load (i := 1) rfl rfl one_124 rfl rfl) ?_
 refine DX.takeW 9 1023 (by kernel_rfl) rfl rfl rfl rfl rfl (yw_lenS rfl Tryz.underlying124 rfl) ?_
 refine DX.stepT 10 2047 (by kernel_rfl) rfl rfl rfl rfl (op_unsafeString (xs := xs) [.blk gb (.cells (#[p, .slice (some ⟨gr, 0, none⟩) ((xs : List UInt8).length) cap]) 126 (0, 0))] rfl rfl rfl rfl rfl rfl Tryz.underlying166 (by kernel_rfl) ((perm_pick 0 rfl).trans (List.Perm.cons _ (List.Perm.refl _))) h0 ?_)
 refine DX.takeW 11 4095 (by kernel_rfl) rfl rfl rfl rfl rfl (yw_assign rfl rfl) ?_
 refine DX.done (by kernel_rfl) (XX.next (V' := [(2, .string (⟨(xs).toArray⟩))]) ⟨rfl, trivial⟩ ?_)
 refine CX.ret ?_
 exact ret_tmp rfl rfl fun w1 hw => ⟨rfl, hw.pick ((perm_pick 0 rfl).trans (List.Perm.cons _ (List.Perm.refl _)))⟩

/-- A builder's string. -/
theorem w_str {w : World} {gb cap : Nat} {p : Value} {A : Option Addr} (xs : List UInt8) (h : xs = [] → A = none) (hs : SL w (brO A gb) w [.row A cap 5 1 (List.map u8c xs), .blk gb (.cells #[p, .slice A xs.length cap] 126 (0, 0))]) :
    Calls Tryz.prog 77 #[.pointer (some ⟨gb, 0, none⟩)] w (fun e w' => e = .returned (.string ⟨xs.toArray⟩) ∧ SL w (brO A gb) w' [.blk gb (.cells #[p, .slice A xs.length cap] 126 (0, 0))]) := by
  by_cases hx : xs = []
  · have hA := h hx
    subst hx; subst hA
    exact w_strNil hs
  · have hown := row_u8.1 (hs.ents _ List.mem_cons_self)
    rcases hown.2 with ⟨hv, h0⟩ | ⟨g, cp, cur, hv, _, _, hnc, _⟩
    · exact absurd (List.eq_nil_of_length_eq_zero h0) hx
    · injection hv with h1 h2 h3
      subst h1
      have : xs.length ≠ 0 := by simpa using hx
      exact w_strSome hx (by omega) hs
end Go.Proofs.YtpcfgoadkfajfaaGreatDoor
