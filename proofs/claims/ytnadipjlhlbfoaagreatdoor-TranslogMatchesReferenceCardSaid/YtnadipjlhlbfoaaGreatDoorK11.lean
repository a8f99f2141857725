/- Walks, printed by a program. Two Bools compared. append of a part of a slice of one's own; copy into the head of a slice of one's own. A store into one cell of an element of a slice of one's own; an entry taken out of a pack, and put back. Plain aids for the walks of the reference's digests: words, padding, what is digested. Walks, printed by a program. -/
import Derived.Test.YtnadipjlhlbfoaaGreatDoorK10
import Derived.Test.YtnadipjlhlbfoaaGreatDoorK9
import Derived.Test.YtnadipjlhlbfoaaGreatDoorK4
import Derived.Test.YtnadipjlhlbfoaaGreatDoorK5
namespace Go.Proofs.YtnadipjlhlbfoaaGreatDoor
set_option linter.all false
open Go Go.RowKit
set_option maxRecDepth 100000
theorem ent_5 : ∀ args w, (callFunc 5 args).run Tryz.prog w = .ok (.enter 5 args) w := enters_of Tryz.func5 (by kernel_rfl) rfl
theorem ent_9 : ∀ args w, (callFunc 9 args).run Tryz.prog w = .ok (.enter 9 args) w := enters_of Tryz.func9 (by kernel_rfl) rfl
theorem ent_22 : ∀ args w, (callFunc 22 args).run Tryz.prog w = .ok (.enter 22 args) w := enters_of Tryz.func22 (by kernel_rfl) rfl
theorem ent_7 : ∀ args w, (callFunc 7 args).run Tryz.prog w = .ok (.enter 7 args) w := enters_of Tryz.func7 (by kernel_rfl) rfl
theorem ent_14 : ∀ args w, (callFunc 14 args).run Tryz.prog w = .ok (.enter 14 args) w := enters_of Tryz.func14 (by kernel_rfl) rfl
theorem ent_16 : ∀ args w, (callFunc 16 args).run Tryz.prog w = .ok (.enter 16 args) w := enters_of Tryz.func16 (by kernel_rfl) rfl
theorem ent_19 : ∀ args w, (callFunc 19 args).run Tryz.prog w = .ok (.enter 19 args) w := enters_of Tryz.func19 (by kernel_rfl) rfl
theorem ent_23 : ∀ args w, (callFunc 23 args).run Tryz.prog w = .ok (.enter 23 args) w := enters_of Tryz.func23 (by kernel_rfl) rfl
theorem ent_12 : ∀ args w, (callFunc 12 args).run Tryz.prog w = .ok (.enter 12 args) w := enters_of Tryz.func12 (by kernel_rfl) rfl
theorem ent_4 : ∀ args w, (callFunc 4 args).run Tryz.prog w = .ok (.enter 4 args) w := enters_of Tryz.func4 (by kernel_rfl) rfl
theorem ent_11 : ∀ args w, (callFunc 11 args).run Tryz.prog w = .ok (.enter 11 args) w := enters_of Tryz.func11 (by kernel_rfl) rfl
theorem ent_6 : ∀ args w, (callFunc 6 args).run Tryz.prog w = .ok (.enter 6 args) w := enters_of Tryz.func6 (by kernel_rfl) rfl
theorem ent_13 : ∀ args w, (callFunc 13 args).run Tryz.prog w = .ok (.enter 13 args) w := enters_of Tryz.func13 (by kernel_rfl) rfl
theorem ent_27 : ∀ args w, (callFunc 27 args).run Tryz.prog w = .ok (.enter 27 args) w := enters_of Tryz.func27 (by kernel_rfl) rfl
theorem entsX_nil : entsX [] = [] := rfl
attribute [local irreducible] sum root entsX
set_option maxRecDepth 100000 in
theorem w_sane {w : World} (hG : Rounds w) :
    Calls Tryz.prog 4 #[] w (fun e w' => e = .returned (.bool true) ∧ SL w [] w' []) := by
 refine calls_of_CX (O := []) (L := []) (args := []) Tryz.func4 rfl (by simp [Tryz.ntmps4]) (SL.refl w) ?_
 refine CX.sub (V' := []) trivial ?_
 refine CX.seq ?_
 refine CX.region ?_
 refine RX.cons rfl rfl (op_w (yw_assign rfl rfl) rfl rfl ?_)
 refine RX.nil (XX.next (V' := []) trivial ?_)
 refine CX.seq ?_
 refine CX.region ?_
 refine RX.cons rfl rfl (op_callE rfl rfl rfl rfl rfl ent_5 (fun w hw => w_newE) (fun zx _ => ?_))
 refine RX.cons rfl rfl (op_w (yw_assign rfl rfl) rfl rfl ?_)
 refine RX.nil (XX.next (V' := [(1, _)]) ⟨rfl, trivial⟩ ?_)
 refine CX.seq ?_
 refine CX.seq ?_
 refine CX.region ?_
 refine RX.cons rfl rfl (op_w (yw_move rfl rfl) rfl rfl ?_)
 refine RX.cons rfl rfl (op_w (yw_ptrSome rfl ptrt_30 rfl rfl) rfl rfl ?_)
 refine RX.nil (XX.next (V' := [(1, _), (17, _)]) ⟨rfl, rfl, trivial⟩ ?_)
 refine CX.condF rfl ?_
 refine CX.skip (XX.next (V' := [(1, _)]) ⟨rfl, trivial⟩ ?_)
 refine CX.seq ?_
 refine CX.region ?_
 refine RX.cons rfl rfl (op_w (yw_move rfl rfl) rfl rfl ?_)
 refine RX.cons rfl rfl (op_callV (v := .string (root sum (entsX ([])))) rfl rfl rfl rfl rfl ent_9 (fun w hw => w_rootE ([]) (hw.logAt (i := 0) rfl) (by simp) (by decide) (hG.keep hw (by simp))) ?_)
 refine RX.cons rfl rfl (op_callV (v := .string (root sum [])) rfl rfl rfl rfl rfl ent_21 (fun w hw => w_root [] (hG.keep hw (by simp)) (Rd.nil _ _ _) (by decide) (by simp)) ?_)
 refine RX.cons rfl rfl (op_w (yw_streq rfl rfl rfl) rfl rfl ?_)
 refine RX.know (t := 21) (u := .bool true) rfl (congrArg Value.bool (decide_eq_true (by rw [entsX_nil]))) ?_
 refine RX.cons rfl rfl (op_w (yw_assign rfl rfl) rfl rfl ?_)
 refine RX.nil (XX.next (V' := [(1, _), (2, _)]) ⟨rfl, rfl, trivial⟩ ?_)
 refine CX.seq ?_
 refine CX.region ?_
 refine RX.cons rfl rfl (op_w (yw_move rfl rfl) rfl rfl ?_)
 refine RX.cons rfl rfl (op_callE rfl rfl rfl rfl rfl ent_22 (fun w hw => w_one 5 1 (by decide) (by decide)) (fun o1 _ => ?_))
 refine RX.cons rfl rfl (op_buildSlice rfl rfl rfl slb_33 rfl rfl (by intro v hv; simp only [List.mem_cons, List.not_mem_nil, or_false] at hv; subst hv; exact ⟨rfl, (plain_of rfl)⟩) (by decide) fun r1 => ?_)
 refine RX.cons rfl rfl (op_callP [logE zx (((none, 0), (none, 0)) : LZ) ([])] [.row (some ⟨r1, 0, none⟩) 1 25 3 (List.map stC ([(((some ⟨o1, 0, none⟩, 1), oneS 5 1) : SX)])), .row (some ⟨o1, 0, none⟩) 1 77 3 (List.map lnC (Stm.ls (oneS 5 1)))] rfl rfl rfl rfl rfl ent_7 ((perm_pick 2 rfl).trans (List.Perm.cons _ (List.Perm.refl _))) (σ := LZ × List SX) (val := fun _ => .int .i64 0) (LL := fun y => [logE zx y.1 ([] ++ y.2)]) (post := fun y => y.2.map (fun x : SX => x.2) = ([(((some ⟨o1, 0, none⟩, 1), oneS 5 1) : SX)]).map (fun x : SX => x.2)) (fun w hw hs => w_appendE ([]) ([(((some ⟨o1, 0, none⟩, 1), oneS 5 1) : SX)]) (Ent.rd (hw.ents _ (List.mem_of_getElem? (i := 1) rfl))) (by intro x hx; simp only [List.mem_cons, List.not_mem_nil, or_false] at hx; subst hx; · exact Ent.rd (hw.ents _ (List.mem_of_getElem? (i := 2) rfl))) (fun _ => hw.apartA (hw.no0 (by simp) hG) 0 rfl) (by intro x hx _; simp only [List.mem_cons, List.not_mem_nil, or_false] at hx; subst hx; · exact hw.apartA (hw.no0 (by simp) hG) 1 rfl) (of_snd (l := [oneS 5 1]) (p := fun s => s.ls.length ≤ 1000000) rfl (by decide)) (Nat.le_of_ble_eq_true rfl) hs (hG.keep hw (by simp)) (hw.no0 (by simp) hG) (of_snd (l := [oneS 5 1]) (p := fun s => okS s = true) rfl (by decide)) (Nat.le_of_ble_eq_true rfl)) (fun za hza => ?_))
 have hX1 : (([] ++ za.2) : List SX).map (·.2) = sane1 := hza
 have hXl1 := of_snd (p := fun s => s.ls.length ≤ 1000000) hX1 (by decide)
 have hn1 : (([] ++ za.2) : List SX).length = 1 := len_snd hX1
 refine RX.cons rfl rfl (op_w (yw_assign rfl rfl) rfl rfl ?_)
 refine RX.nil (XX.next (V' := [(1, _), (2, _), (3, _)]) ⟨rfl, rfl, rfl, trivial⟩ ?_)
 refine CX.seq ?_
 refine CX.region ?_
 refine RX.cons rfl rfl (op_w (yw_move rfl rfl) rfl rfl ?_)
 refine RX.cons rfl rfl (op_callV (v := .string (root sum (entsX ([] ++ za.2)))) rfl rfl rfl rfl rfl ent_9 (fun w hw => w_rootE ([] ++ za.2) (hw.logAt (i := 0) rfl) hXl1 (by omega) (hG.keep hw (by simp))) ?_)
 refine RX.cons rfl rfl (op_w (yw_assign rfl rfl) rfl rfl ?_)
 refine RX.nil (XX.next (V' := [(1, _), (2, _), (3, _), (4, _)]) ⟨rfl, rfl, rfl, rfl, trivial⟩ ?_)
 refine CX.seq ?_
 refine CX.region ?_
 refine RX.cons rfl rfl (op_w (yw_move rfl rfl) rfl rfl ?_)
 refine RX.cons rfl rfl (op_callE rfl rfl rfl rfl rfl ent_22 (fun w hw => w_one 6 1 (by decide) (by decide)) (fun o2 _ => ?_))
 refine RX.cons rfl rfl (op_callE rfl rfl rfl rfl rfl ent_22 (fun w hw => w_one 7 2 (by decide) (by decide)) (fun o3 _ => ?_))
 refine RX.cons rfl rfl (op_buildSlice rfl rfl rfl slb_33 rfl rfl (by intro v hv; simp only [List.mem_cons, List.not_mem_nil, or_false] at hv; rcases hv with rfl | rfl <;> exact ⟨rfl, (plain_of rfl)⟩) (by decide) fun r2 => ?_)
 refine RX.cons rfl rfl (op_callP [logE zx za.1 ([] ++ za.2)] [.row (some ⟨r2, 0, none⟩) 2 25 3 (List.map stC ([(((some ⟨o2, 0, none⟩, 1), oneS 6 1) : SX), (((some ⟨o3, 0, none⟩, 1), oneS 7 2) : SX)])), .row (some ⟨o3, 0, none⟩) 1 77 3 (List.map lnC (Stm.ls (oneS 7 2))), .row (some ⟨o2, 0, none⟩) 1 77 3 (List.map lnC (Stm.ls (oneS 6 1))), .row (some ⟨r1, 0, none⟩) 1 25 3 (List.map stC ([(((some ⟨o1, 0, none⟩, 1), oneS 5 1) : SX)])), .row (some ⟨o1, 0, none⟩) 1 77 3 (List.map lnC (Stm.ls (oneS 5 1)))] rfl rfl rfl rfl rfl ent_7 ((perm_pick 3 rfl).trans (List.Perm.cons _ (List.Perm.refl _))) (σ := LZ × List SX) (val := fun _ => .int .i64 0) (LL := fun y => [logE zx y.1 (([] ++ za.2) ++ y.2)]) (post := fun y => y.2.map (fun x : SX => x.2) = ([(((some ⟨o2, 0, none⟩, 1), oneS 6 1) : SX), (((some ⟨o3, 0, none⟩, 1), oneS 7 2) : SX)]).map (fun x : SX => x.2)) (fun w hw hs => w_appendE ([] ++ za.2) ([(((some ⟨o2, 0, none⟩, 1), oneS 6 1) : SX), (((some ⟨o3, 0, none⟩, 1), oneS 7 2) : SX)]) (Ent.rd (hw.ents _ (List.mem_of_getElem? (i := 1) rfl))) (by intro x hx; simp only [List.mem_cons, List.not_mem_nil, or_false] at hx; rcases hx with rfl | rfl; exact Ent.rd (hw.ents _ (List.mem_of_getElem? (i := 3) rfl)); exact Ent.rd (hw.ents _ (List.mem_of_getElem? (i := 2) rfl))) (fun _ => hw.apartA (hw.no0 (by simp) hG) 0 rfl) (by intro x hx _; simp only [List.mem_cons, List.not_mem_nil, or_false] at hx; rcases hx with rfl | rfl; exact hw.apartA (hw.no0 (by simp) hG) 2 rfl; exact hw.apartA (hw.no0 (by simp) hG) 1 rfl) (of_snd (l := [oneS 6 1, oneS 7 2]) (p := fun s => s.ls.length ≤ 1000000) rfl (by decide)) (Nat.le_of_ble_eq_true rfl) hs (hG.keep hw (by simp)) (hw.no0 (by simp) hG) (of_snd (l := [oneS 6 1, oneS 7 2]) (p := fun s => okS s = true) rfl (by decide)) (by rw [hn1]; exact Nat.le_of_ble_eq_true rfl)) (fun zb hzb => ?_))
 have hX3 : ((([] ++ za.2) ++ zb.2) : List SX).map (·.2) = sane3 := by rw [List.map_append, hX1, hzb]; rfl
 have hXl3 := of_snd (p := fun s => s.ls.length ≤ 1000000) hX3 (by decide)
 have hn3 : ((([] ++ za.2) ++ zb.2) : List SX).length = 3 := len_snd hX3
 obtain ⟨p0, hp0, hp2⟩ : ∃ p0 : SX, ((([] ++ za.2) ++ zb.2) : List SX)[1]? = some p0 ∧ p0.2 = oneS 6 1 := by
   have h8 := congrArg (fun l : List Stm => l[1]?) hX3
   rw [List.getElem?_map] at h8
   exact Option.map_eq_some_iff.1 h8
 refine RX.cons rfl rfl (op_w (yw_assign rfl rfl) rfl rfl ?_)
 refine RX.nil (XX.next (V' := [(1, _), (2, _), (3, _), (4, _), (5, _)]) ⟨rfl, rfl, rfl, rfl, rfl, trivial⟩ ?_)
 refine CX.seq ?_
 refine CX.region ?_
 refine RX.cons rfl rfl (op_w (yw_move rfl rfl) rfl rfl ?_)
 refine RX.cons rfl rfl (op_callE rfl rfl rfl rfl rfl ent_14 (fun w hw => w_prove (([] ++ za.2) ++ zb.2) (hw.logAt (i := 0) rfl) hXl3 (by omega) (hG.keep hw (by simp)) 1 p0 hp0) (fun zq _ => ?_))
 refine RX.cons rfl rfl (op_w (yw_move rfl rfl) rfl rfl ?_)
 refine RX.cons rfl rfl (op_w (yw_extract rfl rfl rfl) rfl rfl ?_)
 refine RX.cons rfl rfl (op_w (yw_extract rfl rfl rfl) rfl rfl ?_)
 refine RX.cons rfl rfl (op_alloc rfl rfl rfl zero_28 fun g6 => ?_)
 refine RX.cons rfl rfl (op_storeAll (i := 0) rfl rfl rfl rfl szt_28 rfl (plain_of rfl) rfl rfl ?_)
 refine RX.cons rfl rfl (op_w (yw_assign rfl rfl) rfl rfl ?_)
 refine RX.nil (XX.next (V' := [(1, _), (2, _), (3, _), (4, _), (5, _), (6, _), (7, _)]) ⟨rfl, rfl, rfl, rfl, rfl, rfl, rfl, trivial⟩ ?_)
 refine CX.seq ?_
 refine CX.region ?_
 refine RX.cons rfl rfl (op_w (yw_move rfl rfl) rfl rfl ?_)
 refine RX.cons rfl rfl (op_callV (v := .tuple #[.agg (#[.int .i64 0, .int .i64 0, .slice none 0 0, .int .i64 0, .int .i64 0, .string .empty, .slice none 0 0]), .int .i64 2]) rfl rfl rfl rfl rfl ent_14 (fun w hw => w_proveBad (([] ++ za.2) ++ zb.2) (hw.logAt (i := 3) rfl) hXl3 (by omega) 3 (.inr (by rw [hn3]; decide))) ?_)
 refine RX.cons rfl rfl (op_w (yw_move rfl rfl) rfl rfl ?_)
 refine RX.cons rfl rfl (op_w (yw_extract rfl rfl rfl) rfl rfl ?_)
 refine RX.cons rfl rfl (op_w (yw_extract rfl rfl rfl) rfl rfl ?_)
 refine RX.cons rfl rfl (op_alloc rfl rfl rfl zero_28 fun g8 => ?_)
 refine RX.cons rfl rfl (op_storeAll (i := 0) rfl rfl rfl rfl szt_28 rfl (plain_of rfl) rfl rfl ?_)
 refine RX.cons rfl rfl (op_w (yw_assign rfl rfl) rfl rfl ?_)
 refine RX.nil (XX.next (V' := [(1, _), (2, _), (3, _), (4, _), (5, _), (6, _), (7, _), (9, _)]) ⟨rfl, rfl, rfl, rfl, rfl, rfl, rfl, rfl, trivial⟩ ?_)
 refine CX.seq ?_
 refine CX.region ?_
 refine RX.cons rfl rfl (op_w (yw_move rfl rfl) rfl rfl ?_)
 refine RX.cons rfl rfl (op_callE rfl rfl rfl rfl rfl ent_16 (fun w hw => w_logExt (([] ++ za.2) ++ zb.2) (hw.logAt (i := 4) rfl) hXl3 (by omega) (hG.keep hw (by simp)) 1 (by omega)) (fun ze _ => ?_))
 refine RX.cons rfl rfl (op_w (yw_move rfl rfl) rfl rfl ?_)
 refine RX.cons rfl rfl (op_w (yw_extract rfl rfl rfl) rfl rfl ?_)
 refine RX.cons rfl rfl (op_w (yw_extract rfl rfl rfl) rfl rfl ?_)
 refine RX.cons rfl rfl (op_w (yw_assign rfl rfl) rfl rfl ?_)
 refine RX.cons rfl rfl (op_w (yw_assign rfl rfl) rfl rfl ?_)
 refine RX.nil (XX.next (V' := [(1, _), (2, _), (3, _), (4, _), (5, _), (6, _), (7, _), (9, _), (10, _), (11, _)]) ⟨rfl, rfl, rfl, rfl, rfl, rfl, rfl, rfl, rfl, rfl, trivial⟩ ?_)
 refine CX.seq ?_
 refine CX.region ?_
 refine RX.cons rfl rfl (op_w (yw_move rfl rfl) rfl rfl ?_)
 refine RX.cons rfl rfl (op_callV (v := .tuple #[.slice none 0 0, .int .i64 2]) rfl rfl rfl rfl rfl ent_16 (fun w hw => w_logExtBad (([] ++ za.2) ++ zb.2) (hw.logAt (i := 5) rfl) hXl3 (by omega) 4 (.inr (by rw [hn3]; decide))) ?_)
 refine RX.cons rfl rfl (op_w (yw_move rfl rfl) rfl rfl ?_)
 refine RX.cons rfl rfl (op_w (yw_extract rfl rfl rfl) rfl rfl ?_)
 refine RX.cons rfl rfl (op_w (yw_extract rfl rfl rfl) rfl rfl ?_)
 refine RX.cons rfl rfl (op_w (yw_assign rfl rfl) rfl rfl ?_)
 refine RX.cons rfl rfl (op_w (yw_assign rfl rfl) rfl rfl ?_)
 refine RX.nil (XX.next (V' := [(1, _), (2, _), (3, _), (4, _), (5, _), (6, _), (7, _), (9, _), (10, _), (11, _), (13, _)]) ⟨rfl, rfl, rfl, rfl, rfl, rfl, rfl, rfl, rfl, rfl, rfl, trivial⟩ ?_)
 refine CX.seq ?_
 refine CX.region ?_
 refine RX.cons rfl rfl (op_w (yw_move rfl rfl) rfl rfl ?_)
 refine RX.cons rfl rfl (op_w (yw_build (v := .agg (#[.int .i64 (-1), .int .i64 0, .slice none 0 0])) rfl rfl (fun _ => by kernel_rfl)) rfl rfl ?_)
 refine RX.cons rfl rfl (op_buildSlice rfl rfl rfl slb_33 rfl rfl (by intro v hv; simp only [List.mem_cons, List.not_mem_nil, or_false] at hv; subst hv; exact ⟨rfl, (plain_of rfl)⟩) (by decide) fun r3 => ?_)
 refine RX.cons rfl rfl (op_callP [logE zx zb.1 (([] ++ za.2) ++ zb.2)] [.row (some ⟨r3, 0, none⟩) 1 25 3 (List.map stC ([(((none, 0), ⟨-1, 0, []⟩) : SX)])), .row ze.1 ze.2 9 1 (List.map strC (extX (([] ++ za.2) ++ zb.2) 1)), .blk g8 (.cells (#[.int .i64 0, .int .i64 0, .slice none 0 0, .int .i64 0, .int .i64 0, .string .empty, .slice none 0 0]) 28 (0, 0)), .blk g6 (.cells (prC p0.2 1 (List.length ((([] ++ za.2) ++ zb.2) : List SX)) (saltX (([] ++ za.2) ++ zb.2) 1) ((path sum (entsX (([] ++ za.2) ++ zb.2)) 1).reverse) zq) 28 (0, 0)), .row zq.1.1 zq.1.2 77 3 (List.map lnC (Stm.ls p0.2)), .row zq.2.1 zq.2.2 9 1 (List.map strC ((path sum (entsX (([] ++ za.2) ++ zb.2)) 1).reverse)), .row (some ⟨r2, 0, none⟩) 2 25 3 (List.map stC ([(((some ⟨o2, 0, none⟩, 1), oneS 6 1) : SX), (((some ⟨o3, 0, none⟩, 1), oneS 7 2) : SX)])), .row (some ⟨o3, 0, none⟩) 1 77 3 (List.map lnC (Stm.ls (oneS 7 2))), .row (some ⟨o2, 0, none⟩) 1 77 3 (List.map lnC (Stm.ls (oneS 6 1))), .row (some ⟨r1, 0, none⟩) 1 25 3 (List.map stC ([(((some ⟨o1, 0, none⟩, 1), oneS 5 1) : SX)])), .row (some ⟨o1, 0, none⟩) 1 77 3 (List.map lnC (Stm.ls (oneS 5 1)))] rfl rfl rfl rfl rfl ent_7 ((perm_pick 6 rfl).trans (List.Perm.cons _ (List.Perm.refl _))) (σ := Unit) (val := fun _ => .int .i64 240) (LL := fun _ => [logE zx zb.1 (([] ++ za.2) ++ zb.2)]) (post := fun _ => True) (fun w hw hs => (w_appendBadE (([] ++ za.2) ++ zb.2) ([(((none, 0), ⟨-1, 0, []⟩) : SX)]) (Ent.rd (hw.ents _ (List.mem_of_getElem? (i := 1) rfl))) (by intro x hx; simp only [List.mem_singleton] at hx; subst hx; exact Rd.nil _ _ _) (fun _ => hw.apartA (hw.no0 (by simp) hG) 0 rfl) (by intro x hx h; simp only [List.mem_singleton] at hx; subst hx; exact absurd rfl h) (by intro x hx; simp only [List.mem_singleton] at hx; subst hx; exact Nat.le_of_ble_eq_true rfl) (by decide) hs (by intro h; exact absurd (h _ List.mem_cons_self) (by decide))).mono fun e w' h => ⟨(), trivial, h⟩) (fun _ _ => ?_))
 refine RX.cons rfl rfl (op_w (yw_assign rfl rfl) rfl rfl ?_)
 refine RX.nil (XX.next (V' := [(1, _), (2, _), (3, _), (4, _), (5, _), (6, _), (7, _), (9, _), (10, _), (11, _), (13, _), (14, _)]) ⟨rfl, rfl, rfl, rfl, rfl, rfl, rfl, rfl, rfl, rfl, rfl, rfl, trivial⟩ ?_)
 refine CX.seq ?_
 refine CX.draw 77 [(0, 4, 144115188075855872), (1, 144115188075855872, 288230376151711744), (2, 288230376151711752, 576460752303423488), (6, 864691128455135232, 1152921504606846976), (10, 1441151880758558720, 2305843009213693952), (18, 2305843009213693952, 4611686018427387904), (32, 4611686018427387936, 9223372036854775808), (96, 13835058055282163712, 18446744073709551616), (160, 23058430092136939520, 36893488147419103232), (288, 36893488147419103232, 73786976294838206464), (512, 73786976294838206592, 147573952589676412928), (1536, 221360928884514619392, 295147905179352825856), (2560, 368934881474191032320, 590295810358705651712), (4608, 590295810358705651712, 1180591620717411303424), (8192, 1180591620717411303488, 2361183241434822606848), (24576, 3541774862152233910272, 4722366482869645213696), (40960, 5902958103587056517120, 9444732965739290427392), (73728, 10625324586456701730816, 18889465931478580854784), (139264, 18889465931478580854784, 37778931862957161709568), (262144, 37778931862957161709632, 75557863725914323419136), (786432, 113336795588871485128704, 151115727451828646838272), (1310720, 188894659314785808547840, 302231454903657293676544), (2359296, 340010386766614455386112, 604462909807314587353088), (4456448, 604462909807314587353088, 1208925819614629174706176), (8388608, 1208925819614629174706240, 2417851639229258349412352), (25165824, 3626777458843887524118528, 4835703278458516698824704), (41943040, 6044629098073145873530880, 9671406556917033397649408), (75497472, 10880332376531662572355584, 19342813113834066795298816), (142606336, 20551738933448695970004992, 38685626227668133590597632), (276824064, 38685626227668133590597632, 77371252455336267181195264), (536870912, 77371252455336267181195328, 154742504910672534362390528), (1610612736, 232113757366008801543585792, 309485009821345068724781056), (2684354560, 386856262276681335905976320, 618970019642690137449562112), (4831838208, 696341272098026404630757376, 1237940039285380274899124224), (9126805504, 1315311291740716542080319488, 2475880078570760549798248448), (17716740096, 2475880078570760549798248448, 4951760157141521099596496896), (34359738368, 4951760157141521099596496898, 9903520314283042199192993792), (103079215104, 14855280471424563298789490688, 19807040628566084398385987584), (34359738368, 4951760157141521099596496960, 39614081257132168796771975168), (446676598784, 64372882042839774294754459648, 79228162514264337593543950336), (584115552256, 84179922671405858693140447232, 158456325028528675187087900672), (1649267441664, 158456325028528675187087900672, 316912650057057350374175801344), (2199023255552, 316912650057057350374175801360, 633825300114114700748351602688), (2199023255552, 316912650057057350374175801408, 1267650600228229401496703205376), (15393162788864, 2218388550399401452619230609408, 2535301200456458802993406410752), (19791209299968, 2852213850513516153367582212096, 5070602400912917605986812821504), (37383395344384, 5387515050969974956360988622848, 10141204801825835211973625643008), (87960930222080, 10141204801825835211973625643008, 20282409603651670423947251286016), (140737488355328, 20282409603651670423947251286528, 40564819207303340847894502572032), (422212465065984, 60847228810955011271841753858048, 81129638414606681695789005144064), (703687441776640, 101412048018258352119736256430080, 162259276829213363391578010288128), (1266637395197952, 162259276829213363391578010288128, 324518553658426726783156020576256), (2251799813685248, 324518553658426726783156020578304, 649037107316853453566312041152512), (6755399441055744, 973555660975280180349468061728768, 1298074214633706907132624082305024), (11258999068426240, 1622592768292133633915780102881280, 2596148429267413814265248164610048), (20266198323167232, 2596148429267413814265248164610048, 5192296858534827628530496329220096), (36028797018963968, 5192296858534827628530496329220112, 10384593717069655257060992658440192), (36028797018963968, 5192296858534827628530496329220098, 20769187434139310514121985316880384), (180143985094819840, 25961484292674138142652481646100480, 41538374868278621028243970633760768), (36028797018963968, 5192296858534827628530496329221120, 83076749736557242056487941267521536), (972777519512027136, 140192015180440345970323400888942592, 166153499473114484112975882535043072), (1188950301625810944, 171345796331649311741506378864263168, 332306998946228968225951765070086144), (3458764513820540928, 332306998946228968225951765070086144, 664613997892457936451903530140172288), (4611686018427387904, 664613997892457936451903530140180480, 1329227995784915872903807060280344576), (13835058055282163712, 1993841993677373809355710590420516864, 2658455991569831745807614120560689152), (23058430092136939520, 3323069989462289682259517650700861440, 5316911983139663491615228241121378304), (41505174165846491136, 5316911983139663491615228241121378304, 10633823966279326983230456482242756608), (73786976294838206464, 10633823966279326983230456482242772992, 21267647932558653966460912964485513216), (221360928884514619392, 31901471898837980949691369446728269824, 42535295865117307932921825928971026432), (368934881474191032320, 53169119831396634916152282411213783040, 85070591730234615865843651857942052864), (664082786653543858176, 85070591730234615865843651857942052864, 170141183460469231731687303715884105728), (1180591620717411303424, 170141183460469231731687303715884105730, 340282366920938463463374607431768211456), (3541774862152233910272, 510423550381407695195061911147652317184, 680564733841876926926749214863536422912), (5902958103587056517120, 850705917302346158658436518579420528640, 1361129467683753853853498429727072845824), (10625324586456701730816, 1531270651144223085585185733442956951552, 2722258935367507707706996859454145691648), (20070057552195992158208, 2892400118827976939438684163170029797376, 5444517870735015415413993718908291383296), (75557863725914323419135, 5444517870735015415413993718908291383296, 1)] (by kernel_rfl) (by kernel_rfl) (by kernel_rfl) ?_
 refine DX.takeW 0 1 (by kernel_rfl) rfl rfl rfl rfl rfl (yw_move rfl rfl) ?_
 refine DX.takeW 1 3 (by kernel_rfl) rfl rfl rfl rfl rfl (yw_move rfl rfl) ?_
 refine DX.takeWG 2 7 (by kernel_rfl) rfl rfl rfl rfl rfl rfl rfl rfl (yw_move rfl rfl) ?_
 refine DX.takeWG 3 15 (by kernel_rfl) rfl rfl rfl rfl rfl rfl rfl rfl (yw_eql rfl rfl rfl) ?_
 refine DX.know (t := 60) (u := .bool true) rfl rfl ?_
 refine DX.takeW 4 31 (by kernel_rfl) rfl rfl rfl rfl rfl (yw_pickT rfl rfl rfl) ?_
 refine DX.takeW 5 63 (by kernel_rfl) rfl rfl rfl rfl rfl (yw_move rfl rfl) ?_
 refine DX.takeWG 6 127 (by kernel_rfl) rfl rfl rfl rfl rfl rfl rfl rfl (yw_move rfl rfl) ?_
 refine DX.takeWG 7 255 (by kernel_rfl) rfl rfl rfl rfl rfl rfl rfl rfl (yw_eql rfl rfl rfl) ?_
 refine DX.know (t := 64) (u := .bool true) rfl rfl ?_
 refine DX.takeW 8 511 (by kernel_rfl) rfl rfl rfl rfl rfl (yw_pickT rfl rfl rfl) ?_
 refine DX.takeW 9 1023 (by kernel_rfl) rfl rfl rfl rfl rfl (yw_move rfl rfl) ?_
 refine DX.takeWG 10 2047 (by kernel_rfl) rfl rfl rfl rfl rfl rfl rfl rfl (yw_move rfl rfl) ?_
 refine DX.takeWG 11 4095 (by kernel_rfl) rfl rfl rfl rfl rfl rfl rfl rfl (yw_eql rfl rfl rfl) ?_
 refine DX.know (t := 68) (u := .bool true) rfl rfl ?_
 refine DX.takeW 12 8191 (by kernel_rfl) rfl rfl rfl rfl rfl (yw_pickT rfl rfl rfl) ?_
 refine DX.takeW 13 16383 (by kernel_rfl) rfl rfl rfl rfl rfl (yw_move rfl rfl) ?_
 refine DX.takeWG 14 32767 (by kernel_rfl) rfl rfl rfl rfl rfl rfl rfl rfl (yw_fieldAddr rfl fld_28_1 rfl) ?_
 refine DX.takeG 15 65535 (by kernel_rfl) rfl rfl rfl rfl rfl rfl rfl rfl (List.Sublist.refl _) (y_load (i := 4) rfl rfl one_3 rfl rfl) ?_
 refine DX.takeWG 16 131071 (by kernel_rfl) rfl rfl rfl rfl rfl rfl rfl rfl (yw_eql rfl rfl rfl) ?_
 refine DX.know (t := 73) (u := .bool true) rfl (congrArg Value.bool (by decide)) ?_
 refine DX.takeW 17 262143 (by kernel_rfl) rfl rfl rfl rfl rfl (yw_pickT rfl rfl rfl) ?_
 refine DX.takeW 18 524287 (by kernel_rfl) rfl rfl rfl rfl rfl (yw_move rfl rfl) ?_
 refine DX.takeWG 19 1048575 (by kernel_rfl) rfl rfl rfl rfl rfl rfl rfl rfl (yw_fieldAddr rfl fld_28_2 rfl) ?_
 refine DX.takeG 20 2097151 (by kernel_rfl) rfl rfl rfl rfl rfl rfl rfl rfl (List.Sublist.refl _) (y_load (i := 4) rfl rfl one_3 rfl rfl) ?_
 refine DX.takeWG 21 4194303 (by kernel_rfl) rfl rfl rfl rfl rfl rfl rfl rfl (yw_eql rfl rfl rfl) ?_
 refine DX.know (t := 78) (u := .bool true) rfl (congrArg Value.bool (decide_eq_true (by omega))) ?_
 refine DX.takeW 22 8388607 (by kernel_rfl) rfl rfl rfl rfl rfl (yw_pickT rfl rfl rfl) ?_
 refine DX.takeW 23 16777215 (by kernel_rfl) rfl rfl rfl rfl rfl (yw_move rfl rfl) ?_
 refine DX.takeWG 24 33554431 (by kernel_rfl) rfl rfl rfl rfl rfl rfl rfl rfl (yw_field0 rfl fld_28_0 rfl) ?_
 refine DX.takeWG 25 67108863 (by kernel_rfl) rfl rfl rfl rfl rfl rfl rfl rfl (yw_field0 rfl fld_25_0 rfl) ?_
 refine DX.takeG 26 134217727 (by kernel_rfl) rfl rfl rfl rfl rfl rfl rfl rfl (List.Sublist.refl _) (y_load (i := 4) rfl rfl one_3 rfl rfl) ?_
 refine DX.takeWG 27 268435455 (by kernel_rfl) rfl rfl rfl rfl rfl rfl rfl rfl (yw_eql rfl rfl rfl) ?_
 refine DX.know (t := 84) (u := .bool true) rfl (congrArg Value.bool (decide_eq_true (by rw [hp2]; rfl))) ?_
 refine DX.takeW 28 536870911 (by kernel_rfl) rfl rfl rfl rfl rfl (yw_pickT rfl rfl rfl) ?_
 refine DX.takeW 29 1073741823 (by kernel_rfl) rfl rfl rfl rfl rfl (yw_move rfl rfl) ?_
 refine DX.takeWG 30 2147483647 (by kernel_rfl) rfl rfl rfl rfl rfl rfl rfl rfl (yw_fieldAddr rfl fld_28_3 rfl) ?_
 refine DX.takeG 31 4294967295 (by kernel_rfl) rfl rfl rfl rfl rfl rfl rfl rfl (List.Sublist.refl _) (y_load (i := 4) rfl rfl one_9 rfl rfl) ?_
 refine DX.takeWG 32 8589934591 (by kernel_rfl) rfl rfl rfl rfl rfl rfl rfl rfl (yw_lenStr rfl Tryz.underlying9 rfl) ?_
 refine DX.takeWG 33 17179869183 (by kernel_rfl) rfl rfl rfl rfl rfl rfl rfl rfl (yw_eql rfl rfl rfl) ?_
 refine DX.know (t := 90) (u := .bool true) rfl (congrArg Value.bool (decide_eq_true (by rw [saltX_size]; rfl))) ?_
 refine DX.takeW 34 34359738367 (by kernel_rfl) rfl rfl rfl rfl rfl (yw_pickT rfl rfl rfl) ?_
 refine DX.takeW 35 68719476735 (by kernel_rfl) rfl rfl rfl rfl rfl (yw_move rfl rfl) ?_
 refine DX.takeWG 36 137438953471 (by kernel_rfl) rfl rfl rfl rfl rfl rfl rfl rfl (yw_move rfl rfl) ?_
 refine DX.takeG 38 412316860415 (by kernel_rfl) rfl rfl rfl rfl rfl rfl rfl rfl (List.Sublist.refl _) (y_loadA (i := 4) rfl rfl agg_28 rfl rfl) ?_
 refine DX.stepG 37 549755813887 (by kernel_rfl) rfl rfl rfl rfl rfl rfl (op_callV (v := .string (root sum (entsX (([] ++ za.2) ++ zb.2)))) rfl rfl rfl rfl rfl ent_9 (fun w hw => w_rootE (([] ++ za.2) ++ zb.2) (hw.logAt (i := 0) rfl) hXl3 (by omega) (hG.keep hw (by simp))) (DXs.mk (List.Sublist.refl _) ?_))
 refine DX.stepG 39 1099511627775 (by kernel_rfl) rfl rfl rfl rfl rfl rfl (op_callV (v := .bool (okS p0.2 && (decide (ByteArray.size (saltX (([] ++ za.2) ++ zb.2) 1) = 32) && verN (root sum (entsX (([] ++ za.2) ++ zb.2))) (List.length ((([] ++ za.2) ++ zb.2) : List SX)) 1 ((saltX (([] ++ za.2) ++ zb.2) 1) ++ encS p0.2) ((path sum (entsX (([] ++ za.2) ++ zb.2)) 1).reverse)))) rfl rfl rfl rfl rfl ent_19 (fun w hw => w_logVerify (root sum (entsX (([] ++ za.2) ++ zb.2))) p0.2 1 (List.length ((([] ++ za.2) ++ zb.2) : List SX)) (saltX (([] ++ za.2) ++ zb.2) 1) ((path sum (entsX (([] ++ za.2) ++ zb.2)) 1).reverse) zq (hG.keep hw (by simp)) (Ent.rd (hw.ents _ (List.mem_of_getElem? (i := 5) rfl))) (by rw [hp2]; decide) (Ent.rd (hw.ents _ (List.mem_of_getElem? (i := 6) rfl))) (by have h8 := Ent.capLe (hw.ents _ (List.mem_of_getElem? (i := 6) rfl)); rwa [List.length_map] at h8) (by have := path_len (([] ++ za.2) ++ zb.2) 1; omega) (by omega) (by omega) (by rw [saltX_size]; decide)) (DXs.mk (List.Sublist.refl _) ?_))
 refine DX.know (t := 96) (u := .bool true) rfl (congrArg Value.bool (by rw [hp2, show okS (oneS 6 1) = true from by decide, saltX_size, ← hp2, prove_verifies hp0]; rfl)) ?_
 refine DX.takeW 40 2199023255551 (by kernel_rfl) rfl rfl rfl rfl rfl (yw_pickT rfl rfl rfl) ?_
 refine DX.takeW 41 4398046511103 (by kernel_rfl) rfl rfl rfl rfl rfl (yw_move rfl rfl) ?_
 refine DX.takeWG 42 8796093022207 (by kernel_rfl) rfl rfl rfl rfl rfl rfl rfl rfl (yw_move rfl rfl) ?_
 refine DX.takeG 43 17592186044415 (by kernel_rfl) rfl rfl rfl rfl rfl rfl rfl rfl (List.Sublist.refl _) (y_loadA (i := 4) rfl rfl agg_28 rfl rfl) ?_
 refine DX.stepG 44 35184372088831 (by kernel_rfl) rfl rfl rfl rfl rfl rfl (op_callV (v := .bool (okS p0.2 && (decide (ByteArray.size (saltX (([] ++ za.2) ++ zb.2) 1) = 32) && verN (root sum (entsX ([] ++ za.2))) (List.length ((([] ++ za.2) ++ zb.2) : List SX)) 1 ((saltX (([] ++ za.2) ++ zb.2) 1) ++ encS p0.2) ((path sum (entsX (([] ++ za.2) ++ zb.2)) 1).reverse)))) rfl rfl rfl rfl rfl ent_19 (fun w hw => w_logVerify (root sum (entsX ([] ++ za.2))) p0.2 1 (List.length ((([] ++ za.2) ++ zb.2) : List SX)) (saltX (([] ++ za.2) ++ zb.2) 1) ((path sum (entsX (([] ++ za.2) ++ zb.2)) 1).reverse) zq (hG.keep hw (by simp)) (Ent.rd (hw.ents _ (List.mem_of_getElem? (i := 5) rfl))) (by rw [hp2]; decide) (Ent.rd (hw.ents _ (List.mem_of_getElem? (i := 6) rfl))) (by have h8 := Ent.capLe (hw.ents _ (List.mem_of_getElem? (i := 6) rfl)); rwa [List.length_map] at h8) (by have := path_len (([] ++ za.2) ++ zb.2) 1; omega) (by omega) (by omega) (by rw [saltX_size]; decide)) (DXs.mk (List.Sublist.refl _) ?_))
 refine DX.know (t := 101) (u := .bool false) rfl (congrArg Value.bool (by rw [prove_else hp0 (sane_ne hX3 hX1)]; simp)) ?_
 refine DX.takeWG 45 70368744177663 (by kernel_rfl) rfl rfl rfl rfl rfl rfl rfl rfl (yw_not rfl rfl) ?_
 refine DX.takeW 46 140737488355327 (by kernel_rfl) rfl rfl rfl rfl rfl (yw_pickT rfl rfl rfl) ?_
 refine DX.takeW 47 281474976710655 (by kernel_rfl) rfl rfl rfl rfl rfl (yw_move rfl rfl) ?_
 refine DX.takeWG 48 562949953421311 (by kernel_rfl) rfl rfl rfl rfl rfl rfl rfl rfl (yw_move rfl rfl) ?_
 refine DX.takeWG 49 1125899906842623 (by kernel_rfl) rfl rfl rfl rfl rfl rfl rfl rfl (yw_eql rfl rfl rfl) ?_
 refine DX.know (t := 106) (u := .bool true) rfl rfl ?_
 refine DX.takeW 50 2251799813685247 (by kernel_rfl) rfl rfl rfl rfl rfl (yw_pickT rfl rfl rfl) ?_
 refine DX.takeW 51 4503599627370495 (by kernel_rfl) rfl rfl rfl rfl rfl (yw_move rfl rfl) ?_
 refine DX.takeWG 52 9007199254740991 (by kernel_rfl) rfl rfl rfl rfl rfl rfl rfl rfl (yw_move rfl rfl) ?_
 refine DX.takeWG 53 18014398509481983 (by kernel_rfl) rfl rfl rfl rfl rfl rfl rfl rfl (yw_eql rfl rfl rfl) ?_
 refine DX.know (t := 110) (u := .bool true) rfl rfl ?_
 refine DX.takeW 54 36028797018963967 (by kernel_rfl) rfl rfl rfl rfl rfl (yw_pickT rfl rfl rfl) ?_
 refine DX.takeW 55 72057594037927935 (by kernel_rfl) rfl rfl rfl rfl rfl (yw_move rfl rfl) ?_
 refine DX.takeWG 56 144115188075855871 (by kernel_rfl) rfl rfl rfl rfl rfl rfl rfl rfl (yw_move rfl rfl) ?_
 refine DX.takeWG 57 288230376151711743 (by kernel_rfl) rfl rfl rfl rfl rfl rfl rfl rfl (yw_move rfl rfl) ?_
 refine DX.takeWG 59 864691128455135231 (by kernel_rfl) rfl rfl rfl rfl rfl rfl rfl rfl (yw_move rfl rfl) ?_
 refine DX.stepG 58 1152921504606846975 (by kernel_rfl) rfl rfl rfl rfl rfl rfl (op_callV (v := .string (root sum (entsX (([] ++ za.2) ++ zb.2)))) rfl rfl rfl rfl rfl ent_9 (fun w hw => w_rootE (([] ++ za.2) ++ zb.2) (hw.logAt (i := 0) rfl) hXl3 (by omega) (hG.keep hw (by simp))) (DXs.mk (List.Sublist.refl _) ?_))
 refine DX.stepG 60 2305843009213693951 (by kernel_rfl) rfl rfl rfl rfl rfl rfl (op_callV (v := .bool (verX (root sum (entsX ([] ++ za.2))) 1 (root sum (entsX (([] ++ za.2) ++ zb.2))) 3 (extX (([] ++ za.2) ++ zb.2) 1))) rfl rfl rfl rfl rfl ent_23 (fun w hw => w_verX (root sum (entsX ([] ++ za.2))) 1 (root sum (entsX (([] ++ za.2) ++ zb.2))) 3 (extX (([] ++ za.2) ++ zb.2) 1) (hG.keep hw (by simp)) (Ent.rd (hw.ents _ (List.mem_of_getElem? (i := 2) rfl))) (by have h8 := Ent.capLe (hw.ents _ (List.mem_of_getElem? (i := 2) rfl)); rwa [List.length_map] at h8) (by have := extX_length (([] ++ za.2) ++ zb.2) 1; omega) (by decide) (by decide) (extX_sizes _ _) (root_size' _) (root_size' _)) (DXs.mk (List.Sublist.refl _) ?_))
 refine DX.know (t := 117) (u := .bool true) rfl (congrArg Value.bool (by have h8 := ext_verifies (X := (([] ++ za.2) ++ zb.2)) (Y := ([] ++ za.2)) (m := 1) (by omega) (by rw [List.map_take, hX3, hX1]; rfl); rw [hn3] at h8; exact h8)) ?_
 refine DX.takeW 61 4611686018427387903 (by kernel_rfl) rfl rfl rfl rfl rfl (yw_pickT rfl rfl rfl) ?_
 refine DX.takeW 62 9223372036854775807 (by kernel_rfl) rfl rfl rfl rfl rfl (yw_move rfl rfl) ?_
 refine DX.takeWG 63 18446744073709551615 (by kernel_rfl) rfl rfl rfl rfl rfl rfl rfl rfl (yw_move rfl rfl) ?_
 refine DX.takeWG 64 36893488147419103231 (by kernel_rfl) rfl rfl rfl rfl rfl rfl rfl rfl (yw_eql rfl rfl rfl) ?_
 refine DX.know (t := 121) (u := .bool true) rfl rfl ?_
 refine DX.takeW 65 73786976294838206463 (by kernel_rfl) rfl rfl rfl rfl rfl (yw_pickT rfl rfl rfl) ?_
 refine DX.takeW 66 147573952589676412927 (by kernel_rfl) rfl rfl rfl rfl rfl (yw_move rfl rfl) ?_
 refine DX.takeWG 67 295147905179352825855 (by kernel_rfl) rfl rfl rfl rfl rfl rfl rfl rfl (yw_move rfl rfl) ?_
 refine DX.takeWG 68 590295810358705651711 (by kernel_rfl) rfl rfl rfl rfl rfl rfl rfl rfl (yw_eql rfl rfl rfl) ?_
 refine DX.know (t := 125) (u := .bool true) rfl rfl ?_
 refine DX.takeW 69 1180591620717411303423 (by kernel_rfl) rfl rfl rfl rfl rfl (yw_pickT rfl rfl rfl) ?_
 refine DX.takeW 70 2361183241434822606847 (by kernel_rfl) rfl rfl rfl rfl rfl (yw_move rfl rfl) ?_
 refine DX.takeWG 71 4722366482869645213695 (by kernel_rfl) rfl rfl rfl rfl rfl rfl rfl rfl (yw_move rfl rfl) ?_
 refine DX.stepG 72 9444732965739290427391 (by kernel_rfl) rfl rfl rfl rfl rfl rfl (op_callE rfl rfl rfl rfl rfl ent_12 (fun w hw => w_stmtsE (([] ++ za.2) ++ zb.2) (hw.logAt (i := 0) rfl) hXl3 (by omega)) (fun zs hzs => (DXs.mk (List.Sublist.cons _ (List.Sublist.cons _ (List.Sublist.refl _))) ?_)))
 refine DX.takeWG 73 18889465931478580854783 (by kernel_rfl) rfl rfl rfl rfl rfl rfl rfl rfl (yw_lenS rfl Tryz.underlying33 rfl) ?_
 refine DX.takeWG 74 37778931862957161709567 (by kernel_rfl) rfl rfl rfl rfl rfl rfl rfl rfl (yw_eql rfl rfl rfl) ?_
 refine DX.know (t := 131) (u := .bool true) rfl (congrArg Value.bool (decide_eq_true (by rw [len_snd hzs, List.length_map, hn3]; rfl))) ?_
 refine DX.takeW 75 75557863725914323419135 (by kernel_rfl) rfl rfl rfl rfl rfl (yw_pickT rfl rfl rfl) ?_
 refine DX.takeW 76 151115727451828646838271 (by kernel_rfl) rfl rfl rfl rfl rfl (yw_assign rfl rfl) ?_
 refine DX.done (by kernel_rfl) (XX.next (V' := [(0, .bool true)]) ⟨rfl, trivial⟩ ?_)
 refine CX.ret ?_
 exact ret_tmp rfl rfl fun w1 hw => ⟨rfl, hw.sub (List.nil_sublist _)⟩

end Go.Proofs.YtnadipjlhlbfoaaGreatDoor
namespace Go.Proofs.YtnadipjlhlbfoaaGreatDoor
set_option linter.all false
open Go Go.RowKit
section
variable {P : Program} {n : Nat} {D : List Deferred} {o : Oper} {V : List (Nat × Value)}
theorem yw_beql {t u : TypeId} {x y : Operand} {a b : Bool} (ho : o.op = .binOp .eql t x y u) (ht : P.underlying t = some .bool) (hx : ev V x = some (.bool a)) (hy : ev V y = some (.bool b)) : YldW P n D o V (.bool (a == b)) := by
  intro c w ha
  have h : ∀ d : Nat, (Op.equalIn (d + 1) t (.bool a) (.bool b)).run P w = .ok (a == b) w := fun d => by
    simp [Op.equalIn, run_underlying ht]
  simp [execOp, ho, ha.eval hx, ha.eval hy, eqGuard, binOp, Op.equal, Op.maxDepth, h 9999]
theorem yw_bneq {t u : TypeId} {x y : Operand} {a b : Bool} (ho : o.op = .binOp .neq t x y u) (ht : P.underlying t = some .bool) (hx : ev V x = some (.bool a)) (hy : ev V y = some (.bool b)) : YldW P n D o V (.bool (!(a == b))) := by
  intro c w ha
  have h : ∀ d : Nat, (Op.equalIn (d + 1) t (.bool a) (.bool b)).run P w = .ok (a == b) w := fun d => by
    simp [Op.equalIn, run_underlying ht]
  simp [execOp, ho, ha.eval hx, ha.eval hy, eqGuard, binOp, Op.equal, Op.maxDepth, h 9999]
end
end Go.Proofs.YtnadipjlhlbfoaaGreatDoor
namespace Go.Proofs.YtnadipjlhlbfoaaGreatDoor
set_option linter.all false
open Go Go.RowKit
theorem run_copy_head {P : Program} {w : World} {t ty e : TypeId} {sz bytes : Nat} {z : Value} (ht : SlB P t e sz bytes z) {A : Option Addr} {cap : Nat} {ds : List (Array Value)} (hrow : (Ent.row A cap e sz ds).sat w) {B : Option Addr} {c : Nat} {xs : List (Array Value)} (hB : Rd w B sz xs) (hl : xs.length ≤ ds.length) :
    ∃ w', (Builtin.copy_ #[t, t] ty #[.slice A ds.length cap, .slice B xs.length c]).run P w = .ok (.int .i64 ((xs.length : Nat) : Int)) w' ∧ (Ent.row A cap e sz (xs ++ ds.drop xs.length)).sat w' ∧ w.grownBy w' (A.map Addr.block) := by
  obtain ⟨i, hi, hz, hsz, hbb⟩ := ht.info
  rcases xs with _ | ⟨x, xs⟩
  · refine ⟨w, ?_, by simpa using hrow, World.grownBy.refl w _⟩
    have h0 : Nat.min 0 ds.length = 0 := Nat.zero_min _
    cases B with
    | none => cases A <;> simp [Builtin.copy_, run_underlying ht.under, Builtin.lenOf, Builtin.firstCells, sizeOf, typeInfo, hi, storeCells, goInt, h0]
    | some b => cases A <;> simp [Builtin.copy_, run_underlying ht.under, Builtin.lenOf, Builtin.firstCells, sizeOf, typeInfo, hi, storeCells, goInt, loadCells, loadCellsFrom, h0]
  · obtain ⟨⟨hd1, hd2⟩, hds⟩ := hrow
    rcases hd2 with ⟨hv, hn0⟩ | ⟨g, cp, cur, hv, hbg, hg, hnc, hcm, hcs, htake⟩
    · rw [hn0] at hl; simp at hl
    injection hv with h1 h2 h3
    subst h1; subst h3
    have hy := fun k c hk => hB.at_ k c hk
    obtain ⟨_, ⟨b, j, rfl⟩, _, _⟩ := hy 0 x (by simp)
    have hxs : ∀ c ∈ (x :: xs), c.size = sz ∧ ∀ u ∈ c.toList, u.oneCell' = true := by
      intro c hc
      obtain ⟨k, hk⟩ := List.mem_iff_getElem?.1 hc
      exact ⟨(hy k c hk).1, (hy k c hk).2.2.2.1⟩
    have hfl := flat_length (fun c hc => (hxs c hc).1)
    have hsrc : ∀ q u, (flat (x :: xs))[q]? = some u → w.cell? ((⟨b, j, none⟩ : Addr).add q) = some u := by
      intro q u hq
      have hqlt : q < (x :: xs).length * sz := by
        have := (List.getElem?_eq_some_iff.1 hq).1
        omega
      have hk : q / sz < (x :: xs).length := Nat.div_lt_of_lt_mul (by rw [Nat.mul_comm]; exact hqlt)
      have hr : q % sz < sz := Nat.mod_lt _ ht.pos
      have hqe : q = q / sz * sz + q % sz := by rw [Nat.mul_comm]; exact (Nat.div_add_mod q sz).symm
      have hget := flat_get (fun c hc => (hxs c hc).1) (List.getElem?_eq_getElem hk) hr
      rw [← hqe] at hget
      obtain ⟨_, _, _, _, hc⟩ := hy (q / sz) _ (List.getElem?_eq_getElem hk)
      have h1 := hc (q % sz) hr
      rw [add_none]
      rw [show ab (some ⟨b, j, none⟩) = b from rfl, show ao (some ⟨b, j, none⟩) = j from rfl, Nat.add_assoc, ← hqe] at h1
      rw [h1, ← hget, hq]
    have hle : (x :: xs).length * sz ≤ cap * sz := Nat.mul_le_mul_right _ (by omega)
    have hf := run_firstCells_some (P := P) w i.size (x :: xs).length ⟨b, j, none⟩ (x :: xs).length c (flat (x :: xs)) (by rw [hsz]; exact hfl) hsrc
    have hst := run_storeCells_at P g 0 e (flat (x :: xs)) 0 cur w hg (by rw [hcs, hfl]; omega) (fun u hu => by obtain ⟨c, hc, hcu⟩ := mem_flat.1 hu; exact (hxs c hc).2 u hcu)
    simp only [Nat.add_zero] at hst
    have hsplit : flat ds = flat (ds.take (x :: xs).length) ++ flat (ds.drop (x :: xs).length) := by rw [← flat_append, List.take_append_drop]
    have htl : (flat (ds.take (x :: xs).length)).length = (x :: xs).length * sz := by
      rw [flat_length (sz := sz) (fun c hc => (hds c (List.mem_of_mem_take hc)).1), List.length_take, Nat.min_eq_left hl]
    have hdl : (flat (ds.drop (x :: xs).length)).length = (ds.length - (x :: xs).length) * sz := by
      rw [flat_length (sz := sz) (fun c hc => (hds c (List.mem_of_mem_drop hc)).1), List.length_drop]
    have hall : ∀ c ∈ ((x :: xs) ++ ds.drop (x :: xs).length), c.size = sz ∧ ∀ u ∈ c.toList, u.oneCell' = true := by
      intro c hc
      rcases List.mem_append.1 hc with hc | hc
      · exact hxs c hc
      · exact hds c (List.mem_of_mem_drop hc)
    have hlen : ((x :: xs) ++ ds.drop (x :: xs).length).length = ds.length := by rw [List.length_append, List.length_drop]; omega
    refine ⟨w.setRow g (cur.toList.take 0 ++ flat (x :: xs) ++ cur.toList.drop (0 + (flat (x :: xs)).length)).toArray, ?_, ⟨⟨flat_length (fun c hc => (hall c hc).1), .inr ⟨g, cap, _, by rw [hlen], hbg, setRow_heap w g cur _ e _ hg, by rw [hlen]; exact hnc, hcm, ?_, ?_⟩⟩, hall⟩, ⟨rfl, rfl, rfl, by simp, fun k _ hk => setRow_other w g k _ (fun e => hk (by simp [e]))⟩⟩
    · have hmin : Nat.min (x :: xs).length ds.length = (x :: xs).length := Nat.min_eq_left hl
      simp at hmin hf hst
      have hmin' : Nat.min (xs.length + 1) ds.length = xs.length + 1 := by simpa using hmin
      simp [Builtin.copy_, run_underlying ht.under, Builtin.lenOf, sizeOf, typeInfo, hi, hmin', hf, hst, goInt]
    · simp only [List.size_toArray, List.length_append, List.length_take, List.length_drop, Array.length_toList, hfl, hcs]
      omega
    · simp only [Nat.zero_add, List.take_zero, List.nil_append]
      rw [hlen, flat_append, List.take_append, hfl]
      have e1 : (flat (x :: xs)).take (ds.length * sz) = flat (x :: xs) := List.take_of_length_le (by rw [hfl]; exact Nat.mul_le_mul_right _ hl)
      rw [e1, ← Nat.sub_mul]
      congr 1
      have e2 : (cur.toList.drop ((x :: xs).length * sz)).take ((ds.length - (x :: xs).length) * sz) = (cur.toList.take (ds.length * sz)).drop ((x :: xs).length * sz) := by
        rw [List.drop_take, Nat.sub_mul]
      rw [e2, htake, hsplit, List.drop_left' htl]
section
variable {P : Program} {w0 : World} {O : List Nat} {n : Nat} {D : List Deferred} {o : Oper} {V : List (Nat × Value)} {L : List Ent} {T : List (Nat × Value) → List Ent → Prop}
theorem op_copyHead {α : Type} (enc : α → Array Value) {x y : Operand} {t e : TypeId} {d i m k cap c sz bytes : Nat} {z : Value} {A B : Option Addr} {ds xs : List α} (ho : o.op = .call { callee := .builtin .copy, args := #[x, y], argTypes := #[t, t] }) (hd : o.dst = some d) (hdn : Nat.blt d n = true) (ht : SlB P t e sz bytes z)
    (hx : ev V x = some (.slice A m cap)) (hL : L[i]? = some (.row A cap e sz (ds.map enc))) (hm : ds.length = m) (hy : ev V y = some (.slice B k c)) (hk : xs.length = k) (hle : k ≤ m) (hr : ∀ w, SL w0 O w L → Rd w B sz (xs.map enc))
    (hT : T ((d, .int .i64 ((k : Nat) : Int)) :: V) (L.set i (.row A cap e sz ((xs ++ ds.drop k).map enc)))) : OpS P w0 O n D o V L T := by
  intro a w ha hw
  subst hm; subst hk
  obtain ⟨w', h1, h2, h3⟩ := run_copy_head (P := P) (w := w) (ty := o.type) (c := c) ht (hw.ents _ (List.mem_of_getElem? hL)) (hr w hw) (by rw [List.length_map, List.length_map]; exact hle)
  rw [List.length_map, List.length_map] at h1
  rw [List.length_map, ← List.map_drop, ← List.map_append] at h2
  have hr' : (execOp a.eval o).run P w = .ok (.value (.int .i64 ((xs.length : Nat) : Int))) w' := by
    simp only [execOp, ho, resolve, invoke, builtin, Sem.run_bind, Sem.run_pure, Result.andThen_ok, List.map_toArray, List.map_cons, List.map_nil, ha.eval hx, ha.eval hy, h1]
  unfold Does
  rw [hr', hd]
  refine ⟨_, _, hT, ha.put hdn _, hw.setI hL h3.os h3.tape h3.output h3.size h2 row_blocks_nodup (fun b hb => .inl hb) (fun k hk hkb => h3.block k hk (fun e => hkb ?_))⟩
  cases A with
  | none => cases e
  | some a =>
    injection e with e
    simp [Ent.blocks, e]
/-- append of elements that can be read. -/
theorem op_appendMR {α : Type} (enc : α → Array Value) {x y : Operand} {t e : TypeId} {d sz bytes i : Nat} {z : Value} {A B : Option Addr} {cap c m : Nat} {xs : List α} (ys : List α)
    (ho : o.op = .call { callee := .builtin .append, args := #[x, y], argTypes := #[t, t] }) (hd : o.dst = some d) (hdn : Nat.blt d n = true) (ht : SlB P t e sz bytes z) (hx : ev V x = some (.slice A xs.length cap)) (hL : L[i]? = some (.row A cap e sz (xs.map enc)))
    (hy : ev V y = some (.slice B m c)) (hm : ys.length = m) (hr : ∀ w, SL w0 O w L → Rd w B sz (ys.map enc)) (h63 : xs.length + ys.length ≤ 9223372036854775807) (hby : (xs.length + ys.length) * bytes ≤ 140737488355328)
    (hT : ∀ A' cap', T ((d, .slice A' (xs ++ ys).length cap') :: V) (L.set i (.row A' cap' e sz ((xs ++ ys).map enc)))) : OpS P w0 O n D o V L T := by
  subst hm
  have e1 : (xs.map enc).length = xs.length := List.length_map _
  have e2 : (xs.map enc ++ ys.map enc) = (xs ++ ys).map enc := List.map_append.symm
  refine op_append_core (xs := xs.map enc) (ys := ys.map enc) ho hd hdn ht (by rw [e1]; exact hx) hL hy (List.length_map _) hr (by rw [e1]; exact h63) (by rw [e1]; exact hby) fun A' cap' => ?_
  rw [e2, List.length_map]
  exact hT A' cap'
end
end Go.Proofs.YtnadipjlhlbfoaaGreatDoor
namespace Go.Proofs.YtnadipjlhlbfoaaGreatDoor
set_option linter.all false
open Go Go.RowKit
theorem flat_setF {sz : Nat} : ∀ {xs : List (Array Value)}, (∀ c ∈ xs, c.size = sz) → ∀ {k j : Nat} {c : Array Value} (v : Value), xs[k]? = some c → j < sz → flat (xs.set k (c.setIfInBounds j v)) = (flat xs).set (k * sz + j) v
  | [], _, k, j, c, v, h, _ => by simp at h
  | d :: xs, hs, 0, j, c, v, h, hj => by
    have hd := hs d List.mem_cons_self
    obtain rfl : d = c := by simpa using h
    have hdl : d.toList.length = sz := by rw [Array.length_toList, hd]
    rw [List.set_cons_zero, flat_cons, flat_cons, Nat.zero_mul, Nat.zero_add, List.set_append_left _ _ (by omega), Array.toList_setIfInBounds]
  | d :: xs, hs, k + 1, j, c, v, h, hj => by
    have hd := hs d List.mem_cons_self
    have hdl : d.toList.length = sz := by rw [Array.length_toList, hd]
    rw [List.set_cons_succ, flat_cons, flat_cons, flat_setF (fun c hc => hs c (List.mem_cons_of_mem _ hc)) v (by simpa using h) hj, List.set_append_right _ _ (by rw [Nat.add_mul]; omega), hdl]
    congr 2
    rw [Nat.add_mul]; omega
section
variable {P : Program} {w0 : World} {O : List Nat} {n : Nat} {D : List Deferred} {o : Oper} {V : List (Nat × Value)} {L : List Ent} {T : List (Nat × Value) → List Ent → Prop}
theorem op_storeElemF {t e : TypeId} {x y : Operand} {A : Option Addr} {cap sz k j i : Nat} {v : Value} {c : Array Value} {xs ys : List (Array Value)} (ho : o.op = .store t x y) (hd : o.dst = none) (hx : ev V x = some (.pointer (some ⟨ab A, ao A + k * sz + j, none⟩))) (hy : ev V y = some v) (hs : SzT P t 1)
    (hv : v.cells = #[v]) (h1 : v.oneCell' = true) (hL : L[i]? = some (.row A cap e sz xs)) (hk : xs[k]? = some c) (hj : j < sz) (hset : xs.set k (c.setIfInBounds j v) = ys)
    (hT : T V (L.set i (.row A cap e sz ys))) : OpS P w0 O n D o V L T := by
  intro a w ha hw
  subst hset
  have hkl := (List.getElem?_eq_some_iff.1 hk).1
  have hsat := hw.ents _ (List.mem_of_getElem? hL)
  obtain ⟨⟨hl, h2⟩, hxs⟩ := hsat
  have hcm' := hxs c (List.mem_of_getElem? hk)
  rcases h2 with ⟨hvv, hn⟩ | ⟨g, cp, cur, hvv, _, hg, hnc, hcm, hcs, htake⟩
  · omega
  · injection hvv with hA hn hc
    subst hA; subst hc
    have hle : (k + 1) * sz ≤ xs.length * sz := Nat.mul_le_mul_right _ hkl
    have hle2 : xs.length * sz ≤ cap * sz := Nat.mul_le_mul_right _ hnc
    rw [Nat.add_mul, Nat.one_mul] at hle
    have hx' : a.eval x = .pointer (some ⟨g, k * sz + j, none⟩) := by
      rw [ha.eval hx]
      show Value.pointer (some ⟨g, 0 + k * sz + j, none⟩) = _
      rw [Nat.zero_add]
    have hr := run_store_row (P := P) (w := w) (g := g) (j := k * sz + j) (v := v) hs (by rw [hv]; rfl) (by rw [hv]; intro u hu; simp at hu; rw [hu]; exact h1) hg (by omega)
    rw [hv] at hr
    have hr' : (execOp a.eval o).run P w = .ok .skip (w.setRow g (cur.toList.take (k * sz + j) ++ [v] ++ cur.toList.drop (k * sz + j + 1)).toArray) := by
      simp only [execOp, ho, hx', ha.eval hy, Instr.storeAt, Instr.sureAddr]
      simp only [Sem.run_bind, Sem.run_pure, Result.andThen_ok, hr]
    unfold Does
    rw [hr', hd]
    refine ⟨_, _, hT, ha, hw.setI hL rfl rfl rfl (by simp) ?_ row_blocks_nodup (fun b hb => .inl hb) (fun j _ hj => setRow_other w g j _ (by simpa [Ent.blocks] using hj))⟩
    have hxs' : ∀ d ∈ xs.set k (c.setIfInBounds j v), d.size = sz ∧ ∀ u ∈ d.toList, u.oneCell' = true := by
      intro d hd
      rcases List.mem_or_eq_of_mem_set hd with hd | rfl
      · exact hxs d hd
      · refine ⟨by rw [Array.size_setIfInBounds]; exact hcm'.1, fun u hu => ?_⟩
        rw [Array.toList_setIfInBounds] at hu
        rcases List.mem_or_eq_of_mem_set hu with hu | rfl
        · exact hcm'.2 u hu
        · exact h1
    have hclen : cur.toList.length = cap * sz := by rw [Array.length_toList]; exact hcs
    have hcur : cur.toList.take (k * sz + j) ++ [v] ++ cur.toList.drop (k * sz + j + 1) = cur.toList.set (k * sz + j) v := by
      rw [List.set_eq_take_append_cons_drop, if_pos (by omega), List.append_assoc]; rfl
    refine ⟨⟨by rw [flat_length (fun d hd => (hxs' d hd).1)], .inr ⟨g, cap, _, by simp, Nat.zero_le _, setRow_heap w g cur _ e _ hg, by simpa using hnc, hcm, ?_, ?_⟩⟩, hxs'⟩
    · rw [hcur, List.size_toArray, List.length_set, hclen]
    · rw [hcur, flat_setF (fun c hc => (hxs c hc).1) v hk hj, List.length_set, ← htake, List.toList_toArray, List.take_set]
end
section
variable {P : Program} {w0 : World} {O : List Nat} {n : Nat} {D : List Deferred} {V : List (Nat × Value)} {L : List Ent} {Q : Exit → Act → World → Prop} {c : Code} {r : Option Nat}
/-- An entry comes out of a pack. -/
theorem CX.packOut {L' : List Ent} {e : Ent} {es es' : List Ent} (hL : L.Perm (pack es :: L')) (he : es.Perm (e :: es')) (h : CX P r Q w0 O n D c V (e :: pack es' :: L')) : CX P r Q w0 O n D c V L := fun a w ha hw => by
  have h1 : SL w0 O w (pack es :: L') := hw.perm hL
  have h2 : SL w0 O w ((e :: es') ++ L') := h1.unpack.perm (he.append_right _)
  have h3 : SL w0 O w (es' ++ (e :: L')) := h2.perm (by
    rw [List.cons_append]
    exact List.perm_middle.symm)
  exact h a w ha (h3.pack.perm (List.Perm.swap _ _ _))
/-- .. and goes back into it, changed. -/
theorem CX.packIn {L' : List Ent} {e : Ent} {es es' : List Ent} (hL : L.Perm (e :: pack es' :: L')) (he : es.Perm (e :: es')) (h : CX P r Q w0 O n D c V (pack es :: L')) : CX P r Q w0 O n D c V L := fun a w ha hw => by
  have h1 : SL w0 O w (pack es' :: e :: L') := (hw.perm hL).perm (List.Perm.swap _ _ _)
  have h3 : SL w0 O w (es ++ L') := h1.unpack.perm (by
    refine List.perm_middle.trans ?_
    rw [← List.cons_append]
    exact (he.symm).append_right _)
  exact h a w ha h3.pack
end
/-- An entry known otherwise. -/
theorem DX.know1 {P : Program} {ops : Array Oper} {tab : Tab} {Q : Exit → Act → World → Prop} {w0 : World} {O : List Nat} {n : Nat} {D : List Deferred} {th fuel m : Nat} {LS : List Ent} {V : List (Nat × Value)} {L : List Ent} (i : Nat) {p q : Ent} (hL : L[i]? = some p) (e : p = q) (h : DX P ops tab Q w0 O n D th LS fuel m V (L.set i q)) : DX P ops tab Q w0 O n D th LS fuel m V L := by
  subst e
  have : L.set i p = L := by
    obtain ⟨hi, h⟩ := List.getElem?_eq_some_iff.1 hL
    subst h; exact List.set_getElem_self hi
  rw [this] at h
  exact h
theorem set_perm {α : Type} : ∀ {l : List α} {i : Nat} {x : α} (y : α), l[i]? = some x → (l.set i y).Perm (y :: l.eraseIdx i)
  | [], i, x, y, h => by simp at h
  | a :: l, 0, x, y, h => by simp
  | a :: l, i + 1, x, y, h => by
    have h' : l[i]? = some x := by simpa using h
    simp only [List.set_cons_succ, List.eraseIdx_cons_succ]
    exact ((set_perm y h').cons a).trans (List.Perm.swap _ _ _)
end Go.Proofs.YtnadipjlhlbfoaaGreatDoor
namespace Go.Proofs.YtnadipjlhlbfoaaGreatDoor
set_option linter.all false
open Go Go.RowKit
theorem rot_amount : ∀ n : Fin 32, 1 ≤ n.val → (BitVec.ofInt 64 (-((n.val : Nat) : Int)) &&& 31#64).toNat = 32 - n.val ∧ (32#64 - (BitVec.ofInt 64 (-((n.val : Nat) : Int)) &&& 31#64)).toNat = n.val := by decide
theorem rot_ref (x : W) {n : Nat} (h1 : 1 ≤ n) (h2 : n ≤ 31) : x >>> n ||| x <<< (32 - n) = rotK x (-((n : Nat) : Int)) := by
  obtain ⟨e1, e2⟩ := rot_amount ⟨n, by omega⟩ h1
  simp only at e1 e2
  rw [rotK, e1, e2, BitVec.or_comm]
theorem mix2 (x : W) (a b : Int) : rotK x (-a) ^^^ rotK x (-b) = mixW x [a, b] := by simp [mixW]
theorem mix3 (x : W) (a b c : Int) : (rotK x (-a) ^^^ rotK x (-b)) ^^^ rotK x (-c) = mixW x [a, b, c] := by simp [mixW]
theorem nextW_here {ws : List W} {i : Nat} {x y a b : W} (hx : ws[i - 15]? = some x) (hy : ws[i - 2]? = some y) (ha : ws[i - 16]? = some a) (hb : ws[i - 7]? = some b) :
    nextW ws i = ((a + ((rotK x (-7) ^^^ rotK x (-18)) ^^^ x >>> 3)) + b) + ((rotK y (-17) ^^^ rotK y (-19)) ^^^ y >>> 10) := by
  rw [mix2 x 7 18, mix2 y 17 19]
  unfold nextW
  simp only [List.getD_eq_getElem?_getD, hx, hy, ha, hb, Option.getD_some]
theorem more_next {bs : List UInt8} {ws : List W} {i : Nat} (hi : 16 ≤ i) (h : ws = moreW (firstW bs 16) (i - 16)) : ws ++ [nextW ws i] = moreW (firstW bs 16) (i + 1 - 16) := by
  rw [show i + 1 - 16 = (i - 16) + 1 from by omega, moreW, ← h, show 16 + (i - 16) = i from by omega]
theorem bytes_ref (x : W) : [UInt8.ofBitVec (BitVec.setWidth 8 (x >>> 24)), UInt8.ofBitVec (BitVec.setWidth 8 (x >>> 16)), UInt8.ofBitVec (BitVec.setWidth 8 (x >>> 8)), UInt8.ofBitVec (BitVec.setWidth 8 x)] = bytesW x := by
  have : x >>> 0 = x := BitVec.ushiftRight_zero x
  simp [bytesW, byteOf]
/-! ### Padding -/
theorem zeros_len : ∀ (k : Nat) (b : List UInt8), (120 - b.length % 64) % 64 < k → (zerosTo k b).length % 64 = 56 ∧ (zerosTo k b).length ≤ b.length + k
  | 0, b, h => by omega
  | k + 1, b, h => by
    unfold zerosTo
    by_cases hb : b.length % 64 = 56
    · rw [if_pos hb]; exact ⟨hb, by omega⟩
    · rw [if_neg hb]
      have hl : (b ++ [(0 : UInt8)]).length = b.length + 1 := by simp
      have := zeros_len k (b ++ [0]) (by rw [hl]; omega)
      rw [hl] at this
      exact ⟨this.1, by omega⟩
theorem padded_len (l : List UInt8) : ∃ N, (paddedL l).length = 64 * N ∧ 64 * N ≤ l.length + 73 := by
  have hl : (l ++ [(128 : UInt8)]).length = l.length + 1 := by simp
  obtain ⟨h1, h2⟩ := zeros_len 64 (l ++ [128]) (Nat.mod_lt _ (by decide))
  have h3 : (paddedL l).length = (zerosTo 64 (l ++ [128])).length + 8 := by simp [paddedL]
  refine ⟨(paddedL l).length / 64, ?_, ?_⟩
  · omega
  · rw [hl] at h2; omega
/-! ### Strings with a mark -/
theorem mark_cat (n : UInt8) (a b : B) : (ByteArray.mk #[n] ++ a) ++ b = mark n (a ++ b) := by rw [mark, ByteArray.append_assoc]
/-! ### What is digested for a root -/
theorem hashed_fuel (h : B → B) : ∀ (k j : Nat) (l : List B), l.length ≤ k → l.length ≤ j → hashedF h k l = hashedF h j l
  | 0, 0, _, _, _ => rfl
  | 0, j + 1, l, h1, _ => by
    obtain rfl : l = [] := List.length_eq_zero_iff.1 (by omega)
    rfl
  | k + 1, 0, l, _, h2 => by
    obtain rfl : l = [] := List.length_eq_zero_iff.1 (by omega)
    rfl
  | k + 1, j + 1, l, h1, h2 => by
    unfold hashedF
    by_cases h0 : l.length = 0
    · rw [if_pos h0, if_pos h0]
    · by_cases hl : l.length = 1
      · rw [if_neg h0, if_neg h0, if_pos hl, if_pos hl]
      · have hp := lft_pos l.length
        have hq := lft_lt (n := l.length) (by omega)
        rw [if_neg h0, if_neg h0, if_neg hl, if_neg hl, hashed_fuel h k j (l.take _) (by simp; omega) (by simp; omega), hashed_fuel h k j (l.drop _) (by simp; omega) (by simp; omega)]
def hashed (l : List B) : List B := hashedF sum l.length l
theorem hashed_nil {l : List B} (h : l.length = 0) : hashed l = [.empty] := by
  obtain rfl : l = [] := List.length_eq_zero_iff.1 h
  rfl
theorem hashed_one {s : B} : hashed [s] = [mark 0 s] := rfl
theorem hashed_two {l : List B} (h : 2 ≤ l.length) : hashed l = (hashed (l.take (lft l.length)) ++ hashed (l.drop (lft l.length))) ++ [mark 1 (root sum (l.take (lft l.length)) ++ root sum (l.drop (lft l.length)))] := by
  obtain ⟨k, hk⟩ : ∃ k, l.length = k + 1 := ⟨l.length - 1, by omega⟩
  have hp := lft_pos l.length
  have hq := lft_lt (n := l.length) (by omega)
  have e : hashed l = hashedF sum (k + 1) l := by unfold hashed; rw [hk]
  rw [e, hashedF, if_neg (by omega), if_neg (by omega), hashed, hashed, hashed_fuel sum k _ (l.take _) (by simp; omega) (Nat.le_refl _), hashed_fuel sum k _ (l.drop _) (by simp; omega) (Nat.le_refl _)]
theorem mark_size (n : UInt8) (s : B) : (mark n s).size = 1 + s.size := by rw [mark, ByteArray.size_append]; rfl
theorem hashed_sizes {b : Nat} (hb : 64 ≤ b) : ∀ (k : Nat) (l : List B), (∀ s ∈ l, s.size ≤ b) → ∀ x ∈ hashedF sum k l, x.size ≤ b + 1
  | 0, l, _, x, hx => by
    simp [hashedF] at hx
    rw [hx]; show (0 : Nat) ≤ _; omega
  | k + 1, l, hl, x, hx => by
    unfold hashedF at hx
    split at hx
    · simp at hx; rw [hx]; show (0 : Nat) ≤ _; omega
    · split at hx
      · rename_i h1
        obtain ⟨s, rfl⟩ := List.length_eq_one_iff.1 h1
        simp at hx
        have := hl s (by simp)
        rw [hx, mark_size]; omega
      · rcases List.mem_append.1 hx with hx | hx
        · rcases List.mem_append.1 hx with hx | hx
          · exact hashed_sizes hb k _ (fun s hs => hl s (List.mem_of_mem_take hs)) x hx
          · exact hashed_sizes hb k _ (fun s hs => hl s (List.mem_of_mem_drop hs)) x hx
        · simp at hx
          rw [hx, mark_size, ByteArray.size_append, root_size sum sum_size, root_size sum sum_size]; omega
theorem hashed_length : ∀ (k : Nat) (l : List B), 1 ≤ l.length → (hashedF sum k l).length + 1 ≤ 2 * l.length
  | 0, l, h => by simp [hashedF]; omega
  | k + 1, l, h => by
    unfold hashedF
    split
    · omega
    · split
      · simp; omega
      · rename_i h0 h1
        have hp := lft_pos l.length
        have hq := lft_lt (n := l.length) (by omega)
        have h2 := hashed_length k (l.take (lft l.length)) (by rw [List.length_take]; omega)
        have h3 := hashed_length k (l.drop (lft l.length)) (by rw [List.length_drop]; omega)
        rw [List.length_take] at h2
        rw [List.length_drop] at h3
        simp only [List.length_append, List.length_cons, List.length_nil]
        omega
theorem hashed_le (l : List B) : (hashed l).length ≤ 2 * l.length + 1 := by
  by_cases h : 1 ≤ l.length
  · have := hashed_length l.length l h
    unfold hashed; omega
  · rw [hashed_nil (by omega)]; simp
/-! ### What is digested on the way to a root -/
theorem pre_stop (s : B) {n i : Nat} : ∀ {r : List B}, n ≤ 1 ∨ r = [] → preF sum s r n i = [mark 0 s]
  | [], _ => rfl
  | x :: r, h => by
    unfold preF
    rcases h with h | h
    · rw [if_pos h]
    · cases h
theorem pre_lt (s x : B) (r : List B) {n i : Nat} (hn : ¬ n ≤ 1) (hi : i < lft n) : preF sum s (x :: r) n i = preF sum s r (lft n) i ++ [mark 1 (sum ((preF sum s r (lft n) i).getLastD .empty) ++ x)] := by rw [preF, if_neg hn, if_pos hi]
theorem pre_ge (s x : B) (r : List B) {n i : Nat} (hn : ¬ n ≤ 1) (hi : ¬ i < lft n) : preF sum s (x :: r) n i = preF sum s r (n - lft n) (i - lft n) ++ [mark 1 (x ++ sum ((preF sum s r (n - lft n) (i - lft n)).getLastD .empty))] := by rw [preF, if_neg hn, if_neg hi]
theorem pre_pos (s : B) : ∀ (r : List B) (n i : Nat), 1 ≤ (preF sum s r n i).length
  | [], _, _ => by simp [preF]
  | x :: r, n, i => by
    unfold preF
    split
    · simp
    · split <;> simp
theorem pre_length (s : B) : ∀ (r : List B) (n i : Nat), (preF sum s r n i).length ≤ r.length + 1
  | [], _, _ => by simp [preF]
  | x :: r, n, i => by
    have h1 := pre_length s r (lft n) i
    have h2 := pre_length s r (n - lft n) (i - lft n)
    unfold preF
    split
    · simp
    · split <;> simp <;> omega
theorem pre_sizes (s : B) {b : Nat} (hb : 64 ≤ b) (hs : s.size ≤ b) : ∀ (r : List B) (n i : Nat), (∀ x ∈ r, x.size = 32) → ∀ y ∈ preF sum s r n i, y.size ≤ b + 1
  | [], _, _, _, y, hy => by
    simp [preF] at hy
    rw [hy, mark_size]; omega
  | x :: r, n, i, hr, y, hy => by
    have hx := hr x List.mem_cons_self
    have hr' : ∀ x ∈ r, x.size = 32 := fun z hz => hr z (List.mem_cons_of_mem _ hz)
    unfold preF at hy
    split at hy
    · simp at hy; rw [hy, mark_size]; omega
    · split at hy
      · rcases List.mem_append.1 hy with hy | hy
        · exact pre_sizes s hb hs r _ _ hr' y hy
        · simp at hy; rw [hy, mark_size, ByteArray.size_append, sum_size, hx]; omega
      · rcases List.mem_append.1 hy with hy | hy
        · exact pre_sizes s hb hs r _ _ hr' y hy
        · simp at hy; rw [hy, mark_size, ByteArray.size_append, sum_size, hx]; omega
theorem last_getD {l : List B} {x : B} (h : l[l.length - 1]? = some x) : l.getLastD .empty = x := by
  rw [List.getLastD_eq_getLast?, List.getLast?_eq_getElem?, h]; rfl
theorem rev_last {ps : List B} {x : B} (h : ps[ps.length - 1]? = some x) : ps.reverse = x :: (ps.take (ps.length - 1)).reverse := by
  have hl := (List.getElem?_eq_some_iff.1 h).1
  have h1 := take_succ h
  rw [show ps.length - 1 + 1 = ps.length from by omega, List.take_length] at h1
  rw [congrArg List.reverse h1, List.reverse_append]; rfl
end Go.Proofs.YtnadipjlhlbfoaaGreatDoor
namespace Go.Proofs.YtnadipjlhlbfoaaGreatDoor
set_option linter.all false
open Go Go.RowKit
set_option maxRecDepth 100000
/-- A word as a slice's element. -/
abbrev wC (x : W) : Array Value := #[wv x]
set_option maxRecDepth 100000 in
theorem w_rotated {w : World} (x : W) (n : Nat) (h1 : 1 ≤ n) (h2 : n ≤ 31) :
    Calls Tryz.prog 97 #[.int .u32 (wi x), .int .i64 ((n : Nat) : Int)] w (fun e w' => e = .returned (.int .u32 (wi (rotK x (-((n : Nat) : Int))))) ∧ SL w [] w' []) := by
 refine calls_of_CX (O := []) (L := []) (args := [.int .u32 (wi x), .int .i64 ((n : Nat) : Int)]) Tryz.func97 rfl (by simp [Tryz.ntmps97]) (SL.refl w) ?_
 refine CX.sub (V' := [(0, .int .u32 (wi x)), (1, .int .i64 ((n : Nat) : Int))]) ⟨rfl, rfl, trivial⟩ ?_
 refine CX.seq ?_
 refine CX.region ?_
 refine RX.cons rfl rfl (op_w (yw_assign rfl rfl) rfl rfl ?_)
 refine RX.nil (XX.next (V' := [(0, _), (1, _)]) ⟨rfl, rfl, trivial⟩ ?_)
 refine CX.seq ?_
 refine CX.draw 9 [(0, 1, 32), (0, 2, 64), (3, 96, 128), (0, 1, 256), (0, 2, 512), (16, 512, 1024), (40, 1280, 2048), (68, 2176, 4096), (255, 4096, 16)] (by kernel_rfl) (by kernel_rfl) (by kernel_rfl) ?_
 refine DX.takeW 0 1 (by kernel_rfl) rfl rfl rfl rfl rfl (yw_move rfl rfl) ?_
 refine DX.takeW 1 3 (by kernel_rfl) rfl rfl rfl rfl rfl (yw_move rfl rfl) ?_
 refine DX.takeW 2 7 (by kernel_rfl) rfl rfl rfl rfl rfl (yw_bvShr (a := x) n UK.u32 rfl rfl rfl rfl) ?_
 refine DX.takeW 3 15 (by kernel_rfl) rfl rfl rfl rfl rfl (yw_move rfl rfl) ?_
 refine DX.takeW 4 31 (by kernel_rfl) rfl rfl rfl rfl rfl (yw_move rfl rfl) ?_
 refine DX.takeW 5 63 (by kernel_rfl) rfl rfl rfl rfl rfl (yw_sub rfl rfl rfl (by omega) (by omega)) ?_
 refine DX.know (t := 10) (u := .int .i64 (((32 - n) : Nat) : Int)) rfl (congrArg (Value.int .i64) (by omega)) ?_
 refine DX.takeW 6 127 (by kernel_rfl) rfl rfl rfl rfl rfl (yw_bvShl (a := x) (32 - n) UK.u32 rfl rfl rfl rfl) ?_
 refine DX.takeW 7 255 (by kernel_rfl) rfl rfl rfl rfl rfl (yw_bvOr (a := x >>> n) (b := x <<< (32 - n)) UK.u32 rfl rfl rfl) ?_
 refine DX.takeW 8 511 (by kernel_rfl) rfl rfl rfl rfl rfl (yw_assign rfl rfl) ?_
 refine DX.done (by kernel_rfl) (XX.next (V' := [(4, .int .u32 (wi ((x >>> n) ||| (x <<< (32 - n)))))]) ⟨rfl, trivial⟩ ?_)
 refine CX.ret ?_
 exact ret_tmp rfl rfl fun w1 hw => ⟨by rw [← rot_ref x h1 h2], hw.sub (List.nil_sublist _)⟩

set_option maxRecDepth 100000 in
theorem w_extended {w : World} (s : ByteArray) (hn : s.data.toList.length ≤ 70368744177664) :
    Calls Tryz.prog 83 #[.string s] w (fun e w' => ∃ z : Option Addr × Nat, True ∧ e = .returned (.slice z.1 (paddedL s.data.toList).length z.2) ∧ SL w [] w' [.row z.1 z.2 5 1 (List.map u8c (paddedL s.data.toList))]) := by
 have hsl : s.data.toList.length = s.size := by rw [Array.length_toList]; rfl
 refine calls_of_CX (O := []) (L := []) (args := [.string s]) Tryz.func83 rfl (by simp [Tryz.ntmps83]) (SL.refl w) ?_
 refine CX.sub (V' := [(0, .string s)]) ⟨rfl, trivial⟩ ?_
 refine CX.seq ?_
 refine CX.region ?_
 refine RX.cons rfl rfl (op_w (yw_assign rfl rfl) rfl rfl ?_)
 refine RX.nil (XX.next (V' := [(0, _)]) ⟨rfl, trivial⟩ ?_)
 refine CX.seq ?_
 refine CX.region ?_
 refine RX.cons rfl rfl (op_w (yw_assign rfl rfl) rfl rfl ?_)
 refine RX.nil (XX.next (V' := [(0, _), (3, _)]) ⟨rfl, rfl, trivial⟩ ?_)
 refine CX.seq ?_
 refine CX.seq ?_
 refine CX.region ?_
 refine RX.cons rfl rfl (op_w (yw_assign rfl rfl) rfl rfl ?_)
 refine RX.nil (XX.next (V' := [(0, _), (3, _), (4, _)]) ⟨rfl, rfl, rfl, trivial⟩ ?_)
 refine CX.block ?_
 refine CX.rowNil 5 1 ?_
 refine CX.loop (σ := Nat × (Option Addr × Nat) × List UInt8) (fun z => [(0, .string s), (3, .slice z.2.1.1 (List.length (z.2.2 : List UInt8)) z.2.1.2), (4, .int .i64 ((z.1 : Nat) : Int))]) (fun z => [.row z.2.1.1 z.2.1.2 5 1 (List.map u8c z.2.2)]) (fun z => z.1 ≤ s.data.toList.length ∧ z.2.2 = s.data.toList.take z.1) (fun z => s.data.toList.length - z.1) (0, (none, 0), []) ⟨Nat.zero_le _, rfl⟩ ⟨rfl, rfl, rfl, trivial⟩ rfl (fun z hI => ?_)
 obtain ⟨i, ⟨A1, c1⟩, b⟩ := z
 dsimp only at hI ⊢
 obtain ⟨hi, hb⟩ := hI
 have hbl : b.length = i := by rw [hb, List.length_take]; omega
 refine CX.seq ?_
 refine CX.seq ?_
 refine CX.region ?_
 refine RX.cons rfl rfl (op_w (yw_move rfl rfl) rfl rfl ?_)
 refine RX.cons rfl rfl (op_w (yw_move rfl rfl) rfl rfl ?_)
 refine RX.cons rfl rfl (op_w (yw_lenStr rfl Tryz.underlying9 rfl) rfl rfl ?_)
 refine RX.cons rfl rfl (op_w (yw_lss rfl rfl rfl) rfl rfl ?_)
 refine RX.nil (XX.next (V' := [(0, _), (3, _), (4, _), (9, _)]) ⟨rfl, rfl, rfl, rfl, trivial⟩ ?_)
 refine CX.condD (p := ((i : Nat) : Int) < ((ByteArray.size s : Nat) : Int)) rfl (fun c9 => ?_) (fun c9 => ?_)
 ·obtain ⟨b0, hb0⟩ := get_some (l := s.data.toList) (k := i) (by omega)
  refine CX.skip (XX.next (V' := [(0, _), (3, _), (4, _)]) ⟨rfl, rfl, rfl, trivial⟩ ?_)
  refine CX.seq ?_
  refine CX.block ?_
  refine CX.region ?_
  refine RX.cons rfl rfl (op_w (yw_move rfl rfl) rfl rfl ?_)
  refine RX.cons rfl rfl (op_w (yw_move rfl rfl) rfl rfl ?_)
  refine RX.cons rfl rfl (op_w (yw_move rfl rfl) rfl rfl ?_)
  refine RX.cons rfl rfl (op_w (yw_strIdx (k := i) (b := b0) rfl Tryz.underlying9 rfl rfl (by omega) (by rw [← Array.getElem?_toList]; exact hb0)) rfl rfl ?_)
  refine RX.cons rfl rfl (op_buildSlice rfl rfl rfl slb_54 rfl rfl (by intro v hv; simp only [List.mem_cons, List.not_mem_nil, or_false] at hv; subst hv; exact ⟨rfl, (plain_of rfl)⟩) (by decide) fun g4 => ?_)
  refine RX.cons rfl rfl (op_appendM u8c (i := 1) (j := 0) (xs := b) ([b0]) rfl rfl rfl slb_54 rfl rfl rfl rfl rfl rfl (by simp only [List.length_singleton]; omega) (by simp only [List.length_singleton]; omega) fun A2 c2 => ?_)
  refine RX.cons rfl rfl (op_w (yw_assign rfl rfl) rfl rfl ?_)
  refine RX.nil (XX.inBlock (V' := [(0, _), (3, _), (4, _)]) ⟨rfl, rfl, rfl, trivial⟩ ?_)
  refine XX.next (V' := [(0, _), (3, _), (4, _)]) ⟨rfl, rfl, rfl, trivial⟩ ?_
  refine CX.region ?_
  refine RX.cons rfl rfl (op_w (yw_move rfl rfl) rfl rfl ?_)
  refine RX.cons rfl rfl (op_w (yw_add rfl rfl rfl (by omega) (by omega)) rfl rfl ?_)
  refine RX.cons rfl rfl (op_w (yw_assign rfl rfl) rfl rfl ?_)
  refine RX.nil (XX.againP ([.row (some ⟨g4, 0, none⟩) 1 5 1 (List.map u8c ([b0]))]) (i + 1, (A2, c2), b ++ [b0]) (by dsimp only; omega) ⟨by dsimp only; omega, by dsimp only; rw [hb, take_succ hb0]⟩ ⟨rfl, rfl, rfl, trivial⟩ ((perm_pick 1 rfl).trans (List.Perm.cons _ (List.Perm.refl _))))
 ·have hb1 : b = s.data.toList := by rw [hb, List.take_of_length_le (by omega)]
  refine CX.exit ?_
  refine XX.then_exit ?_
  refine XX.then_exit ?_
  refine XX.block_exit ?_
  refine XX.next (V' := [(0, _), (3, _)]) ⟨rfl, rfl, trivial⟩ ?_
  refine CX.seq ?_
  refine CX.region ?_
  refine RX.cons rfl rfl (op_w (yw_move rfl rfl) rfl rfl ?_)
  refine RX.cons rfl rfl (op_buildSlice rfl rfl rfl slb_54 rfl rfl (by intro v hv; simp only [List.mem_cons, List.not_mem_nil, or_false] at hv; subst hv; exact ⟨rfl, (plain_of rfl)⟩) (by decide) fun g5 => ?_)
  refine RX.cons rfl rfl (op_appendM u8c (i := 1) (j := 0) (xs := b) ([(128 : UInt8)]) rfl rfl rfl slb_54 rfl rfl rfl rfl rfl rfl (by simp only [List.length_singleton]; omega) (by simp only [List.length_singleton]; omega) fun A3 c3 => ?_)
  refine RX.cons rfl rfl (op_w (yw_assign rfl rfl) rfl rfl ?_)
  refine RX.nil (XX.next (V' := [(0, _), (3, _)]) ⟨rfl, rfl, trivial⟩ ?_)
  refine CX.seq ?_
  refine CX.block ?_
  refine CX.drop (L' := [.row A3 c3 5 1 (List.map u8c (b ++ [(128 : UInt8)]))]) (List.Sublist.cons _ (List.Sublist.refl _)) ?_
  have hp1 : b ++ [(128 : UInt8)] = s.data.toList ++ [128] := by rw [hb1]
  have hl1 : (b ++ [(128 : UInt8)]).length = s.data.toList.length + 1 := by rw [hp1]; simp
  refine CX.loop (σ := Nat × (Option Addr × Nat) × List UInt8) (fun z => [(0, .string s), (3, .slice z.2.1.1 (List.length (z.2.2 : List UInt8)) z.2.1.2)]) (fun z => [.row z.2.1.1 z.2.1.2 5 1 (List.map u8c z.2.2)]) (fun z => z.1 + (120 - z.2.2.length % 64) % 64 ≤ 63 ∧ z.2.2.length = s.data.toList.length + 1 + z.1 ∧ zerosTo (64 - z.1) z.2.2 = zerosTo 64 (s.data.toList ++ [128])) (fun z => 64 - z.1) (0, (A3, c3), b ++ [128]) ⟨by dsimp only; omega, hl1, by dsimp only; rw [hp1]⟩ ⟨rfl, rfl, trivial⟩ rfl (fun z hI => ?_)
  obtain ⟨j, ⟨A4, c4⟩, d⟩ := z
  dsimp only at hI ⊢
  obtain ⟨hj, hdl, hz⟩ := hI
  refine CX.seq ?_
  refine CX.seq ?_
  refine CX.region ?_
  refine RX.cons rfl rfl (op_w (yw_move rfl rfl) rfl rfl ?_)
  refine RX.cons rfl rfl (op_w (yw_lenS rfl Tryz.underlying54 rfl) rfl rfl ?_)
  refine RX.cons rfl rfl (op_w (yw_rem rfl rfl rfl (by omega) (by omega)) rfl rfl ?_)
  refine RX.cons rfl rfl (op_w (yw_neq rfl rfl rfl) rfl rfl ?_)
  refine RX.nil (XX.next (V' := [(0, _), (3, _), (24, _)]) ⟨rfl, rfl, rfl, trivial⟩ ?_)
  refine CX.condD (p := ((List.length (d : List UInt8) : Nat) : Int) % 64 ≠ 56) rfl (fun c24 => ?_) (fun c24 => ?_)
  ·have hl0 : (d ++ [(0 : UInt8)]).length = d.length + 1 := by simp
   refine CX.skip (XX.next (V' := [(0, _), (3, _)]) ⟨rfl, rfl, trivial⟩ ?_)
   refine CX.block ?_
   refine CX.region ?_
   refine RX.cons rfl rfl (op_w (yw_move rfl rfl) rfl rfl ?_)
   refine RX.cons rfl rfl (op_buildSlice rfl rfl rfl slb_54 rfl rfl (by intro v hv; simp only [List.mem_cons, List.not_mem_nil, or_false] at hv; subst hv; exact ⟨rfl, (plain_of rfl)⟩) (by decide) fun g6 => ?_)
   refine RX.cons rfl rfl (op_appendM u8c (i := 1) (j := 0) (xs := d) ([(0 : UInt8)]) rfl rfl rfl slb_54 rfl rfl rfl rfl rfl rfl (by simp only [List.length_singleton]; omega) (by simp only [List.length_singleton]; omega) fun A5 c5 => ?_)
   refine RX.cons rfl rfl (op_w (yw_assign rfl rfl) rfl rfl ?_)
   refine RX.nil (XX.inBlock (V' := [(0, _), (3, _)]) ⟨rfl, rfl, trivial⟩ ?_)
   refine XX.againP ([.row (some ⟨g6, 0, none⟩) 1 5 1 (List.map u8c ([(0 : UInt8)]))]) (j + 1, (A5, c5), d ++ [0]) (by dsimp only; omega) ⟨by rw [hl0]; omega, by dsimp only; rw [hl0]; omega, (zeros_step (j := j) (b := d) (by omega) (by omega)).symm.trans hz⟩ ⟨rfl, rfl, trivial⟩ ((perm_pick 1 rfl).trans (List.Perm.cons _ (List.Perm.refl _)))
  ·have hz' : d = zerosTo 64 (s.data.toList ++ [128]) := by rw [← hz, zeros_done (by omega) (by omega)]
   refine CX.exit ?_
   refine XX.then_exit ?_
   refine XX.then_exit ?_
   refine XX.block_exit ?_
   refine XX.next (V' := [(0, _), (3, _)]) ⟨rfl, rfl, trivial⟩ ?_
   refine CX.seq ?_
   refine CX.seq ?_
   refine CX.region ?_
   refine RX.cons rfl rfl (op_w (yw_assign rfl rfl) rfl rfl ?_)
   refine RX.nil (XX.next (V' := [(0, _), (3, _), (5, _)]) ⟨rfl, rfl, rfl, trivial⟩ ?_)
   refine CX.block ?_
   refine CX.loop (σ := Nat × (Option Addr × Nat) × List UInt8) (fun z => [(0, .string s), (3, .slice z.2.1.1 (List.length (z.2.2 : List UInt8)) z.2.1.2), (5, .int .i64 (7 - ((z.1 : Nat) : Int)))]) (fun z => [.row z.2.1.1 z.2.1.2 5 1 (List.map u8c z.2.2)]) (fun z => z.1 ≤ 8 ∧ z.2.2 = zerosTo 64 (s.data.toList ++ [128]) ++ (List.range z.1).map (lenByte s.data.toList.length)) (fun z => 8 - z.1) (0, (A4, c4), d) ⟨Nat.zero_le _, by rw [← hz']; simp⟩ ⟨rfl, rfl, rfl, trivial⟩ rfl (fun z hI => ?_)
   obtain ⟨k, ⟨A6, c6⟩, e⟩ := z
   dsimp only at hI ⊢
   obtain ⟨hk, he⟩ := hI
   have hel : e.length = d.length + k := by rw [he, ← hz']; simp
   refine CX.seq ?_
   refine CX.seq ?_
   refine CX.region ?_
   refine RX.cons rfl rfl (op_w (yw_move rfl rfl) rfl rfl ?_)
   refine RX.cons rfl rfl (op_w (yw_geq rfl rfl rfl) rfl rfl ?_)
   refine RX.nil (XX.next (V' := [(0, _), (3, _), (5, _), (29, _)]) ⟨rfl, rfl, rfl, rfl, trivial⟩ ?_)
   refine CX.condD (p := 0 ≤ 7 - ((k : Nat) : Int)) rfl (fun c29 => ?_) (fun c29 => ?_)
   ·refine CX.skip (XX.next (V' := [(0, _), (3, _), (5, _)]) ⟨rfl, rfl, rfl, trivial⟩ ?_)
    refine CX.seq ?_
    refine CX.block ?_
    refine CX.region ?_
    refine RX.cons rfl rfl (op_w (yw_move rfl rfl) rfl rfl ?_)
    refine RX.cons rfl rfl (op_w (yw_move rfl rfl) rfl rfl ?_)
    refine RX.cons rfl rfl (op_w (yw_lenStr rfl Tryz.underlying9 rfl) rfl rfl ?_)
    refine RX.cons rfl rfl (op_w (yw_mul rfl rfl rfl (by omega) (by omega)) rfl rfl ?_)
    refine RX.cons rfl rfl (op_w (yw_move rfl rfl) rfl rfl ?_)
    refine RX.cons rfl rfl (op_w (yw_mul rfl rfl rfl (by omega) (by omega)) rfl rfl ?_)
    refine RX.cons rfl rfl (op_w (yw_shr_i (8 * (7 - k)) rfl rfl rfl (by omega) (by omega)) rfl rfl ?_)
    refine RX.cons rfl rfl (op_w (yw_bvOf UK.u8 rfl rfl Tryz.underlying3 Tryz.underlying5) rfl rfl ?_)
    refine RX.cons rfl rfl (op_buildSlice rfl rfl rfl slb_54 rfl rfl (by intro v hv; simp only [List.mem_cons, List.not_mem_nil, or_false] at hv; subst hv; exact ⟨rfl, (plain_of rfl)⟩) (by decide) fun g7 => ?_)
    refine RX.cons rfl rfl (op_appendM u8c (i := 1) (j := 0) (xs := e) ([lenByte s.data.toList.length k]) rfl rfl rfl slb_54 rfl rfl rfl rfl rfl rfl (by simp only [List.length_singleton]; omega) (by simp only [List.length_singleton]; omega) fun A7 c7 => ?_)
    refine RX.cons rfl rfl (op_w (yw_assign rfl rfl) rfl rfl ?_)
    refine RX.nil (XX.inBlock (V' := [(0, _), (3, _), (5, _)]) ⟨rfl, rfl, rfl, trivial⟩ ?_)
    refine XX.next (V' := [(0, _), (3, _), (5, _)]) ⟨rfl, rfl, rfl, trivial⟩ ?_
    refine CX.region ?_
    refine RX.cons rfl rfl (op_w (yw_move rfl rfl) rfl rfl ?_)
    refine RX.cons rfl rfl (op_w (yw_sub rfl rfl rfl (by omega) (by omega)) rfl rfl ?_)
    refine RX.know (t := 31) (u := .int .i64 (7 - (((k + 1 : Nat)) : Int))) rfl (congrArg (Value.int .i64) (by omega)) ?_
    refine RX.cons rfl rfl (op_w (yw_assign rfl rfl) rfl rfl ?_)
    refine RX.nil (XX.againP ([.row (some ⟨g7, 0, none⟩) 1 5 1 (List.map u8c ([lenByte s.data.toList.length k]))]) (k + 1, (A7, c7), e ++ [lenByte s.data.toList.length k]) (by dsimp only; omega) ⟨by dsimp only; omega, by dsimp only; rw [List.range_succ, List.map_append, ← List.append_assoc, ← he]; rfl⟩ ⟨rfl, rfl, rfl, trivial⟩ ((perm_pick 1 rfl).trans (List.Perm.cons _ (List.Perm.refl _))))
   ·have he' : e = paddedL s.data.toList := by rw [he, show k = 8 from by omega]; rfl
    refine CX.exit ?_
    refine XX.then_exit ?_
    refine XX.then_exit ?_
    refine XX.block_exit ?_
    refine XX.next (V' := [(3, _)]) ⟨rfl, trivial⟩ ?_
    refine CX.seq ?_
    refine CX.region ?_
    refine RX.cons rfl rfl (op_w (yw_move rfl rfl) rfl rfl ?_)
    refine RX.cons rfl rfl (op_w (yw_assign rfl rfl) rfl rfl ?_)
    refine RX.nil (XX.next (V' := [(2, .slice A6 (List.length (e : List UInt8)) c6)]) ⟨rfl, trivial⟩ ?_)
    refine CX.ret ?_
    exact ret_tmp rfl rfl fun w1 hw => ⟨(A6, c6), trivial, by rw [← he'], by rw [← he']; exact hw.pick ((perm_pick 0 rfl).trans (List.Perm.cons _ (List.Perm.refl _)))⟩

end Go.Proofs.YtnadipjlhlbfoaaGreatDoor
