/- Walks, printed by a program. A slice of a slice between two places; rows picked out of rows. Walks, printed by a program. Walks, printed by a program. Walks, printed by a program. Plain aids for the reference's walks: lists compared, numbers as bytes, statements judged line by line. Walks, printed by a program. Walks, printed by a program. -/
import Derived.Test.YtnadipjlhlbfoaaGreatDoorK8
import Derived.Test.YtnadipjlhlbfoaaGreatDoorK2
import Derived.Test.YtnadipjlhlbfoaaGreatDoorK4
namespace Go.Proofs.YtnadipjlhlbfoaaGreatDoor
set_option linter.all false
open Go Go.RowKit
set_option maxRecDepth 100000
theorem ent_26 : ∀ args w, (callFunc 26 args).run Tryz.prog w = .ok (.enter 26 args) w := enters_of Tryz.func26 (by kernel_rfl) rfl
set_option maxRecDepth 100000 in
theorem w_append {w : World} {A : Option Addr} {cap gx c1 c2 : Nat} {A1 A2 : Option Addr} (X0 : List SX) (es0 : List ByteArray) (hd0 : ByteArray) (X : List SX) (hr : Rd w A 3 (X.map stC)) (hX : ∀ x ∈ X, Rd w x.1.1 3 (x.2.ls.map lnC)) (hAO : X ≠ [] → ab A ∉ (List.flatMap Ent.blocks [.blk gx (.cells (#[.slice A1 (List.length (X0 : List SX)) c1, .slice A2 (List.length (es0 : List ByteArray)) c2, .string hd0]) 58 (0, 0)), .row A1 c1 25 3 (List.map stC X0), .row A2 c2 9 1 (List.map strC es0)])) (hXO : ∀ x ∈ X, x.2.ls ≠ [] → ab x.1.1 ∉ (List.flatMap Ent.blocks [.blk gx (.cells (#[.slice A1 (List.length (X0 : List SX)) c1, .slice A2 (List.length (es0 : List ByteArray)) c2, .string hd0]) 58 (0, 0)), .row A1 c1 25 3 (List.map stC X0), .row A2 c2 9 1 (List.map strC es0)])) (hXl : ∀ x ∈ X, x.2.ls.length ≤ 1000000) (hl : X.length ≤ 1000000) (hs : SL w (List.flatMap Ent.blocks [.blk gx (.cells (#[.slice A1 (List.length (X0 : List SX)) c1, .slice A2 (List.length (es0 : List ByteArray)) c2, .string hd0]) 58 (0, 0)), .row A1 c1 25 3 (List.map stC X0), .row A2 c2 9 1 (List.map strC es0)]) w [.blk gx (.cells (#[.slice A1 (List.length (X0 : List SX)) c1, .slice A2 (List.length (es0 : List ByteArray)) c2, .string hd0]) 58 (0, 0)), .row A1 c1 25 3 (List.map stC X0), .row A2 c2 9 1 (List.map strC es0)]) (hG : Rounds w) (hg0 : 0 ∉ (List.flatMap Ent.blocks [.blk gx (.cells (#[.slice A1 (List.length (X0 : List SX)) c1, .slice A2 (List.length (es0 : List ByteArray)) c2, .string hd0]) 58 (0, 0)), .row A1 c1 25 3 (List.map stC X0), .row A2 c2 9 1 (List.map strC es0)])) (hok : ∀ x ∈ X, okS x.2 = true) (hlen : X0.length + X.length ≤ 1000000) (he0 : es0.length = X0.length) (hd0s : hd0.size ≤ 4294967296) :
    Calls Tryz.prog 7 #[.pointer (some ⟨gx, 0, none⟩), .slice A X.length cap] w (fun e w' => ∃ z : ((Option Addr × Nat) × (Option Addr × Nat)) × List SX, z.2.map (·.2) = X.map (·.2) ∧ e = .returned (.int .i64 0) ∧ SL w (List.flatMap Ent.blocks [.blk gx (.cells (#[.slice A1 (List.length (X0 : List SX)) c1, .slice A2 (List.length (es0 : List ByteArray)) c2, .string hd0]) 58 (0, 0)), .row A1 c1 25 3 (List.map stC X0), .row A2 c2 9 1 (List.map strC es0)]) w' [.blk gx (.cells (#[.slice z.1.1.1 (List.length ((X0 ++ z.2) : List SX)) z.1.1.2, .slice z.1.2.1 (List.length ((es0 ++ entsF hd0 (X.map (fun x : SX => encS x.2))) : List ByteArray)) z.1.2.2, .string (headF hd0 (X.map (fun x : SX => encS x.2)))]) 58 (0, 0)), .row z.1.1.1 z.1.1.2 25 3 (List.map stC (X0 ++ z.2)), .row z.1.2.1 z.1.2.2 9 1 (List.map strC (es0 ++ entsF hd0 (X.map (fun x : SX => encS x.2)))), pack (lns z.2)]) := by
 refine calls_of_CX (O := (List.flatMap Ent.blocks [.blk gx (.cells (#[.slice A1 (List.length (X0 : List SX)) c1, .slice A2 (List.length (es0 : List ByteArray)) c2, .string hd0]) 58 (0, 0)), .row A1 c1 25 3 (List.map stC X0), .row A2 c2 9 1 (List.map strC es0)])) (L := [.blk gx (.cells (#[.slice A1 (List.length (X0 : List SX)) c1, .slice A2 (List.length (es0 : List ByteArray)) c2, .string hd0]) 58 (0, 0)), .row A1 c1 25 3 (List.map stC X0), .row A2 c2 9 1 (List.map strC es0)]) (args := [.pointer (some ⟨gx, 0, none⟩), .slice A X.length cap]) Tryz.func7 rfl (by simp [Tryz.ntmps7]) hs ?_
 refine CX.sub (V' := [(0, .pointer (some ⟨gx, 0, none⟩)), (1, .slice A X.length cap)]) ⟨rfl, rfl, trivial⟩ ?_
 refine CX.seq ?_
 refine CX.region ?_
 refine RX.cons rfl rfl (op_w (yw_assign rfl rfl) rfl rfl ?_)
 refine RX.nil (XX.next (V' := [(0, _), (1, _)]) ⟨rfl, rfl, trivial⟩ ?_)
 refine CX.seq ?_
 refine CX.seq ?_
 refine CX.region ?_
 refine RX.cons rfl rfl (op_w (yw_move rfl rfl) rfl rfl ?_)
 refine RX.cons rfl rfl (op_w (yw_ptrSome rfl ptrt_30 rfl rfl) rfl rfl ?_)
 refine RX.nil (XX.next (V' := [(0, _), (1, _), (13, _)]) ⟨rfl, rfl, rfl, trivial⟩ ?_)
 refine CX.condF rfl ?_
 refine CX.skip (XX.next (V' := [(0, _), (1, _)]) ⟨rfl, rfl, trivial⟩ ?_)
 refine CX.seq ?_
 refine CX.region ?_
 refine RX.cons rfl rfl (op_w (yw_assign rfl rfl) rfl rfl ?_)
 refine RX.nil (XX.next (V' := [(0, _), (1, _), (5, _)]) ⟨rfl, rfl, rfl, trivial⟩ ?_)
 refine CX.seq ?_
 refine CX.seq ?_
 refine CX.region ?_
 refine RX.cons rfl rfl (op_w (yw_move rfl rfl) rfl rfl ?_)
 refine RX.cons rfl rfl (op_w (yw_lenS rfl Tryz.underlying33 rfl) rfl rfl ?_)
 refine RX.cons rfl rfl (op_w (yw_move rfl rfl) rfl rfl ?_)
 refine RX.nil (XX.next (V' := [(0, _), (1, _), (5, _), (14, _), (15, _), (16, _)]) ⟨rfl, rfl, rfl, rfl, rfl, rfl, trivial⟩ ?_)
 refine CX.block ?_
 refine CX.rowNil 9 1 ?_
 refine CX.loop (σ := Nat × (Option Addr × Nat) × List ByteArray) (fun z => [(0, .pointer (some ⟨gx, 0, none⟩)), (1, .slice A X.length cap), (5, .slice z.2.1.1 (List.length (z.2.2 : List ByteArray)) z.2.1.2), (14, .slice A X.length cap), (15, .int .i64 ((X.length : Nat) : Int)), (16, .int .i64 ((z.1 : Nat) : Int))]) (fun z => [.row z.2.1.1 z.2.1.2 9 1 (List.map strC z.2.2), .blk gx (.cells (#[.slice A1 (List.length (X0 : List SX)) c1, .slice A2 (List.length (es0 : List ByteArray)) c2, .string hd0]) 58 (0, 0)), .row A1 c1 25 3 (List.map stC X0), .row A2 c2 9 1 (List.map strC es0)]) (fun z => z.1 ≤ X.length ∧ z.2.2 = (X.take z.1).map (fun x : SX => encS x.2)) (fun z => X.length - z.1) (0, (none, 0), []) ⟨Nat.zero_le _, rfl⟩ ⟨rfl, rfl, rfl, rfl, rfl, rfl, trivial⟩ rfl (fun z hI => ?_)
 obtain ⟨i, ⟨B1, d1⟩, encs⟩ := z
 dsimp only at hI ⊢
 obtain ⟨hi, hencs⟩ := hI
 have hel : encs.length = i := by rw [hencs]; simp; omega
 refine CX.seq ?_
 refine CX.region ?_
 refine RX.cons rfl rfl (op_w (yw_lss rfl rfl rfl) rfl rfl ?_)
 refine RX.nil (XX.next (V' := [(0, _), (1, _), (5, _), (14, _), (15, _), (16, _), (17, _)]) ⟨rfl, rfl, rfl, rfl, rfl, rfl, rfl, trivial⟩ ?_)
 refine CX.seq ?_
 refine CX.condD (p := ((i : Nat) : Int) < ((X.length : Nat) : Int)) rfl (fun c17 => ?_) (fun c17 => ?_)
 ·obtain ⟨x0, hx0⟩ := get_some (l := X) (k := i) (by omega)
  have hx0m := List.mem_of_getElem? hx0
  have hA : ∃ b j, A = some ⟨b, j, none⟩ := hr.some (k := 0) (by simp; omega)
  refine CX.skip (XX.next (V' := [(0, _), (1, _), (5, _), (14, _), (15, _), (16, _)]) ⟨rfl, rfl, rfl, rfl, rfl, rfl, trivial⟩ ?_)
  refine CX.seq ?_
  refine CX.block ?_
  refine CX.seq ?_
  refine CX.region ?_
  refine RX.cons rfl rfl (op_w (yw_index (k := i) rfl slt_33 rfl rfl (by omega) (by omega) hA) rfl rfl ?_)
  refine RX.cons rfl rfl (op_yld (y_elem rfl rfl agg_25 hr (hAO (List.ne_nil_of_mem hx0m)) (map_get hx0)) rfl rfl ?_)
  refine RX.cons rfl rfl (op_alloc rfl rfl rfl zero_25 fun gl => ?_)
  refine RX.cons rfl rfl (op_storeAll (i := 0) rfl rfl rfl rfl szt_25 rfl (plain_of rfl) rfl rfl ?_)
  refine RX.nil (XX.next (V' := [(0, _), (1, _), (5, _), (7, _), (14, _), (15, _), (16, _)]) ⟨rfl, rfl, rfl, rfl, rfl, rfl, rfl, trivial⟩ ?_)
  refine CX.seq ?_
  refine CX.region ?_
  refine RX.cons rfl rfl (op_yld (y_loadA (i := 0) rfl rfl agg_25 rfl rfl) rfl rfl ?_)
  refine RX.cons rfl rfl (op_callV (v := .tuple #[.string (⟨(encL x0.2).toArray⟩), .int .i64 0]) rfl rfl rfl rfl rfl ent_24 (fun w hw => by have h := w_encode (cap := x0.1.2) x0.2 (rdN hw (hX x0 hx0m) (hXO x0 hx0m)) (hXl x0 hx0m); rw [encR_ok (hok x0 hx0m)] at h; exact h) ?_)
  refine RX.cons rfl rfl (op_w (yw_move rfl rfl) rfl rfl ?_)
  refine RX.cons rfl rfl (op_w (yw_extract rfl rfl rfl) rfl rfl ?_)
  refine RX.cons rfl rfl (op_w (yw_extract rfl rfl rfl) rfl rfl ?_)
  refine RX.cons rfl rfl (op_w (yw_assign rfl rfl) rfl rfl ?_)
  refine RX.cons rfl rfl (op_w (yw_assign rfl rfl) rfl rfl ?_)
  refine RX.nil (XX.next (V' := [(0, _), (1, _), (5, _), (8, _), (9, _), (14, _), (15, _), (16, _)]) ⟨rfl, rfl, rfl, rfl, rfl, rfl, rfl, rfl, trivial⟩ ?_)
  refine CX.seq ?_
  refine CX.seq ?_
  refine CX.region ?_
  refine RX.cons rfl rfl (op_w (yw_move rfl rfl) rfl rfl ?_)
  refine RX.cons rfl rfl (op_w (yw_neq rfl rfl rfl) rfl rfl ?_)
  refine RX.know (t := 26) (u := .bool false) rfl rfl ?_
  refine RX.nil (XX.next (V' := [(0, _), (1, _), (5, _), (8, _), (14, _), (15, _), (16, _), (26, _)]) ⟨rfl, rfl, rfl, rfl, rfl, rfl, rfl, rfl, trivial⟩ ?_)
  refine CX.condF rfl ?_
  refine CX.skip (XX.next (V' := [(0, _), (1, _), (5, _), (8, _), (14, _), (15, _), (16, _)]) ⟨rfl, rfl, rfl, rfl, rfl, rfl, rfl, trivial⟩ ?_)
  refine CX.region ?_
  refine RX.cons rfl rfl (op_w (yw_move rfl rfl) rfl rfl ?_)
  refine RX.cons rfl rfl (op_w (yw_move rfl rfl) rfl rfl ?_)
  refine RX.cons rfl rfl (op_buildSlice rfl rfl rfl slb_26 rfl rfl (by intro v hv; simp only [List.mem_cons, List.not_mem_nil, or_false] at hv; subst hv; exact ⟨rfl, (plain_of rfl)⟩) (by decide) fun g7 => ?_)
  refine RX.cons rfl rfl (op_appendM strC (i := 2) (j := 0) (xs := encs) ([encS x0.2]) rfl rfl rfl slb_26 rfl rfl rfl rfl rfl rfl (by simp only [List.length_singleton]; omega) (by simp only [List.length_singleton]; omega) fun B2 d2 => ?_)
  refine RX.cons rfl rfl (op_w (yw_assign rfl rfl) rfl rfl ?_)
  refine RX.nil (XX.inBlock (V' := [(0, _), (1, _), (5, _), (14, _), (15, _), (16, _)]) ⟨rfl, rfl, rfl, rfl, rfl, rfl, trivial⟩ ?_)
  refine XX.next (V' := [(0, _), (1, _), (5, _), (14, _), (15, _), (16, _)]) ⟨rfl, rfl, rfl, rfl, rfl, rfl, trivial⟩ ?_
  refine CX.region ?_
  refine RX.cons rfl rfl (op_w (yw_add rfl rfl rfl (by omega) (by omega)) rfl rfl ?_)
  refine RX.cons rfl rfl (op_w (yw_move rfl rfl) rfl rfl ?_)
  refine RX.nil (XX.againP ([.row (some ⟨g7, 0, none⟩) 1 9 1 (List.map strC ([encS x0.2])), .blk gl (.cells (stC x0) 25 (0, 0))]) (i + 1, (B2, d2), encs ++ [encS x0.2]) (by dsimp only; omega) ⟨by dsimp only; omega, by dsimp only; rw [hencs, take_succ hx0, List.map_append]; rfl⟩ ⟨rfl, rfl, rfl, rfl, rfl, rfl, trivial⟩ ((perm_pick 2 rfl).trans (List.Perm.cons _ ((perm_pick 2 rfl).trans (List.Perm.cons _ ((perm_pick 2 rfl).trans (List.Perm.cons _ ((perm_pick 2 rfl).trans (List.Perm.cons _ (List.Perm.refl _))))))))))
 ·have henc : encs = (X.map (fun x : SX => encS x.2)) := by rw [hencs, List.take_of_length_le (by omega)]
  refine CX.exit ?_
  refine XX.then_exit ?_
  refine XX.then_exit ?_
  refine XX.block_exit ?_
  refine XX.next (V' := [(0, _), (1, _), (5, _)]) ⟨rfl, rfl, rfl, trivial⟩ ?_
  refine CX.seq ?_
  refine CX.seq ?_
  refine CX.region ?_
  refine RX.cons rfl rfl (op_w (yw_move rfl rfl) rfl rfl ?_)
  refine RX.cons rfl rfl (op_callE rfl rfl rfl rfl rfl ent_25 (fun w hw => w_cloned X (rdN hw hr hAO) (fun x hx => rdN hw (hX x hx) (hXO x hx)) hXl hl) (fun zc hzc => ?_))
  refine RX.cons rfl rfl (op_w (yw_lenS rfl Tryz.underlying33 rfl) rfl rfl ?_)
  refine RX.cons rfl rfl (op_w (yw_move rfl rfl) rfl rfl ?_)
  refine RX.nil (XX.next (V' := [(0, _), (5, _), (33, _), (34, _), (35, _)]) ⟨rfl, rfl, rfl, rfl, rfl, trivial⟩ ?_)
  refine CX.block ?_
  have hYl : zc.2.length = X.length := by have := congrArg List.length hzc; simpa using this
  refine CX.loop (σ := Nat × ((Option Addr × Nat) × (Option Addr × Nat)) × List SX × List ByteArray × ByteArray) (fun z => [(0, .pointer (some ⟨gx, 0, none⟩)), (5, .slice B1 (List.length (encs : List ByteArray)) d1), (33, .slice zc.1.1 zc.2.length zc.1.2), (34, .int .i64 ((zc.2.length : Nat) : Int)), (35, .int .i64 ((z.1 : Nat) : Int))]) (fun z => [.row zc.1.1 zc.1.2 25 3 (List.map stC zc.2), pack (lns zc.2), .row B1 d1 9 1 (List.map strC encs), .blk gx (.cells (#[.slice z.2.1.1.1 (List.length (z.2.2.1 : List SX)) z.2.1.1.2, .slice z.2.1.2.1 (List.length (z.2.2.2.1 : List ByteArray)) z.2.1.2.2, .string z.2.2.2.2]) 58 (0, 0)), .row z.2.1.1.1 z.2.1.1.2 25 3 (List.map stC z.2.2.1), .row z.2.1.2.1 z.2.1.2.2 9 1 (List.map strC z.2.2.2.1)]) (fun z => z.1 ≤ X.length ∧ z.2.2.1 = X0 ++ zc.2.take z.1 ∧ z.2.2.2.1 = es0 ++ entsF hd0 (encs.take z.1) ∧ z.2.2.2.2 = headF hd0 (encs.take z.1) ∧ z.2.2.2.2.size ≤ 4294967296) (fun z => X.length - z.1) (0, ((A1, c1), (A2, c2)), X0, es0, hd0) ⟨Nat.zero_le _, by simp, by simp [entsF], rfl, hd0s⟩ ⟨rfl, rfl, rfl, rfl, rfl, trivial⟩ rfl (fun z hI => ?_)
  obtain ⟨j, ⟨⟨E1, f1⟩, ⟨E2, f2⟩⟩, Xs, es, hd⟩ := z
  dsimp only at hI ⊢
  obtain ⟨hj, hXs, hes, hhd, hhs⟩ := hI
  refine CX.seq ?_
  refine CX.region ?_
  refine RX.cons rfl rfl (op_w (yw_lss rfl rfl rfl) rfl rfl ?_)
  refine RX.nil (XX.next (V' := [(0, _), (5, _), (33, _), (34, _), (35, _), (36, _)]) ⟨rfl, rfl, rfl, rfl, rfl, rfl, trivial⟩ ?_)
  refine CX.seq ?_
  refine CX.condD (p := ((j : Nat) : Int) < ((zc.2.length : Nat) : Int)) rfl (fun c36 => ?_) (fun c36 => ?_)
  ·obtain ⟨y0, hy0⟩ := get_some (l := zc.2) (k := j) (by omega)
   obtain ⟨e0, he0'⟩ := get_some (l := encs) (k := j) (by omega)
   refine CX.rowSome 0 rfl (by simp; omega) (fun hAy => ?_)
   refine CX.rowSome 2 rfl (by simp; omega) (fun hAe => ?_)
   have hes0 : e0.size ≤ 4294967296 := by
     rw [henc] at he0'
     obtain ⟨x, hx, rfl⟩ := List.mem_map.1 (List.mem_of_getElem? he0')
     have h1 := encS_size x.2
     have h2 := hXl x hx
     omega
   refine CX.skip (XX.next (V' := [(0, _), (5, _), (33, _), (34, _), (35, _)]) ⟨rfl, rfl, rfl, rfl, rfl, trivial⟩ ?_)
   refine CX.seq ?_
   refine CX.block ?_
   refine CX.seq ?_
   refine CX.region ?_
   refine RX.cons rfl rfl (op_w (yw_move rfl rfl) rfl rfl ?_)
   refine RX.cons rfl rfl (op_w (yw_index (k := j) rfl slt_33 rfl rfl (by omega) (by omega) hAy) rfl rfl ?_)
   refine RX.cons rfl rfl (op_yld (y_rowElem (i := 0) rfl rfl agg_25 rfl (map_get hy0)) rfl rfl ?_)
   refine RX.cons rfl rfl (op_alloc rfl rfl rfl zero_25 fun gm => ?_)
   refine RX.cons rfl rfl (op_w (yw_assign rfl rfl) rfl rfl ?_)
   refine RX.cons rfl rfl (op_storeAll (i := 0) rfl rfl rfl rfl szt_25 rfl (plain_of rfl) rfl rfl ?_)
   refine RX.nil (XX.next (V' := [(0, _), (5, _), (10, _), (11, _), (33, _), (34, _), (35, _)]) ⟨rfl, rfl, rfl, rfl, rfl, rfl, rfl, trivial⟩ ?_)
   refine CX.draw 8 [(0, 1, 1099511627776), (1, 1099511627776, 2199023255552), (2, 2199023255552, 4398046511104), (0, 2048, 8796093022208), (0, 32, 17592186044416), (0, 1024, 35184372088832), (48, 52776558133248, 70368744177664), (64, 70368744177664, 140737488355328), (140, 153931627888640, 281474976710656)] (by kernel_rfl) (by kernel_rfl) (by kernel_rfl) ?_
   refine DX.takeW 0 1 (by kernel_rfl) rfl rfl rfl rfl rfl (yw_move rfl rfl) ?_
   refine DX.takeW 1 3 (by kernel_rfl) rfl rfl rfl rfl rfl (yw_nilCheck rfl rfl) ?_
   refine DX.takeW 2 7 (by kernel_rfl) rfl rfl rfl rfl rfl (yw_field0 rfl fld_58_0 rfl) ?_
   refine DX.take 3 15 (by kernel_rfl) rfl rfl rfl rfl rfl (List.Sublist.refl _) (y_loadA (i := 0) rfl rfl agg_25 rfl rfl) ?_
   refine DX.takeW 4 31 (by kernel_rfl) rfl rfl rfl rfl rfl (yw_move rfl rfl) ?_
   refine DX.takeW 5 63 (by kernel_rfl) rfl rfl rfl rfl rfl (yw_move rfl rfl) ?_
   refine DX.takeW 6 127 (by kernel_rfl) rfl rfl rfl rfl rfl (yw_index (k := j) rfl slt_26 rfl rfl (by omega) (by omega) hAe) ?_
   refine DX.take 7 255 (by kernel_rfl) rfl rfl rfl rfl rfl (List.Sublist.refl _) (y_rowElem1 (i := 3) rfl rfl one_9 rfl (map_get he0')) ?_
   refine DX.stepT 8 511 (by kernel_rfl) rfl rfl rfl rfl (op_callP [.blk gx (.cells (#[.slice E1 (List.length (Xs : List SX)) f1, .slice E2 (List.length (es : List ByteArray)) f2, .string hd]) 58 (0, 0)), .row E1 f1 25 3 (List.map stC Xs), .row E2 f2 9 1 (List.map strC es)] [.blk gm (.cells (stC y0) 25 (0, 0)), .row zc.1.1 zc.1.2 25 3 (List.map stC zc.2), pack (lns zc.2), .row B1 d1 9 1 (List.map strC encs)] rfl rfl rfl rfl rfl ent_26 ((perm_pick 4 rfl).trans (List.Perm.cons _ ((perm_pick 4 rfl).trans (List.Perm.cons _ ((perm_pick 4 rfl).trans (List.Perm.cons _ (List.Perm.refl _))))))) (σ := (Option Addr × Nat) × (Option Addr × Nat)) (val := fun _ => .tuple #[]) (LL := fun z => [.blk gx (.cells (#[.slice z.1.1 (List.length ((Xs ++ [y0]) : List SX)) z.1.2, .slice z.2.1 (List.length ((es ++ [entB (chainH sum hd e0) e0]) : List ByteArray)) z.2.2, .string (chainH sum hd e0)]) 58 (0, 0)), .row z.1.1 z.1.2 25 3 (List.map stC (Xs ++ [y0])), .row z.2.1 z.2.2 9 1 (List.map strC (es ++ [entB (chainH sum hd e0) e0]))]) (post := fun _ => True) (fun w hw hs => w_grow Xs es hd y0 e0 (hG.keep hw hg0) (hw.no0 hg0 hG) (by rw [hXs, List.length_append, List.length_take]; omega) (by rw [hes, List.length_append, entsF_length, List.length_take]; omega) hhs hes0 hs) (fun zg _ => ?_))
   refine DX.done (by kernel_rfl) (XX.inBlock (V' := [(0, _), (5, _), (33, _), (34, _), (35, _)]) ⟨rfl, rfl, rfl, rfl, rfl, trivial⟩ ?_)
   refine XX.next (V' := [(0, _), (5, _), (33, _), (34, _), (35, _)]) ⟨rfl, rfl, rfl, rfl, rfl, trivial⟩ ?_
   refine CX.region ?_
   refine RX.cons rfl rfl (op_w (yw_add rfl rfl rfl (by omega) (by omega)) rfl rfl ?_)
   refine RX.cons rfl rfl (op_w (yw_move rfl rfl) rfl rfl ?_)
   refine RX.nil (XX.againP ([.blk gm (.cells (stC y0) 25 (0, 0))]) (j + 1, zg, Xs ++ [y0], es ++ [entB (chainH sum hd e0) e0], chainH sum hd e0) (by dsimp only; omega) ⟨by dsimp only; omega, by dsimp only; rw [hXs, take_succ hy0, List.append_assoc], by dsimp only; rw [hes, take_succ he0', entsF_snoc, ← hhd, List.append_assoc], by dsimp only; rw [take_succ he0', headF_snoc, ← hhd], by dsimp only; rw [show (chainH sum hd e0).size = 32 from sum_size _]; decide⟩ ⟨rfl, rfl, rfl, rfl, rfl, trivial⟩ ((perm_pick 4 rfl).trans (List.Perm.cons _ ((perm_pick 4 rfl).trans (List.Perm.cons _ ((perm_pick 4 rfl).trans (List.Perm.cons _ ((perm_pick 0 rfl).trans (List.Perm.cons _ ((perm_pick 0 rfl).trans (List.Perm.cons _ ((perm_pick 0 rfl).trans (List.Perm.cons _ (List.Perm.refl _))))))))))))))
  ·refine CX.exit ?_
   refine XX.then_exit ?_
   refine XX.then_exit ?_
   refine XX.block_exit ?_
   refine XX.next (V' := []) trivial ?_
   refine CX.seq ?_
   refine CX.region ?_
   refine RX.cons rfl rfl (op_w (yw_assign rfl rfl) rfl rfl ?_)
   refine RX.nil (XX.next (V' := [(4, .int .i64 0)]) ⟨rfl, trivial⟩ ?_)
   refine CX.ret ?_
   exact ret_tmp rfl rfl fun w1 hw => ⟨(((E1, f1), (E2, f2)), zc.2), hzc, rfl, by have h9 := hw.pick (L' := [.blk gx (.cells (#[.slice E1 (List.length (Xs : List SX)) f1, .slice E2 (List.length (es : List ByteArray)) f2, .string hd]) 58 (0, 0)), .row E1 f1 25 3 (List.map stC Xs), .row E2 f2 9 1 (List.map strC es), pack (lns zc.2)]) (R := [.row zc.1.1 zc.1.2 25 3 (List.map stC zc.2), .row B1 d1 9 1 (List.map strC encs)]) ((perm_pick 3 rfl).trans (List.Perm.cons _ ((perm_pick 3 rfl).trans (List.Perm.cons _ ((perm_pick 3 rfl).trans (List.Perm.cons _ ((perm_pick 1 rfl).trans (List.Perm.cons _ (List.Perm.refl _))))))))); rw [hXs, hes, hhd, List.take_of_length_le (by omega), List.take_of_length_le (by omega), henc] at h9; exact h9⟩

end Go.Proofs.YtnadipjlhlbfoaaGreatDoor
namespace Go.Proofs.YtnadipjlhlbfoaaGreatDoor
set_option linter.all false
open Go Go.RowKit
section
variable {P : Program} {n : Nat} {D : List Deferred} {o : Oper} {V : List (Nat × Value)}
/-- x[lo:hi] -/
theorem yw_sliceMid {t e : TypeId} {x l h : Operand} {A : Option Addr} {b q0 len cap sz i j mm cc : Nat} {qi qj : Int} (hA : A = some ⟨b, q0, none⟩) (ho : o.op = .slice t x (some l) (some h) none) (ht : SlT P t e sz) (hx : ev V x = some (.slice A len cap)) (hl : ev V l = some (.int .i64 qi)) (hh : ev V h = some (.int .i64 qj))
    (e1 : qi = (i : Int)) (e2 : qj = (j : Int)) (h1 : i ≤ j) (h2 : j ≤ cap) (h4 : i < cap) (hmm : j - i = mm) (hcc : cap - i = cc) :
    YldW P n D o V (.slice (some ⟨b, q0 + i * sz, none⟩) mm cc) := by
  intro a w ha
  subst hA
  obtain ⟨f, g1, g2, g3⟩ := ht
  subst e1; subst e2; subst g3; subst hmm; subst hcc
  have a1 : (i : Int) ≤ (j : Int) := by omega
  have a3 : (j : Int) ≤ (cap : Int) := by omega
  have a4 : ¬ cap = i := by omega
  have := add_none
  simp [execOp, ho, ha.eval hx, ha.eval hl, ha.eval hh, Instr.sliceAt, Instr.slice, run_underlying g1, Instr.sliceBounds, Instr.sliceBound, asIntOf, h1, h2, sizeOf, typeInfo, g2, a4, add_none]
end
theorem Rd.mid {α : Type} {f : α → Array Value} {w : World} {A : Option Addr} {b q0 sz : Nat} {xs : List α} (h : Rd w A sz (xs.map f)) (hA : A = Option.some ⟨b, q0, none⟩) {k : Nat} {x : α} (hx : xs[k]? = Option.some x) : Rd w (Option.some ⟨b, q0 + k * sz, none⟩) sz ([x].map f) := by
  have h1 := (h.dropM hA k).takeM 1
  have hk := (List.getElem?_eq_some_iff.1 hx).1
  have e : (xs.drop k).take 1 = [x] := by
    rw [List.drop_eq_getElem_cons hk, List.take_succ_cons, List.take_zero]
    rw [List.getElem?_eq_getElem hk, Option.some.injEq] at hx
    rw [hx]
  rw [e] at h1
  exact h1
/-- A row with an element lies somewhere. -/
theorem Ent.rowAt {w : World} {A : Option Addr} {cap : Nat} {e : TypeId} {sz : Nat} {xs : List (Array Value)} (h : (Ent.row A cap e sz xs).sat w) (hl : 0 < xs.length) : ∃ g, A = Option.some ⟨g, 0, none⟩ := by
  obtain ⟨⟨_, h2⟩, _⟩ := h
  rcases h2 with ⟨_, h0⟩ | ⟨g, c, cur, hv, _⟩
  · omega
  · injection hv with hA _ _
    exact ⟨g, hA⟩
end Go.Proofs.YtnadipjlhlbfoaaGreatDoor
namespace Go.Proofs.YtnadipjlhlbfoaaGreatDoor
set_option linter.all false
open Go Go.RowKit
set_option maxRecDepth 100000
/-! ### A log as one entry -/
abbrev LZ := (Option Addr × Nat) × (Option Addr × Nat)
def encsX (X : List SX) : List ByteArray := X.map fun x => encS x.2
def headX (X : List SX) : ByteArray := headF zero32 (encsX X)
def entsX (X : List SX) : List ByteArray := entsF zero32 (encsX X)
theorem encsX_append (X Y : List SX) : encsX (X ++ Y) = encsX X ++ encsX Y := by simp [encsX]
theorem headX_append (X Y : List SX) : headX (X ++ Y) = headF (headX X) (encsX Y) := by rw [headX, encsX_append, headF_append]; rfl
theorem entsX_append (X Y : List SX) : entsX (X ++ Y) = entsX X ++ entsF (headX X) (encsX Y) := by rw [entsX, encsX_append, entsF_append]; rfl
theorem entsX_length (X : List SX) : (entsX X).length = X.length := by rw [entsX, entsF_length]; simp [encsX]
theorem headF_size (hd : ByteArray) (h : hd.size = 32) : ∀ l : List ByteArray, (headF hd l).size = 32
  | [] => h
  | e :: r => headF_size (chainH sum hd e) (sum_size _) r
theorem headX_size (X : List SX) : (headX X).size = 32 := headF_size _ rfl _
theorem encsX_of {X Y : List SX} (h : X.map (·.2) = Y.map (·.2)) : encsX X = encsX Y := by
  have : ∀ Z : List SX, encsX Z = (Z.map (·.2)).map encS := fun Z => by simp [encsX]
  rw [this, this, h]
theorem entsX_of {X Y : List SX} (h : X.map (·.2) = Y.map (·.2)) : entsX X = entsX Y := by rw [entsX, entsX, encsX_of h]
theorem headX_of {X Y : List SX} (h : X.map (·.2) = Y.map (·.2)) : headX X = headX Y := by rw [headX, headX, encsX_of h]
theorem entsF_sizes {b : Nat} : ∀ (l : List ByteArray) (hd : ByteArray), (∀ e ∈ l, e.size ≤ b) → ∀ s ∈ entsF hd l, s.size ≤ 32 + b
  | [], _, _, s, hs => by simp [entsF] at hs
  | e :: r, hd, h, s, hs => by
    rw [entsF] at hs
    rcases List.mem_cons.1 hs with rfl | hs
    · rw [entB, ByteArray.size_append, sum_size]
      have := h e List.mem_cons_self
      omega
    · exact entsF_sizes r _ (fun x hx => h x (List.mem_cons_of_mem _ hx)) s hs
theorem entsX_sizes {X : List SX} (hl : ∀ x ∈ X, x.2.ls.length ≤ 1000000) : ∀ s ∈ entsX X, s.size ≤ 4294967296 := by
  intro s hs
  have := entsF_sizes (b := 30000030) (encsX X) zero32 (fun e he => by
    obtain ⟨x, hx, rfl⟩ := List.mem_map.1 he
    have h1 := encS_size x.2
    have h2 := hl x hx
    omega) s hs
  omega
/-- A log's entries: its block, the statements' row, the entries' row, the statements' lines. -/
def logTop (g : Nat) (z : LZ) (X : List SX) : List Ent := [.blk g (.cells #[.slice z.1.1 X.length z.1.2, .slice z.2.1 (entsX X).length z.2.2, .string (headX X)] 58 (0, 0)), .row z.1.1 z.1.2 25 3 (X.map stC), .row z.2.1 z.2.2 9 1 ((entsX X).map strC)]
def logE (g : Nat) (z : LZ) (X : List SX) : Ent := pack (logTop g z X ++ lns X)
/-- What can be read of a log. -/
structure LogAt (w : World) (g : Nat) (z : LZ) (X : List SX) : Prop where
  c0 : w.cell? ⟨g, 0, none⟩ = some (.slice z.1.1 X.length z.1.2)
  c1 : w.cell? ⟨g, 1, none⟩ = some (.slice z.2.1 (entsX X).length z.2.2)
  rX : Rd w z.1.1 3 (X.map stC)
  rE : Rd w z.2.1 1 ((entsX X).map strC)
  rL : ∀ x ∈ X, Rd w x.1.1 3 (x.2.ls.map lnC)
  cX : X.length ≤ z.1.2
  cE : (entsX X).length ≤ z.2.2
theorem logE_at {w : World} {g : Nat} {z : LZ} {X : List SX} (h : (logE g z X).sat w) : LogAt w g z X := by
  have h' : ∀ e ∈ logTop g z X ++ lns X, e.sat w := h
  have hb : w.heap[g]? = some (.cells #[.slice z.1.1 X.length z.1.2, .slice z.2.1 (entsX X).length z.2.2, .string (headX X)] 58 (0, 0)) := h' (.blk g _) (by simp [logTop])
  have h1 : (Ent.row z.1.1 z.1.2 25 3 (X.map stC)).sat w := h' _ (by simp [logTop])
  have h2 : (Ent.row z.2.1 z.2.2 9 1 ((entsX X).map strC)).sat w := h' _ (by simp [logTop])
  refine ⟨?_, ?_, Ent.rd h1, Ent.rd h2, fun x hx => ?_, ?_, ?_⟩
  · rw [cell_of_row w g 0 _ _ _ hb]; rfl
  · rw [cell_of_row w g 1 _ _ _ hb]; rfl
  · exact Ent.rd (h' (.row x.1.1 x.1.2 77 3 (x.2.ls.map lnC)) (List.mem_append_right _ (List.mem_map.2 ⟨x, hx, rfl⟩)))
  · have := Ent.capLe h1; rwa [List.length_map] at this
  · have := Ent.capLe h2; rwa [List.length_map] at this
theorem SL.logAt {w0 w : World} {O : List Nat} {L : List Ent} (hw : SL w0 O w L) {i g : Nat} {z : LZ} {X : List SX} (hL : L[i]? = some (logE g z X)) : LogAt w g z X := logE_at (hw.ents _ (List.mem_of_getElem? hL))
theorem LogAt.keep {w0 w : World} {L : List Ent} {g : Nat} {z : LZ} {X : List SX} (h : LogAt w0 g z X) (hw : SL w0 [] w L) : LogAt w g z X :=
  ⟨hw.keepC h.c0 (by simp), hw.keepC h.c1 (by simp), hw.rd h.rX (by simp), hw.rd h.rE (by simp), fun x hx => hw.rd (h.rL x hx) (by simp), h.cX, h.cE⟩
end Go.Proofs.YtnadipjlhlbfoaaGreatDoor
namespace Go.Proofs.YtnadipjlhlbfoaaGreatDoor
set_option linter.all false
open Go Go.RowKit
set_option maxRecDepth 100000
theorem zero_28 : Zero Tryz.prog 28 (.agg (#[.int .i64 0, .int .i64 0, .slice none 0 0, .int .i64 0, .int .i64 0, .string .empty, .slice none 0 0])) := ⟨(Tryz.prog.info? 28).get!, by kernel_rfl, by kernel_rfl⟩
theorem ent_32 : ∀ args w, (callFunc 32 args).run Tryz.prog w = .ok (.enter 32 args) w := enters_of Tryz.func32 (by kernel_rfl) rfl
theorem ent_33 : ∀ args w, (callFunc 33 args).run Tryz.prog w = .ok (.enter 33 args) w := enters_of Tryz.func33 (by kernel_rfl) rfl
theorem szt_28 : SzT Tryz.prog 28 7 := ⟨(Tryz.prog.info? 28).get!, by kernel_rfl, by kernel_rfl⟩
theorem agg_28 : AggT Tryz.prog 28 7 := ⟨_, _, Tryz.underlying28, rfl, (by kernel_rfl : Tryz.prog.info? 28 = some (Tryz.prog.info? 28).get!), by kernel_rfl⟩
/-- cloned of one statement. -/
theorem w_cloned1 {w : World} {A : Option Addr} {cap : Nat} (x : SX) (hr : Rd w A 3 ([x].map stC)) (hX : Rd w x.1.1 3 (x.2.ls.map lnC)) (hXl : x.2.ls.length ≤ 1000000) :
    Calls Tryz.prog 25 #[.slice A 1 cap] w (fun e w' => ∃ z : (Nat × Nat) × (Option Addr × Nat), True ∧ e = .returned (.slice (some ⟨z.1.1, 0, none⟩) 1 z.1.2) ∧ SL w [] w' [.row (some ⟨z.1.1, 0, none⟩) z.1.2 25 3 (List.map stC [((z.2, x.2) : SX)]), .row z.2.1 z.2.2 77 3 (x.2.ls.map lnC)]) := by
  refine (w_cloned [x] hr (by intro y hy; simp at hy; rw [hy]; exact hX) (by intro y hy; simp at hy; rw [hy]; exact hXl) (by simp)).mono ?_
  rintro e w' ⟨⟨⟨A2, c2⟩, Z⟩, hz, he, hw⟩
  dsimp only at hz he hw
  obtain ⟨y, rfl⟩ : ∃ y, Z = [y] := List.length_eq_one_iff.1 (by have := congrArg List.length hz; simpa using this)
  have hy : y.2 = x.2 := by simpa using hz
  obtain ⟨g, rfl⟩ := Ent.rowAt (hw.ents _ List.mem_cons_self) (by simp)
  have h1 := SL.unpack (es := lns [y]) (hw.perm (List.Perm.swap _ _ _))
  have ey : y = (y.1, x.2) := by rw [← hy]
  rw [ey] at h1 he
  exact ⟨((g, c2), y.1), trivial, he, h1.perm (List.Perm.swap _ _ _)⟩
/-- The salt of an entry. -/
def saltX (X : List SX) (i : Nat) : ByteArray := sum (saltB ++ headX (X.take (i + 1)))
theorem saltX_size (X : List SX) (i : Nat) : (saltX X i).size = 32 := sum_size _
theorem take_snoc {α : Type} {l : List α} {i : Nat} {x : α} (h : l[i]? = some x) : l = l.take i ++ x :: l.drop (i + 1) := by rw [← drop_get h, List.take_append_drop]
theorem entsX_get {X : List SX} {i : Nat} {x : SX} (h : X[i]? = some x) : (entsX X)[i]? = some (saltX X i ++ encS x.2) := by
  have e : entsX X = entsX (X.take i) ++ entsF (headX (X.take i)) (encsX (x :: X.drop (i + 1))) := by rw [← entsX_append, ← take_snoc h]
  have hi := (List.getElem?_eq_some_iff.1 h).1
  have hl : (entsX (X.take i)).length = i := by rw [entsX_length, List.length_take]; omega
  rw [e, List.getElem?_append_right (by omega), hl, Nat.sub_self]
  show some (entB (chainH sum (headX (X.take i)) (encS x.2)) (encS x.2)) = _
  rw [entB, saltX, take_succ h, headX_append]
  rfl
theorem extract_left {a b : ByteArray} (h : a.size = 32) : ByteArray.extract (a ++ b) 0 32 = a := by
  have h1 : a.data.size = 32 := h
  apply ByteArray.ext
  apply Array.ext'
  rw [ByteArray.data_extract, ByteArray.data_append, Array.toList_extract, Array.toList_append, List.extract_eq_drop_take, List.drop_zero, List.take_left']
  rw [Array.length_toList, h1]
/-- What a proof is, in memory. -/
abbrev prC (s : Stm) (i n : Nat) (salt : ByteArray) (path : List ByteArray) (z : LZ) : Array Value := #[.int .i64 s.h, .int .i64 s.c, .slice z.1.1 s.ls.length z.1.2, .int .i64 ((i : Nat) : Int), .int .i64 ((n : Nat) : Int), .string salt, .slice z.2.1 path.length z.2.2]
set_option maxRecDepth 100000 in
theorem w_prove {w : World} {g : Nat} {z : LZ} (X : List SX) (hL : LogAt w g z X) (hXl : ∀ x ∈ X, x.2.ls.length ≤ 1000000) (hl : X.length ≤ 1000000) (hG : Rounds w) (i : Nat) (x0 : SX) (hx0 : X[i]? = some x0) :
    Calls Tryz.prog 14 #[.pointer (some ⟨g, 0, none⟩), .int .i64 ((i : Nat) : Int)] w (fun e w' => ∃ y : LZ, True ∧ e = .returned (.tuple #[.agg (prC x0.2 i X.length (saltX X i) ((path sum (entsX X) i).reverse) y), .int .i64 0]) ∧ SL w [] w' [.row y.1.1 y.1.2 77 3 (List.map lnC (Stm.ls x0.2)), .row y.2.1 y.2.2 9 1 (List.map strC ((path sum (entsX X) i).reverse))]) := by
 have hx0m := List.mem_of_getElem? hx0
 have hi := (List.getElem?_eq_some_iff.1 hx0).1
 have hel := entsX_length X
 have hcX := hL.cX
 have hAX : ∃ b j, z.1.1 = some ⟨b, j, none⟩ := hL.rX.some (k := i) (by simp; omega)
 have hAE : ∃ b j, z.2.1 = some ⟨b, j, none⟩ := hL.rE.some (k := i) (by simp; omega)
 obtain ⟨b0, q0, hA0⟩ := hAX
 have hr0 := hL.rX.mid hA0 hx0
 refine calls_of_CX (O := []) (L := []) (args := [.pointer (some ⟨g, 0, none⟩), .int .i64 ((i : Nat) : Int)]) Tryz.func14 rfl (by simp [Tryz.ntmps14]) (SL.refl w) ?_
 refine CX.sub (V' := [(0, .pointer (some ⟨g, 0, none⟩)), (1, .int .i64 ((i : Nat) : Int))]) ⟨rfl, rfl, trivial⟩ ?_
 refine CX.seq ?_
 refine CX.region ?_
 refine RX.cons rfl rfl (op_alloc rfl rfl rfl zero_28 fun gp => ?_)
 refine RX.cons rfl rfl (op_w (yw_assign rfl rfl) rfl rfl ?_)
 refine RX.nil (XX.next (V' := [(0, _), (1, _), (4, .pointer (some ⟨gp, 0, none⟩))]) ⟨rfl, rfl, rfl, trivial⟩ ?_)
 refine CX.seq ?_
 refine CX.block ?_
 refine CX.seq ?_
 refine CX.region ?_
 refine RX.cons rfl rfl (op_w (yw_move rfl rfl) rfl rfl ?_)
 refine RX.cons rfl rfl (op_w (yw_ptrSome rfl ptrt_30 rfl rfl) rfl rfl ?_)
 refine RX.cons rfl rfl (op_w (yw_assign rfl rfl) rfl rfl ?_)
 refine RX.nil (XX.next (V' := [(0, _), (1, _), (4, .pointer (some ⟨gp, 0, none⟩)), (8, _)]) ⟨rfl, rfl, rfl, rfl, trivial⟩ ?_)
 refine CX.condF rfl ?_
 refine CX.seq ?_
 refine CX.region ?_
 refine RX.cons rfl rfl (op_w (yw_move rfl rfl) rfl rfl ?_)
 refine RX.cons rfl rfl (op_w (yw_nilCheck rfl rfl) rfl rfl ?_)
 refine RX.cons rfl rfl (op_w (yw_field0 rfl fld_58_0 rfl) rfl rfl ?_)
 refine RX.cons rfl rfl (op_w (yw_move rfl rfl) rfl rfl ?_)
 refine RX.cons rfl rfl (op_callV (v := .bool (decide (0 ≤ ((i : Nat) : Int)) && decide (((i : Nat) : Int) < ((X.length : Nat) : Int)))) rfl rfl rfl rfl rfl ent_32 (fun w hw => w_has ((i : Nat) : Int) (hL.keep hw).c0) ?_)
 refine RX.know (t := 17) (u := .bool true) rfl (congrArg Value.bool (by simp; omega)) ?_
 refine RX.cons rfl rfl (op_w (yw_not rfl rfl) rfl rfl ?_)
 refine RX.cons rfl rfl (op_w (yw_assign rfl rfl) rfl rfl ?_)
 refine RX.nil (XX.next (V' := [(0, _), (1, _), (4, .pointer (some ⟨gp, 0, none⟩)), (12, _)]) ⟨rfl, rfl, rfl, rfl, trivial⟩ ?_)
 refine CX.condF rfl ?_
 refine CX.skip (XX.inBlock (V' := [(0, _), (1, _), (4, .pointer (some ⟨gp, 0, none⟩))]) ⟨rfl, rfl, rfl, trivial⟩ ?_)
 refine XX.next (V' := [(0, _), (1, _), (4, .pointer (some ⟨gp, 0, none⟩))]) ⟨rfl, rfl, rfl, trivial⟩ ?_
 refine CX.seq ?_
 refine CX.region ?_
 refine RX.cons rfl rfl (op_w (yw_move rfl rfl) rfl rfl ?_)
 refine RX.cons rfl rfl (op_w (yw_nilCheck rfl rfl) rfl rfl ?_)
 refine RX.cons rfl rfl (op_w (yw_field0 rfl fld_58_0 rfl) rfl rfl ?_)
 refine RX.cons rfl rfl (op_w (yw_fieldAddr rfl fld_56_1 rfl) rfl rfl ?_)
 refine RX.cons rfl rfl (op_yld (y_loadG (v := .slice z.2.1 ((entsX X).length) z.2.2) rfl rfl one_26 hL.c1 (by simp)) rfl rfl ?_)
 refine RX.cons rfl rfl (op_w (yw_move rfl rfl) rfl rfl ?_)
 refine RX.cons rfl rfl (op_callE rfl rfl rfl rfl rfl ent_33 (fun w hw => w_proof (entsX X) i (hG.keep hw (by simp)) (hw.rd hL.rE (by simp)) hL.cE (by omega) (entsX_sizes hXl) (by omega)) (fun zp _ => ?_))
 refine RX.cons rfl rfl (op_w (yw_move rfl rfl) rfl rfl ?_)
 refine RX.cons rfl rfl (op_w (yw_extract rfl rfl rfl) rfl rfl ?_)
 refine RX.cons rfl rfl (op_w (yw_extract rfl rfl rfl) rfl rfl ?_)
 refine RX.cons rfl rfl (op_w (yw_assign rfl rfl) rfl rfl ?_)
 refine RX.cons rfl rfl (op_w (yw_assign rfl rfl) rfl rfl ?_)
 refine RX.nil (XX.next (V' := [(0, _), (1, _), (4, .pointer (some ⟨gp, 0, none⟩)), (6, _)]) ⟨rfl, rfl, rfl, rfl, trivial⟩ ?_)
 refine CX.seq ?_
 refine CX.draw 30 [(0, 1, 1073741824), (1, 1073741824, 2147483648), (2, 2147483648, 4294967296), (4, 4294967296, 8589934592), (8, 8589934592, 17179869184), (0, 2, 34359738368), (0, 2, 68719476736), (64, 68719476736, 137438953472), (176, 188978561024, 274877906944), (256, 274877906944, 549755813888), (512, 549755813888, 1099511627776), (1024, 1099511627776, 2199023255552), (0, 2, 4398046511104), (0, 1, 8796093022208), (8192, 8796093022208, 17592186044416), (16384, 17592186044416, 35184372088832), (32768, 35184372088832, 70368744177664), (65536, 70368744177664, 140737488355328), (131072, 140737488355328, 281474976710656), (0, 1, 562949953421312), (524288, 562949953421312, 1125899906842624), (1048576, 1125899906842624, 2251799813685248), (2097152, 2251799813685248, 4503599627370496), (4194304, 4503599627370496, 9007199254740992), (0, 2, 18014398509481984), (25165824, 27021597764222976, 36028797018963968), (33554432, 36028797018963968, 72057594037927936), (67108864, 72057594037927936, 144115188075855872), (0, 64, 288230376151711744), (402921472, 432633636274044928, 576460752303423488), (1073741823, 576460752303423504, 0), (2147483647, 0, 32)] (by kernel_rfl) (by kernel_rfl) (by kernel_rfl) ?_
 refine DX.takeW 0 1 (by kernel_rfl) rfl rfl rfl rfl rfl (yw_move rfl rfl) ?_
 refine DX.takeW 1 3 (by kernel_rfl) rfl rfl rfl rfl rfl (yw_nilCheck rfl rfl) ?_
 refine DX.takeW 2 7 (by kernel_rfl) rfl rfl rfl rfl rfl (yw_field0 rfl fld_58_0 rfl) ?_
 refine DX.takeW 3 15 (by kernel_rfl) rfl rfl rfl rfl rfl (yw_field0 rfl fld_56_0 rfl) ?_
 refine DX.take 4 31 (by kernel_rfl) rfl rfl rfl rfl rfl (List.Sublist.refl _) (y_loadG (v := .slice z.1.1 X.length z.1.2) rfl rfl one_33 hL.c0 (by simp)) ?_
 refine DX.takeW 5 63 (by kernel_rfl) rfl rfl rfl rfl rfl (yw_move rfl rfl) ?_
 refine DX.takeW 6 127 (by kernel_rfl) rfl rfl rfl rfl rfl (yw_move rfl rfl) ?_
 refine DX.takeW 7 255 (by kernel_rfl) rfl rfl rfl rfl rfl (yw_add rfl rfl rfl (by omega) (by omega)) ?_
 refine DX.takeW 8 511 (by kernel_rfl) rfl rfl rfl rfl rfl (yw_sliceMid (i := i) (j := i + 1) (mm := 1) (cc := z.1.2 - i) hA0 rfl slt_33 rfl rfl rfl rfl (by omega) (by omega) (by omega) (by omega) (by omega) rfl) ?_
 refine DX.takeW 12 4607 (by kernel_rfl) rfl rfl rfl rfl rfl (yw_move rfl rfl) ?_
 refine DX.takeW 13 12799 (by kernel_rfl) rfl rfl rfl rfl rfl (yw_move rfl rfl) ?_
 refine DX.takeW 14 29183 (by kernel_rfl) rfl rfl rfl rfl rfl (yw_nilCheck rfl rfl) ?_
 refine DX.takeW 15 61951 (by kernel_rfl) rfl rfl rfl rfl rfl (yw_field0 rfl fld_58_0 rfl) ?_
 refine DX.takeW 16 127487 (by kernel_rfl) rfl rfl rfl rfl rfl (yw_fieldAddr rfl fld_56_1 rfl) ?_
 refine DX.take 17 258559 (by kernel_rfl) rfl rfl rfl rfl rfl (List.Sublist.refl _) (y_loadG (v := .slice z.2.1 ((entsX X).length) z.2.2) rfl rfl one_26 hL.c1 (by simp)) ?_
 refine DX.takeW 18 520703 (by kernel_rfl) rfl rfl rfl rfl rfl (yw_lenS rfl Tryz.underlying26 rfl) ?_
 refine DX.know (t := 48) (u := .int .i64 ((X.length : Nat) : Int)) rfl (congrArg (fun n : Nat => Value.int .i64 ((n : Nat) : Int)) (entsX_length X)) ?_
 refine DX.takeW 19 1044991 (by kernel_rfl) rfl rfl rfl rfl rfl (yw_move rfl rfl) ?_
 refine DX.takeW 20 2093567 (by kernel_rfl) rfl rfl rfl rfl rfl (yw_nilCheck rfl rfl) ?_
 refine DX.takeW 21 4190719 (by kernel_rfl) rfl rfl rfl rfl rfl (yw_field0 rfl fld_58_0 rfl) ?_
 refine DX.takeW 22 8385023 (by kernel_rfl) rfl rfl rfl rfl rfl (yw_fieldAddr rfl fld_56_1 rfl) ?_
 refine DX.take 23 16773631 (by kernel_rfl) rfl rfl rfl rfl rfl (List.Sublist.refl _) (y_loadG (v := .slice z.2.1 ((entsX X).length) z.2.2) rfl rfl one_26 hL.c1 (by simp)) ?_
 refine DX.takeW 24 33550847 (by kernel_rfl) rfl rfl rfl rfl rfl (yw_move rfl rfl) ?_
 refine DX.takeW 25 67105279 (by kernel_rfl) rfl rfl rfl rfl rfl (yw_index (k := i) rfl slt_26 rfl rfl (by omega) (by omega) hAE) ?_
 refine DX.take 26 134214143 (by kernel_rfl) rfl rfl rfl rfl rfl (List.Sublist.refl _) (y_elem1 rfl rfl one_9 hL.rE (by simp) (map_get (entsX_get hx0))) ?_
 refine DX.takeW 27 268431871 (by kernel_rfl) rfl rfl rfl rfl rfl (yw_strTo (k := 32) rfl Tryz.underlying9 rfl rfl rfl (by rw [ByteArray.size_append, saltX_size]; omega)) ?_
 refine DX.know (t := 57) (u := .string (saltX X i)) rfl (congrArg Value.string (extract_left (saltX_size X i))) ?_
 refine DX.takeW 28 536867327 (by kernel_rfl) rfl rfl rfl rfl rfl (yw_move rfl rfl) ?_
 refine DX.step 9 536867839 (by kernel_rfl) rfl rfl rfl (op_callE rfl rfl rfl rfl rfl ent_25 (fun w hw => w_cloned1 x0 (hw.rd hr0 (by simp)) (hw.rd (hL.rL x0 hx0m) (by simp)) (hXl x0 hx0m)) (fun zc _ => (DXs.mk (List.Sublist.cons _ (List.Sublist.cons _ (List.Sublist.refl _))) ?_)))
 refine DX.takeW 10 536868863 (by kernel_rfl) rfl rfl rfl rfl rfl (yw_index (k := 0) rfl slt_33 rfl rfl rfl (by decide) ⟨_, _, rfl⟩) ?_
 refine DX.step 11 536870911 (by kernel_rfl) rfl rfl rfl (op_yld (y_rowElem (i := 0) rfl rfl agg_25 rfl (map_get (k := 0) rfl)) rfl rfl (DXs.mk (List.Sublist.cons _ (List.Sublist.cons _ (List.Sublist.refl _))) ?_))
 refine DX.takeW 29 1073741823 (by kernel_rfl) rfl rfl rfl rfl rfl (yw_build (v := .agg (#[.int .i64 (Stm.h ((zc.2, x0.2) : SX).2), .int .i64 (Stm.c ((zc.2, x0.2) : SX).2), .slice (((zc.2, x0.2) : SX).1.1) (List.length (Stm.ls ((zc.2, x0.2) : SX).2)) (((zc.2, x0.2) : SX).1.2), .int .i64 ((i : Nat) : Int), .int .i64 ((X.length : Nat) : Int), .string (saltX X i), .slice zp.1 (List.length ((path sum (entsX X) i).reverse : List ByteArray)) zp.2])) rfl rfl (fun _ => by kernel_rfl)) ?_
 refine DX.stepT 30 2147483647 (by kernel_rfl) rfl rfl rfl rfl (op_storeAll (i := 3) rfl rfl rfl rfl szt_28 rfl (plain_of rfl) rfl rfl ?_)
 refine DX.takeW 31 4294967295 (by kernel_rfl) rfl rfl rfl rfl rfl (yw_assign rfl rfl) ?_
 refine DX.done (by kernel_rfl) (XX.next (V' := [(4, .pointer (some ⟨gp, 0, none⟩)), (5, .int .i64 0)]) ⟨rfl, rfl, trivial⟩ ?_)
 refine CX.ret ?_
 exact ret_cellT (i := 3) rfl rfl rfl agg_28 rfl rfl fun w1 hw => ⟨(zc.2, zp), trivial, rfl, hw.pick ((perm_pick 1 rfl).trans (List.Perm.cons _ ((perm_pick 1 rfl).trans (List.Perm.cons _ (List.Perm.refl _)))))⟩

end Go.Proofs.YtnadipjlhlbfoaaGreatDoor
namespace Go.Proofs.YtnadipjlhlbfoaaGreatDoor
set_option linter.all false
open Go Go.RowKit
set_option maxRecDepth 100000
theorem ent_36 : ∀ args w, (callFunc 36 args).run Tryz.prog w = .ok (.enter 36 args) w := enters_of Tryz.func36 (by kernel_rfl) rfl
theorem ent_35 : ∀ args w, (callFunc 35 args).run Tryz.prog w = .ok (.enter 35 args) w := enters_of Tryz.func35 (by kernel_rfl) rfl
theorem fld_28_0 : Fld Tryz.prog 28 0 0 := ⟨_, _, (Tryz.prog.info? 25).get!, Tryz.underlying28, rfl, rfl, by kernel_rfl, by decide +kernel⟩
theorem fld_28_3 : Fld Tryz.prog 28 3 5 := ⟨_, _, (Tryz.prog.info? 9).get!, Tryz.underlying28, rfl, rfl, by kernel_rfl, by decide +kernel⟩
theorem fld_28_2 : Fld Tryz.prog 28 2 4 := ⟨_, _, (Tryz.prog.info? 3).get!, Tryz.underlying28, rfl, rfl, by kernel_rfl, by decide +kernel⟩
theorem fld_28_1 : Fld Tryz.prog 28 1 3 := ⟨_, _, (Tryz.prog.info? 3).get!, Tryz.underlying28, rfl, rfl, by kernel_rfl, by decide +kernel⟩
theorem fld_28_4 : Fld Tryz.prog 28 4 6 := ⟨_, _, (Tryz.prog.info? 26).get!, Tryz.underlying28, rfl, rfl, by kernel_rfl, by decide +kernel⟩
theorem ent_39 : ∀ args w, (callFunc 39 args).run Tryz.prog w = .ok (.enter 39 args) w := enters_of Tryz.func39 (by kernel_rfl) rfl
set_option maxRecDepth 100000 in
theorem w_logExt1 {w : World} {g : Nat} {z : LZ} (X : List SX) (hL : LogAt w g z X) (hXl : ∀ x ∈ X, x.2.ls.length ≤ 1000000) (hl : X.length ≤ 1000000) (hG : Rounds w) (m : Nat) (h1 : 1 ≤ m) (hm : m ≤ X.length) :
    Calls Tryz.prog 16 #[.pointer (some ⟨g, 0, none⟩), .int .i64 ((m : Nat) : Int)] w (fun e w' => ∃ z : Option Addr × Nat, True ∧ e = .returned (.tuple #[.slice z.1 (List.length ((ext sum (entsX X) m true).reverse)) z.2, .int .i64 0]) ∧ SL w [] w' [.row z.1 z.2 9 1 (List.map strC ((ext sum (entsX X) m true).reverse))]) := by
 have hel := entsX_length X
 refine calls_of_CX (O := []) (L := []) (args := [.pointer (some ⟨g, 0, none⟩), .int .i64 ((m : Nat) : Int)]) Tryz.func16 rfl (by simp [Tryz.ntmps16]) (SL.refl w) ?_
 refine CX.sub (V' := [(0, .pointer (some ⟨g, 0, none⟩)), (1, .int .i64 ((m : Nat) : Int))]) ⟨rfl, rfl, trivial⟩ ?_
 refine CX.seq ?_
 refine CX.region ?_
 refine RX.cons rfl rfl (op_w (yw_assign rfl rfl) rfl rfl ?_)
 refine RX.cons rfl rfl (op_w (yw_assign rfl rfl) rfl rfl ?_)
 refine RX.nil (XX.next (V' := [(0, _), (1, _)]) ⟨rfl, rfl, trivial⟩ ?_)
 refine CX.seq ?_
 refine CX.seq ?_
 refine CX.region ?_
 refine RX.cons rfl rfl (op_w (yw_move rfl rfl) rfl rfl ?_)
 refine RX.cons rfl rfl (op_w (yw_ptrSome rfl ptrt_30 rfl rfl) rfl rfl ?_)
 refine RX.nil (XX.next (V' := [(0, _), (1, _), (7, _)]) ⟨rfl, rfl, rfl, trivial⟩ ?_)
 refine CX.condF rfl ?_
 refine CX.skip (XX.next (V' := [(0, _), (1, _)]) ⟨rfl, rfl, trivial⟩ ?_)
 refine CX.seq ?_
 refine CX.region ?_
 refine RX.cons rfl rfl (op_w (yw_move rfl rfl) rfl rfl ?_)
 refine RX.cons rfl rfl (op_w (yw_nilCheck rfl rfl) rfl rfl ?_)
 refine RX.cons rfl rfl (op_w (yw_field0 rfl fld_58_0 rfl) rfl rfl ?_)
 refine RX.cons rfl rfl (op_w (yw_fieldAddr rfl fld_56_1 rfl) rfl rfl ?_)
 refine RX.cons rfl rfl (op_yld (y_loadG (v := .slice z.2.1 ((entsX X).length) z.2.2) rfl rfl one_26 hL.c1 (by simp)) rfl rfl ?_)
 refine RX.cons rfl rfl (op_callE rfl rfl rfl rfl rfl ent_36 (fun w hw => w_clone (entsX X) (hw.rd hL.rE (by simp)) (by omega)) (fun zc _ => ?_))
 refine RX.cons rfl rfl (op_w (yw_move rfl rfl) rfl rfl ?_)
 refine RX.cons rfl rfl (op_callE rfl rfl rfl rfl rfl ent_35 (fun w hw => w_ext1 (entsX X) m (hG.keep hw (by simp)) (Ent.rd (hw.ents _ (List.mem_of_getElem? (i := 0) rfl))) (by have h8 := Ent.capLe (hw.ents _ (List.mem_of_getElem? (i := 0) rfl)); rwa [List.length_map] at h8) (by omega) (entsX_sizes hXl) h1 (by omega)) (fun ze _ => ?_))
 refine RX.cons rfl rfl (op_w (yw_extract rfl rfl rfl) rfl rfl ?_)
 refine RX.cons rfl rfl (op_w (yw_extract rfl rfl rfl) rfl rfl ?_)
 refine RX.cons rfl rfl (op_w (yw_assign rfl rfl) rfl rfl ?_)
 refine RX.cons rfl rfl (op_w (yw_assign rfl rfl) rfl rfl ?_)
 refine RX.nil (XX.next (V' := [(4, .slice ze.1 (List.length ((ext sum (entsX X) m true).reverse : List ByteArray)) ze.2), (5, .int .i64 0)]) ⟨rfl, rfl, trivial⟩ ?_)
 refine CX.ret ?_
 exact ret_tmp2 rfl rfl rfl fun w1 hw => ⟨ze, trivial, rfl, hw.pick ((perm_pick 0 rfl).trans (List.Perm.cons _ (List.Perm.refl _)))⟩

set_option maxRecDepth 100000 in
theorem w_logExtZ {w : World} {g : Nat} {z : LZ} (X : List SX) (hL : LogAt w g z X) (hXl : ∀ x ∈ X, x.2.ls.length ≤ 1000000) (hl : X.length ≤ 1000000) :
    Calls Tryz.prog 16 #[.pointer (some ⟨g, 0, none⟩), .int .i64 0] w (fun e w' => e = .returned (.tuple #[.slice none 0 0, .int .i64 0]) ∧ SL w [] w' []) := by
 have hel := entsX_length X
 refine calls_of_CX (O := []) (L := []) (args := [.pointer (some ⟨g, 0, none⟩), .int .i64 0]) Tryz.func16 rfl (by simp [Tryz.ntmps16]) (SL.refl w) ?_
 refine CX.sub (V' := [(0, .pointer (some ⟨g, 0, none⟩)), (1, .int .i64 0)]) ⟨rfl, rfl, trivial⟩ ?_
 refine CX.seq ?_
 refine CX.region ?_
 refine RX.cons rfl rfl (op_w (yw_assign rfl rfl) rfl rfl ?_)
 refine RX.cons rfl rfl (op_w (yw_assign rfl rfl) rfl rfl ?_)
 refine RX.nil (XX.next (V' := [(0, _), (1, _)]) ⟨rfl, rfl, trivial⟩ ?_)
 refine CX.seq ?_
 refine CX.seq ?_
 refine CX.region ?_
 refine RX.cons rfl rfl (op_w (yw_move rfl rfl) rfl rfl ?_)
 refine RX.cons rfl rfl (op_w (yw_ptrSome rfl ptrt_30 rfl rfl) rfl rfl ?_)
 refine RX.nil (XX.next (V' := [(0, _), (1, _), (7, _)]) ⟨rfl, rfl, rfl, trivial⟩ ?_)
 refine CX.condF rfl ?_
 refine CX.skip (XX.next (V' := [(0, _), (1, _)]) ⟨rfl, rfl, trivial⟩ ?_)
 refine CX.seq ?_
 refine CX.region ?_
 refine RX.cons rfl rfl (op_w (yw_move rfl rfl) rfl rfl ?_)
 refine RX.cons rfl rfl (op_w (yw_nilCheck rfl rfl) rfl rfl ?_)
 refine RX.cons rfl rfl (op_w (yw_field0 rfl fld_58_0 rfl) rfl rfl ?_)
 refine RX.cons rfl rfl (op_w (yw_fieldAddr rfl fld_56_1 rfl) rfl rfl ?_)
 refine RX.cons rfl rfl (op_yld (y_loadG (v := .slice z.2.1 ((entsX X).length) z.2.2) rfl rfl one_26 hL.c1 (by simp)) rfl rfl ?_)
 refine RX.cons rfl rfl (op_callE rfl rfl rfl rfl rfl ent_36 (fun w hw => w_clone (entsX X) (hw.rd hL.rE (by simp)) (by omega)) (fun zc _ => ?_))
 refine RX.cons rfl rfl (op_w (yw_move rfl rfl) rfl rfl ?_)
 refine RX.cons rfl rfl (op_callV (v := .tuple #[.slice none 0 0, .int .i64 0]) rfl rfl rfl rfl rfl ent_35 (fun w hw => w_ext0 ((entsX X).length)) ?_)
 refine RX.cons rfl rfl (op_w (yw_extract rfl rfl rfl) rfl rfl ?_)
 refine RX.cons rfl rfl (op_w (yw_extract rfl rfl rfl) rfl rfl ?_)
 refine RX.cons rfl rfl (op_w (yw_assign rfl rfl) rfl rfl ?_)
 refine RX.cons rfl rfl (op_w (yw_assign rfl rfl) rfl rfl ?_)
 refine RX.nil (XX.next (V' := [(4, .slice none 0 0), (5, .int .i64 0)]) ⟨rfl, rfl, trivial⟩ ?_)
 refine CX.ret ?_
 exact ret_tmp2 rfl rfl rfl fun w1 hw => ⟨rfl, hw.sub (List.nil_sublist _)⟩

set_option maxRecDepth 100000 in
theorem w_logExtBad {w : World} {g : Nat} {z : LZ} (X : List SX) (hL : LogAt w g z X) (hXl : ∀ x ∈ X, x.2.ls.length ≤ 1000000) (hl : X.length ≤ 1000000) (m : Int) (hm : m < 0 ∨ (X.length : Int) < m) :
    Calls Tryz.prog 16 #[.pointer (some ⟨g, 0, none⟩), .int .i64 m] w (fun e w' => e = .returned (.tuple #[.slice none 0 0, .int .i64 2]) ∧ SL w [] w' []) := by
 have hel := entsX_length X
 refine calls_of_CX (O := []) (L := []) (args := [.pointer (some ⟨g, 0, none⟩), .int .i64 m]) Tryz.func16 rfl (by simp [Tryz.ntmps16]) (SL.refl w) ?_
 refine CX.sub (V' := [(0, .pointer (some ⟨g, 0, none⟩)), (1, .int .i64 m)]) ⟨rfl, rfl, trivial⟩ ?_
 refine CX.seq ?_
 refine CX.region ?_
 refine RX.cons rfl rfl (op_w (yw_assign rfl rfl) rfl rfl ?_)
 refine RX.cons rfl rfl (op_w (yw_assign rfl rfl) rfl rfl ?_)
 refine RX.nil (XX.next (V' := [(0, _), (1, _)]) ⟨rfl, rfl, trivial⟩ ?_)
 refine CX.seq ?_
 refine CX.seq ?_
 refine CX.region ?_
 refine RX.cons rfl rfl (op_w (yw_move rfl rfl) rfl rfl ?_)
 refine RX.cons rfl rfl (op_w (yw_ptrSome rfl ptrt_30 rfl rfl) rfl rfl ?_)
 refine RX.nil (XX.next (V' := [(0, _), (1, _), (7, _)]) ⟨rfl, rfl, rfl, trivial⟩ ?_)
 refine CX.condF rfl ?_
 refine CX.skip (XX.next (V' := [(0, _), (1, _)]) ⟨rfl, rfl, trivial⟩ ?_)
 refine CX.seq ?_
 refine CX.region ?_
 refine RX.cons rfl rfl (op_w (yw_move rfl rfl) rfl rfl ?_)
 refine RX.cons rfl rfl (op_w (yw_nilCheck rfl rfl) rfl rfl ?_)
 refine RX.cons rfl rfl (op_w (yw_field0 rfl fld_58_0 rfl) rfl rfl ?_)
 refine RX.cons rfl rfl (op_w (yw_fieldAddr rfl fld_56_1 rfl) rfl rfl ?_)
 refine RX.cons rfl rfl (op_yld (y_loadG (v := .slice z.2.1 ((entsX X).length) z.2.2) rfl rfl one_26 hL.c1 (by simp)) rfl rfl ?_)
 refine RX.cons rfl rfl (op_callE rfl rfl rfl rfl rfl ent_36 (fun w hw => w_clone (entsX X) (hw.rd hL.rE (by simp)) (by omega)) (fun zc _ => ?_))
 refine RX.cons rfl rfl (op_w (yw_move rfl rfl) rfl rfl ?_)
 refine RX.cons rfl rfl (op_callV (v := .tuple #[.slice none 0 0, .int .i64 2]) rfl rfl rfl rfl rfl ent_35 (fun w hw => w_extBad ((entsX X).length) m (by omega)) ?_)
 refine RX.cons rfl rfl (op_w (yw_extract rfl rfl rfl) rfl rfl ?_)
 refine RX.cons rfl rfl (op_w (yw_extract rfl rfl rfl) rfl rfl ?_)
 refine RX.cons rfl rfl (op_w (yw_assign rfl rfl) rfl rfl ?_)
 refine RX.cons rfl rfl (op_w (yw_assign rfl rfl) rfl rfl ?_)
 refine RX.nil (XX.next (V' := [(4, .slice none 0 0), (5, .int .i64 2)]) ⟨rfl, rfl, trivial⟩ ?_)
 refine CX.ret ?_
 exact ret_tmp2 rfl rfl rfl fun w1 hw => ⟨rfl, hw.sub (List.nil_sublist _)⟩

/-- What Extension answers. -/
def extX (X : List SX) (m : Nat) : List ByteArray := if m = 0 then [] else (ext sum (entsX X) m true).reverse
theorem w_logExt {w : World} {g : Nat} {z : LZ} (X : List SX) (hL : LogAt w g z X) (hXl : ∀ x ∈ X, x.2.ls.length ≤ 1000000) (hl : X.length ≤ 1000000) (hG : Rounds w) (m : Nat) (hm : m ≤ X.length) :
    Calls Tryz.prog 16 #[.pointer (some ⟨g, 0, none⟩), .int .i64 ((m : Nat) : Int)] w (fun e w' => ∃ z : Option Addr × Nat, True ∧ e = .returned (.tuple #[.slice z.1 (List.length (extX X m)) z.2, .int .i64 0]) ∧ SL w [] w' [.row z.1 z.2 9 1 (List.map strC (extX X m))]) := by
  by_cases h0 : m = 0
  · subst h0
    refine (w_logExtZ X hL hXl hl).mono ?_
    rintro e w' ⟨he, hw⟩
    exact ⟨(none, 0), trivial, he, hw.rowNil 9 1⟩
  · have h1 := w_logExt1 X hL hXl hl hG m (by omega) hm
    have e1 : extX X m = (ext sum (entsX X) m true).reverse := if_neg h0
    rw [← e1] at h1
    exact h1
set_option maxRecDepth 100000 in
theorem w_proveBad {w : World} {g : Nat} {z : LZ} (X : List SX) (hL : LogAt w g z X) (hXl : ∀ x ∈ X, x.2.ls.length ≤ 1000000) (hl : X.length ≤ 1000000) (i : Int) (hi : i < 0 ∨ (X.length : Int) ≤ i) :
    Calls Tryz.prog 14 #[.pointer (some ⟨g, 0, none⟩), .int .i64 i] w (fun e w' => e = .returned (.tuple #[.agg #[.int .i64 0, .int .i64 0, .slice none 0 0, .int .i64 0, .int .i64 0, .string .empty, .slice none 0 0], .int .i64 2]) ∧ SL w [] w' []) := by
 refine calls_of_CX (O := []) (L := []) (args := [.pointer (some ⟨g, 0, none⟩), .int .i64 i]) Tryz.func14 rfl (by simp [Tryz.ntmps14]) (SL.refl w) ?_
 refine CX.sub (V' := [(0, .pointer (some ⟨g, 0, none⟩)), (1, .int .i64 i)]) ⟨rfl, rfl, trivial⟩ ?_
 refine CX.seq ?_
 refine CX.region ?_
 refine RX.cons rfl rfl (op_alloc rfl rfl rfl zero_28 fun gp => ?_)
 refine RX.cons rfl rfl (op_w (yw_assign rfl rfl) rfl rfl ?_)
 refine RX.nil (XX.next (V' := [(0, _), (1, _), (4, .pointer (some ⟨gp, 0, none⟩))]) ⟨rfl, rfl, rfl, trivial⟩ ?_)
 refine CX.seq ?_
 refine CX.block ?_
 refine CX.seq ?_
 refine CX.region ?_
 refine RX.cons rfl rfl (op_w (yw_move rfl rfl) rfl rfl ?_)
 refine RX.cons rfl rfl (op_w (yw_ptrSome rfl ptrt_30 rfl rfl) rfl rfl ?_)
 refine RX.cons rfl rfl (op_w (yw_assign rfl rfl) rfl rfl ?_)
 refine RX.nil (XX.next (V' := [(0, _), (1, _), (4, .pointer (some ⟨gp, 0, none⟩)), (8, _)]) ⟨rfl, rfl, rfl, rfl, trivial⟩ ?_)
 refine CX.condF rfl ?_
 refine CX.seq ?_
 refine CX.region ?_
 refine RX.cons rfl rfl (op_w (yw_move rfl rfl) rfl rfl ?_)
 refine RX.cons rfl rfl (op_w (yw_nilCheck rfl rfl) rfl rfl ?_)
 refine RX.cons rfl rfl (op_w (yw_field0 rfl fld_58_0 rfl) rfl rfl ?_)
 refine RX.cons rfl rfl (op_w (yw_move rfl rfl) rfl rfl ?_)
 refine RX.cons rfl rfl (op_callV (v := .bool (decide (0 ≤ i) && decide (i < ((X.length : Nat) : Int)))) rfl rfl rfl rfl rfl ent_32 (fun w hw => w_has i (hL.keep hw).c0) ?_)
 refine RX.know (t := 17) (u := .bool false) rfl (congrArg Value.bool (by simp; omega)) ?_
 refine RX.cons rfl rfl (op_w (yw_not rfl rfl) rfl rfl ?_)
 refine RX.cons rfl rfl (op_w (yw_assign rfl rfl) rfl rfl ?_)
 refine RX.nil (XX.next (V' := [(0, _), (1, _), (4, .pointer (some ⟨gp, 0, none⟩)), (12, _)]) ⟨rfl, rfl, rfl, rfl, trivial⟩ ?_)
 refine CX.condT rfl ?_
 refine CX.seq ?_
 refine CX.region ?_
 refine RX.cons rfl rfl (op_w (yw_build (v := .agg (#[.int .i64 0, .int .i64 0, .slice none 0 0, .int .i64 0, .int .i64 0, .string .empty, .slice none 0 0])) rfl rfl (fun _ => by kernel_rfl)) rfl rfl ?_)
 refine RX.cons rfl rfl (op_storeAll (i := 0) rfl rfl rfl rfl szt_28 rfl (plain_of rfl) rfl rfl ?_)
 refine RX.cons rfl rfl (op_w (yw_assign rfl rfl) rfl rfl ?_)
 refine RX.nil (XX.next (V' := [(4, .pointer (some ⟨gp, 0, none⟩)), (5, .int .i64 2)]) ⟨rfl, rfl, trivial⟩ ?_)
 refine CX.ret ?_
 refine XX.block_ret ?_
 refine XX.then_ret ?_
 exact ret_cellT (i := 0) rfl rfl rfl agg_28 rfl rfl fun w1 hw => ⟨rfl, hw.sub (List.nil_sublist _)⟩

set_option maxRecDepth 100000 in
theorem w_prove0 {w : World} (i : Int) :
    Calls Tryz.prog 14 #[.pointer none, .int .i64 i] w (fun e w' => e = .returned (.tuple #[.agg #[.int .i64 0, .int .i64 0, .slice none 0 0, .int .i64 0, .int .i64 0, .string .empty, .slice none 0 0], .int .i64 1]) ∧ SL w [] w' []) := by
 refine calls_of_CX (O := []) (L := []) (args := [.pointer none, .int .i64 i]) Tryz.func14 rfl (by simp [Tryz.ntmps14]) (SL.refl w) ?_
 refine CX.sub (V' := [(0, .pointer none), (1, .int .i64 i)]) ⟨rfl, rfl, trivial⟩ ?_
 refine CX.seq ?_
 refine CX.region ?_
 refine RX.cons rfl rfl (op_alloc rfl rfl rfl zero_28 fun gp => ?_)
 refine RX.cons rfl rfl (op_w (yw_assign rfl rfl) rfl rfl ?_)
 refine RX.nil (XX.next (V' := [(0, _), (1, _), (4, .pointer (some ⟨gp, 0, none⟩))]) ⟨rfl, rfl, rfl, trivial⟩ ?_)
 refine CX.seq ?_
 refine CX.block ?_
 refine CX.seq ?_
 refine CX.region ?_
 refine RX.cons rfl rfl (op_w (yw_move rfl rfl) rfl rfl ?_)
 refine RX.cons rfl rfl (op_w (yw_ptrNil rfl ptrt_30 rfl rfl) rfl rfl ?_)
 refine RX.cons rfl rfl (op_w (yw_assign rfl rfl) rfl rfl ?_)
 refine RX.nil (XX.next (V' := [(0, _), (1, _), (4, .pointer (some ⟨gp, 0, none⟩)), (8, _)]) ⟨rfl, rfl, rfl, rfl, trivial⟩ ?_)
 refine CX.condT rfl ?_
 refine CX.seq ?_
 refine CX.region ?_
 refine RX.cons rfl rfl (op_w (yw_build (v := .agg (#[.int .i64 0, .int .i64 0, .slice none 0 0, .int .i64 0, .int .i64 0, .string .empty, .slice none 0 0])) rfl rfl (fun _ => by kernel_rfl)) rfl rfl ?_)
 refine RX.cons rfl rfl (op_storeAll (i := 0) rfl rfl rfl rfl szt_28 rfl (plain_of rfl) rfl rfl ?_)
 refine RX.cons rfl rfl (op_w (yw_assign rfl rfl) rfl rfl ?_)
 refine RX.nil (XX.next (V' := [(4, .pointer (some ⟨gp, 0, none⟩)), (5, .int .i64 1)]) ⟨rfl, rfl, trivial⟩ ?_)
 refine CX.ret ?_
 refine XX.block_ret ?_
 refine XX.then_ret ?_
 exact ret_cellT (i := 0) rfl rfl rfl agg_28 rfl rfl fun w1 hw => ⟨rfl, hw.sub (List.nil_sublist _)⟩

theorem word_le (s : Stm) (hl : s.ls.length ≤ 1000000) (salt : ByteArray) (h : salt.size = 32) : (salt ++ encS s).size ≤ 4294967296 := by
  have := encS_size s
  rw [ByteArray.size_append, h]; omega
set_option maxRecDepth 100000 in
theorem w_logVerify {w : World} (root : ByteArray) (s : Stm) (i n : Nat) (salt : ByteArray) (path : List ByteArray) (z : LZ) (hG : Rounds w) (hr : Rd w z.1.1 3 (s.ls.map lnC)) (hl : s.ls.length ≤ 1000000) (hp : Rd w z.2.1 1 (path.map strC)) (hcp : path.length ≤ z.2.2) (hpl : path.length ≤ 1099511627776) (hn : n ≤ 9223372036854775807) (hi : i < n) (hss : salt.size ≤ 4294967296) :
    Calls Tryz.prog 19 #[.string root, .agg (prC s i n salt path z)] w (fun e w' => e = .returned (.bool (okS s && (decide (salt.size = 32) && verN root n i (salt ++ encS s) path))) ∧ SL w [] w' []) := by
 refine calls_of_CX (O := []) (L := []) (args := [.string root, .agg (prC s i n salt path z)]) Tryz.func19 rfl (by simp [Tryz.ntmps19]) (SL.refl w) ?_
 refine CX.sub (V' := [(0, .string root), (1, .agg (prC s i n salt path z))]) ⟨rfl, rfl, trivial⟩ ?_
 refine CX.seq ?_
 refine CX.region ?_
 refine RX.cons rfl rfl (op_box rfl rfl rfl rfl fun gp => ?_)
 refine RX.cons rfl rfl (op_w (yw_assign rfl rfl) rfl rfl ?_)
 refine RX.nil (XX.next (V' := [(0, _), (3, _)]) ⟨rfl, rfl, trivial⟩ ?_)
 refine CX.seq ?_
 by_cases hok : okS s = true
 ·refine CX.region ?_
  refine RX.cons rfl rfl (op_w (yw_field0 rfl fld_28_0 rfl) rfl rfl ?_)
  refine RX.cons rfl rfl (op_yld (y_loadP (i := 0) (vs := #[.int .i64 (Stm.h s), .int .i64 (Stm.c s), .slice z.1.1 (List.length (Stm.ls s)) z.1.2]) rfl rfl agg_25 rfl rfl (fun k hk => by match k, hk with | 0, _ => rfl | 1, _ => rfl | 2, _ => rfl)) rfl rfl ?_)
  refine RX.cons rfl rfl (op_callV (v := .tuple #[.string (encS s), .int .i64 0]) rfl rfl rfl rfl rfl ent_24 (fun w hw => by have h := w_encode (cap := z.1.2) s (hw.rd hr (by simp)) hl; rw [encR_ok hok] at h; exact h) ?_)
  refine RX.cons rfl rfl (op_w (yw_move rfl rfl) rfl rfl ?_)
  refine RX.cons rfl rfl (op_w (yw_extract rfl rfl rfl) rfl rfl ?_)
  refine RX.cons rfl rfl (op_w (yw_extract rfl rfl rfl) rfl rfl ?_)
  refine RX.cons rfl rfl (op_w (yw_assign rfl rfl) rfl rfl ?_)
  refine RX.cons rfl rfl (op_w (yw_assign rfl rfl) rfl rfl ?_)
  refine RX.nil (XX.next (V' := [(0, _), (3, _), (5, _), (6, _)]) ⟨rfl, rfl, rfl, rfl, trivial⟩ ?_)
  refine CX.seq ?_
  refine CX.region ?_
  refine RX.cons rfl rfl (op_w (yw_move rfl rfl) rfl rfl ?_)
  refine RX.cons rfl rfl (op_w (yw_eql rfl rfl rfl) rfl rfl ?_)
  refine RX.know (t := 14) (u := .bool true) rfl rfl ?_
  refine RX.cons rfl rfl (op_w (yw_move rfl rfl) rfl rfl ?_)
  refine RX.consG rfl rfl rfl rfl rfl (op_w (yw_fieldAddr rfl fld_28_3 rfl) rfl rfl ?_)
  refine RX.consG rfl rfl rfl rfl rfl (op_yld (y_load (i := 0) rfl rfl one_9 rfl rfl) rfl rfl ?_)
  refine RX.consG rfl rfl rfl rfl rfl (op_w (yw_lenStr rfl Tryz.underlying9 rfl) rfl rfl ?_)
  refine RX.consG rfl rfl rfl rfl rfl (op_w (yw_eql rfl rfl rfl) rfl rfl ?_)
  refine RX.cons rfl rfl (op_w (yw_pickT rfl rfl rfl) rfl rfl ?_)
  refine RX.cons rfl rfl (op_w (yw_move rfl rfl) rfl rfl ?_)
  refine RX.splitD (t := 21) (p := ((ByteArray.size salt : Nat) : Int) = 32) rfl (fun d21 => ?_) (fun d21 => ?_)
  ·refine RX.consG rfl rfl rfl rfl rfl (op_w (yw_move rfl rfl) rfl rfl ?_)
   refine RX.consG rfl rfl rfl rfl rfl (op_w (yw_fieldAddr rfl fld_28_2 rfl) rfl rfl ?_)
   refine RX.consG rfl rfl rfl rfl rfl (op_yld (y_load (i := 0) rfl rfl one_3 rfl rfl) rfl rfl ?_)
   refine RX.consG rfl rfl rfl rfl rfl (op_w (yw_fieldAddr rfl fld_28_1 rfl) rfl rfl ?_)
   refine RX.consG rfl rfl rfl rfl rfl (op_yld (y_load (i := 0) rfl rfl one_3 rfl rfl) rfl rfl ?_)
   refine RX.consG rfl rfl rfl rfl rfl (op_w (yw_fieldAddr rfl fld_28_3 rfl) rfl rfl ?_)
   refine RX.consG rfl rfl rfl rfl rfl (op_yld (y_load (i := 0) rfl rfl one_9 rfl rfl) rfl rfl ?_)
   refine RX.consG rfl rfl rfl rfl rfl (op_w (yw_move rfl rfl) rfl rfl ?_)
   refine RX.consG rfl rfl rfl rfl rfl (op_w (yw_stradd rfl rfl rfl (by have := word_le s hl salt (by omega); rw [ByteArray.size_append] at this; exact Nat.le_trans this (by decide))) rfl rfl ?_)
   refine RX.consG rfl rfl rfl rfl rfl (op_w (yw_fieldAddr rfl fld_28_4 rfl) rfl rfl ?_)
   refine RX.consG rfl rfl rfl rfl rfl (op_yld (y_load (i := 0) rfl rfl one_26 rfl rfl) rfl rfl ?_)
   refine RX.consG rfl rfl rfl rfl rfl (op_callV (v := .bool (verN root n i (salt ++ (encS s)) path)) rfl rfl rfl rfl rfl ent_39 (fun w hw => w_verify root n i (salt ++ (encS s)) path (hG.keep hw (by simp)) (hw.rd hp (by simp)) hcp hpl (word_le s hl salt (by omega)) hn hi) ?_)
   refine RX.cons rfl rfl (op_w (yw_pickT rfl rfl rfl) rfl rfl ?_)
   refine RX.cons rfl rfl (op_w (yw_assign rfl rfl) rfl rfl ?_)
   refine RX.nil (XX.next (V' := [(4, .bool (verN root n i (salt ++ (encS s)) path))]) ⟨rfl, trivial⟩ ?_)
   refine CX.ret ?_
   exact ret_tmp rfl rfl fun w1 hw => ⟨by rw [hok, decide_eq_true (show salt.size = 32 by omega), Bool.true_and, Bool.true_and], hw.sub (List.nil_sublist _)⟩
  ·refine RX.skip rfl rfl rfl rfl rfl rfl rfl ?_
   refine RX.skip rfl rfl rfl rfl rfl rfl rfl ?_
   refine RX.skip rfl rfl rfl rfl rfl rfl rfl ?_
   refine RX.skip rfl rfl rfl rfl rfl rfl rfl ?_
   refine RX.skip rfl rfl rfl rfl rfl rfl rfl ?_
   refine RX.skip rfl rfl rfl rfl rfl rfl rfl ?_
   refine RX.skip rfl rfl rfl rfl rfl rfl rfl ?_
   refine RX.skip rfl rfl rfl rfl rfl rfl rfl ?_
   refine RX.skip rfl rfl rfl rfl rfl rfl rfl ?_
   refine RX.skip rfl rfl rfl rfl rfl rfl rfl ?_
   refine RX.skip rfl rfl rfl rfl rfl rfl rfl ?_
   refine RX.skip rfl rfl rfl rfl rfl rfl rfl ?_
   refine RX.cons rfl rfl (op_w (yw_pickF rfl rfl rfl) rfl rfl ?_)
   refine RX.cons rfl rfl (op_w (yw_assign rfl rfl) rfl rfl ?_)
   refine RX.nil (XX.next (V' := [(4, .bool false)]) ⟨rfl, trivial⟩ ?_)
   refine CX.ret ?_
   exact ret_tmp rfl rfl fun w1 hw => ⟨by rw [decide_eq_false (show ¬ salt.size = 32 by omega), Bool.false_and, Bool.and_false], hw.sub (List.nil_sublist _)⟩
 ·refine CX.region ?_
  refine RX.cons rfl rfl (op_w (yw_field0 rfl fld_28_0 rfl) rfl rfl ?_)
  refine RX.cons rfl rfl (op_yld (y_loadP (i := 0) (vs := #[.int .i64 (Stm.h s), .int .i64 (Stm.c s), .slice z.1.1 (List.length (Stm.ls s)) z.1.2]) rfl rfl agg_25 rfl rfl (fun k hk => by match k, hk with | 0, _ => rfl | 1, _ => rfl | 2, _ => rfl)) rfl rfl ?_)
  refine RX.cons rfl rfl (op_callV (v := .tuple #[.string .empty, .int .i64 190]) rfl rfl rfl rfl rfl ent_24 (fun w hw => by have h := w_encode (cap := z.1.2) s (hw.rd hr (by simp)) hl; rw [encR_bad (by simpa using hok)] at h; exact h) ?_)
  refine RX.cons rfl rfl (op_w (yw_move rfl rfl) rfl rfl ?_)
  refine RX.cons rfl rfl (op_w (yw_extract rfl rfl rfl) rfl rfl ?_)
  refine RX.cons rfl rfl (op_w (yw_extract rfl rfl rfl) rfl rfl ?_)
  refine RX.cons rfl rfl (op_w (yw_assign rfl rfl) rfl rfl ?_)
  refine RX.cons rfl rfl (op_w (yw_assign rfl rfl) rfl rfl ?_)
  refine RX.nil (XX.next (V' := [(0, _), (3, _), (5, _), (6, _)]) ⟨rfl, rfl, rfl, rfl, trivial⟩ ?_)
  refine CX.seq ?_
  refine CX.region ?_
  refine RX.cons rfl rfl (op_w (yw_move rfl rfl) rfl rfl ?_)
  refine RX.cons rfl rfl (op_w (yw_eql rfl rfl rfl) rfl rfl ?_)
  refine RX.know (t := 14) (u := .bool false) rfl rfl ?_
  refine RX.cons rfl rfl (op_w (yw_move rfl rfl) rfl rfl ?_)
  refine RX.skip rfl rfl rfl rfl rfl rfl rfl ?_
  refine RX.skip rfl rfl rfl rfl rfl rfl rfl ?_
  refine RX.skip rfl rfl rfl rfl rfl rfl rfl ?_
  refine RX.skip rfl rfl rfl rfl rfl rfl rfl ?_
  refine RX.cons rfl rfl (op_w (yw_pickF rfl rfl rfl) rfl rfl ?_)
  refine RX.cons rfl rfl (op_w (yw_move rfl rfl) rfl rfl ?_)
  refine RX.skip rfl rfl rfl rfl rfl rfl rfl ?_
  refine RX.skip rfl rfl rfl rfl rfl rfl rfl ?_
  refine RX.skip rfl rfl rfl rfl rfl rfl rfl ?_
  refine RX.skip rfl rfl rfl rfl rfl rfl rfl ?_
  refine RX.skip rfl rfl rfl rfl rfl rfl rfl ?_
  refine RX.skip rfl rfl rfl rfl rfl rfl rfl ?_
  refine RX.skip rfl rfl rfl rfl rfl rfl rfl ?_
  refine RX.skip rfl rfl rfl rfl rfl rfl rfl ?_
  refine RX.skip rfl rfl rfl rfl rfl rfl rfl ?_
  refine RX.skip rfl rfl rfl rfl rfl rfl rfl ?_
  refine RX.skip rfl rfl rfl rfl rfl rfl rfl ?_
  refine RX.skip rfl rfl rfl rfl rfl rfl rfl ?_
  refine RX.cons rfl rfl (op_w (yw_pickF rfl rfl rfl) rfl rfl ?_)
  refine RX.cons rfl rfl (op_w (yw_assign rfl rfl) rfl rfl ?_)
  refine RX.nil (XX.next (V' := [(4, .bool false)]) ⟨rfl, trivial⟩ ?_)
  refine CX.ret ?_
  exact ret_tmp rfl rfl fun w1 hw => ⟨by rw [(by simpa using hok : okS s = false), Bool.false_and], hw.sub (List.nil_sublist _)⟩

end Go.Proofs.YtnadipjlhlbfoaaGreatDoor
namespace Go.Proofs.YtnadipjlhlbfoaaGreatDoor
set_option linter.all false
open Go Go.RowKit
theorem same_upto {α : Type} {l m : List α} {i : Nat} {x y : α} (h : l.take i = m.take i) (hx : l[i]? = some x) (hy : m[i]? = some y) (e : x = y) : l.take (i + 1) = m.take (i + 1) := by
  rw [take_succ hx, take_succ hy, h, e]
theorem differ_at {α : Type} {l m : List α} {i : Nat} {x y : α} (hx : l[i]? = some x) (hy : m[i]? = some y) (h : x ≠ y) : l ≠ m := by
  rintro rfl
  rw [hx] at hy
  injection hy with hy
  exact h hy
def Ln.same (f g : Ln) : Bool := f.p == g.p && (f.b == g.b && (f.a == g.a && true))
theorem Ln.same_iff (f g : Ln) : f.same g = true ↔ f = g := by
  cases f; cases g
  simp [Ln.same]
/-- An index out of any number. -/
def pickN (c : Int) (n : Nat) : Nat := (if c < 0 then -(c + 1) else c).toNat % n
theorem pickN_neg {c : Int} {n : Nat} (h : c < 0) : -(c + 1) % (n : Int) = ((pickN c n : Nat) : Int) := by
  rw [pickN, if_pos h, Int.natCast_emod, Int.toNat_of_nonneg (by omega)]
theorem pickN_pos {c : Int} {n : Nat} (h : ¬ c < 0) : c % (n : Int) = ((pickN c n : Nat) : Int) := by
  rw [pickN, if_neg h, Int.natCast_emod, Int.toNat_of_nonneg (by omega)]
theorem pickN_lt (c : Int) {n : Nat} (h : 0 < n) : pickN c n < n := Nat.mod_lt _ h
theorem okL_false6 {last : Int} {x : Ln} (h : x.p ≤ last ∨ 1200 ≤ x.p ∨ okM x.b = false ∨ okM x.a = false ∨ x.b = x.a) : okL last x = false := by
  unfold okL
  rcases h with h | h | h | h | h
  · rw [decide_eq_false (by omega)]; rfl
  · rw [decide_eq_false (p := x.p < 1200) (by omega)]; simp
  · rw [h]; simp
  · rw [h]; simp
  · rw [decide_eq_false (p := x.b ≠ x.a) (by simpa using h)]; simp
theorem okL_true6 {last : Int} {x : Ln} (h1 : last < x.p) (h2 : x.p < 1200) (h3 : okM x.b = true) (h4 : okM x.a = true) (h5 : ¬ x.b = x.a) : okL last x = true := by
  simp only [okL, Bool.and_eq_true, decide_eq_true_iff]
  exact ⟨⟨⟨⟨h1, h2⟩, h3⟩, h4⟩, h5⟩
theorem okLs_len {ls : List Ln} : ∀ {last : Int}, -1 ≤ last → okLs last ls = true → (ls.length : Int) ≤ 1199 - last ∨ ls = [] := by
  induction ls with
  | nil => intro last _ _; exact .inr rfl
  | cons x r ih =>
    intro last hl h
    rw [okLs_cons, Bool.and_eq_true] at h
    have hx : last < x.p ∧ x.p < 1200 := by
      have := h.1
      simp only [okL, Bool.and_eq_true, decide_eq_true_iff] at this
      exact ⟨this.1.1.1.1, this.1.1.1.2⟩
    left
    rcases ih (by omega) h.2 with h1 | h1
    · simp only [List.length_cons]; omega
    · subst h1; simp; omega
theorem okS_len {s : Stm} (h : okS s = true) : s.ls.length ≤ 1200 := by
  rcases okLs_len (Int.le_refl _) (okS_parts h).1 with h1 | h1
  · omega
  · rw [h1]; simp
theorem okS_long {s : Stm} (h : 1200 < s.ls.length) : okS s = false := by
  cases hs : okS s with
  | false => rfl
  | true => have := okS_len hs; omega
theorem okS_odd {s : Stm} (h : s.h < 1 ∨ 1000000 < s.h ∨ s.c < 0 ∨ 1200 ≤ s.c ∨ s.ls.length < 1) : okS s = false := by
  cases hs : okS s with
  | false => rfl
  | true => have := okS_parts hs; omega
theorem okS_all {s : Stm} (h : okLs (-1) s.ls = true) (h1 : 1 ≤ s.h) (h2 : s.h ≤ 1000000) (h3 : 0 ≤ s.c) (h4 : s.c < 1200) (h5 : 1 ≤ s.ls.length) : okS s = true := by
  simp only [okS, Bool.and_eq_true, decide_eq_true_iff]
  exact ⟨⟨⟨⟨⟨h, h1⟩, h2⟩, h3⟩, h4⟩, h5⟩
/-! ### Numbers as bytes -/
theorem ofNat_toNat {m : Nat} (h : m < 2 ^ 64) : (BitVec.ofNat 64 m).toNat = m := by rw [BitVec.toNat_ofNat, Nat.mod_eq_of_lt h]
theorem put_ref_more {f m : Nat} (hm : m < 2 ^ 64) (h : 128 ≤ m) : (putW (f + 1) (BitVec.ofNat 64 m)).map grpB = UInt8.ofBitVec (BitVec.ofInt 8 (IntKind.u64.wrap (((m : Nat) : Int) % 128 + 128))) :: (putW f (BitVec.ofNat 64 (m / 128))).map grpB := by
  rw [putW_more (by rw [ofNat_toNat hm]; omega), List.map_cons]
  congr 1
  · show UInt8.ofBitVec _ = UInt8.ofBitVec _
    congr 1
    apply BitVec.eq_of_toNat_eq
    have e1 : IntKind.u64.wrap (((m : Nat) : Int) % 128 + 128) = ((m % 128 + 128 : Nat) : Int) := by
      have : IntKind.u64.wrap (((m : Nat) : Int) % 128 + 128) = (((m : Nat) : Int) % 128 + 128) % 18446744073709551616 := rfl
      rw [this]; omega
    rw [e1, BitVec.toNat_ofInt]
    simp only [if_neg, Bool.false_eq_true, if_false, BitVec.toNat_or, BitVec.toNat_setWidth, BitVec.toNat_and, BitVec.toNat_ofNat]
    have e2 : (m % 2 ^ 64 &&& 127 % 2 ^ 64) % 2 ^ 8 = m % 128 := by
      rw [Nat.mod_eq_of_lt hm, show (127 % 2 ^ 64 : Nat) = 2 ^ 7 - 1 from rfl, Nat.and_two_pow_sub_one_eq_mod]
      omega
    rw [e2]
    have e3 : (m % 128 ||| 128 % 2 ^ 8) = m % 128 + 128 := by
      rw [show (128 % 2 ^ 8 : Nat) = 2 ^ 7 * 1 from rfl, Nat.or_comm, ← Nat.two_pow_add_eq_or_of_lt (by omega)]
      omega
    rw [e3]
    omega
  · congr 2
    apply BitVec.eq_of_toNat_eq
    rw [BitVec.toNat_ushiftRight, ofNat_toNat hm, ofNat_toNat (by omega), Nat.shiftRight_eq_div_pow]
theorem put_ref_last {f m : Nat} (h : m < 128) : (putW (f + 1) (BitVec.ofNat 64 m)).map grpB = [UInt8.ofBitVec (BitVec.ofInt 8 ((m : Nat) : Int))] := by
  rw [putW_last (by rw [ofNat_toNat (by omega)]; omega), List.map_cons, List.map_nil]
  congr 1
  show UInt8.ofBitVec _ = UInt8.ofBitVec _
  congr 1
  apply BitVec.eq_of_toNat_eq
  simp only [if_true, BitVec.toNat_setWidth, BitVec.toNat_and, BitVec.toNat_ofNat, BitVec.toNat_ofInt]
  rw [Nat.mod_eq_of_lt (show m < 2 ^ 64 by omega), show (127 % 2 ^ 64 : Nat) = 2 ^ 7 - 1 from rfl, Nat.and_two_pow_sub_one_eq_mod]
  omega
theorem u64_quo (m : Nat) (h : m < 2 ^ 64) : IntKind.u64.wrap (Int.tdiv ((m : Nat) : Int) 128) = ((m / 128 : Nat) : Int) := by
  have e1 : Int.tdiv ((m : Nat) : Int) 128 = ((m / 128 : Nat) : Int) := by rw [Int.tdiv_eq_ediv_of_nonneg (by omega)]; omega
  have : IntKind.u64.wrap ((m / 128 : Nat) : Int) = ((m / 128 : Nat) : Int) % 18446744073709551616 := rfl
  rw [e1, this]; omega
theorem zigzag_ref {n : Nat} (h : n ≤ 4611686018427387903) : (((BitVec.ofInt 64 ((n : Nat) : Int) * 2#64).toNat : Nat) : Int) = ((2 * n : Nat) : Int) := by
  rw [BitVec.toNat_mul, BitVec.toNat_ofInt]
  simp
  omega
end Go.Proofs.YtnadipjlhlbfoaaGreatDoor
namespace Go.Proofs.YtnadipjlhlbfoaaGreatDoor
set_option linter.all false
open Go Go.RowKit
set_option maxRecDepth 100000
theorem eqg_77 : Tryz.prog.eqGuardType Tryz.prog.depth 77 = false := by kernel_rfl
theorem held_77 : Tryz.prog.stoodInHeld 77 = false := by kernel_rfl
theorem eq_ln (f g : Ln) (w : World) : (Op.equalIn 10000 77 (.agg (lnC f)) (.agg (lnC g))).run Tryz.prog w = .ok (f.same g) w :=
  equal_of Tryz.underlying77 held_77 (eqF_int rfl Tryz.underlying3 rfl rfl (eqF_int rfl Tryz.underlying3 rfl rfl (eqF_int rfl Tryz.underlying3 rfl rfl eqF_nil)))
set_option maxRecDepth 100000 in
theorem w_pick {w : World} (c : Int) (n : Nat) (h1 : -9223372036854775808 ≤ c) (h2 : c ≤ 9223372036854775807) (hn : 0 < n) :
    Calls Tryz.prog 13 #[.int .i64 c, .int .i64 ((n : Nat) : Int)] w (fun e w' => e = .returned (.int .i64 ((pickN c n : Nat) : Int)) ∧ SL w [] w' []) := by
 refine calls_of_CX (O := []) (L := []) (args := [.int .i64 c, .int .i64 ((n : Nat) : Int)]) Tryz.func13 rfl (by simp [Tryz.ntmps13]) (SL.refl w) ?_
 refine CX.sub (V' := [(0, .int .i64 c), (1, .int .i64 ((n : Nat) : Int))]) ⟨rfl, rfl, trivial⟩ ?_
 refine CX.seq ?_
 refine CX.region ?_
 refine RX.cons rfl rfl (op_w (yw_assign rfl rfl) rfl rfl ?_)
 refine RX.nil (XX.next (V' := [(0, _), (1, _)]) ⟨rfl, rfl, trivial⟩ ?_)
 refine CX.seq ?_
 refine CX.seq ?_
 refine CX.region ?_
 refine RX.cons rfl rfl (op_w (yw_move rfl rfl) rfl rfl ?_)
 refine RX.cons rfl rfl (op_w (yw_lss rfl rfl rfl) rfl rfl ?_)
 refine RX.nil (XX.next (V' := [(0, _), (1, _), (6, _)]) ⟨rfl, rfl, rfl, trivial⟩ ?_)
 refine CX.condD (p := c < 0) rfl (fun c6 => ?_) (fun c6 => ?_)
 ·refine CX.region ?_
  refine RX.cons rfl rfl (op_w (yw_move rfl rfl) rfl rfl ?_)
  refine RX.cons rfl rfl (op_w (yw_add rfl rfl rfl (by omega) (by omega)) rfl rfl ?_)
  refine RX.cons rfl rfl (op_w (yw_neg rfl rfl (by omega) (by omega)) rfl rfl ?_)
  refine RX.cons rfl rfl (op_w (yw_assign rfl rfl) rfl rfl ?_)
  refine RX.nil (XX.next (V' := [(0, _), (1, _)]) ⟨rfl, rfl, trivial⟩ ?_)
  refine CX.seq ?_
  refine CX.region ?_
  refine RX.cons rfl rfl (op_w (yw_move rfl rfl) rfl rfl ?_)
  refine RX.cons rfl rfl (op_w (yw_move rfl rfl) rfl rfl ?_)
  refine RX.cons rfl rfl (op_w (yw_rem rfl rfl rfl (by omega) (by omega)) rfl rfl ?_)
  refine RX.know (t := 12) (u := .int .i64 ((pickN c n : Nat) : Int)) rfl (congrArg (Value.int .i64) (pickN_neg c6)) ?_
  refine RX.cons rfl rfl (op_w (yw_assign rfl rfl) rfl rfl ?_)
  refine RX.nil (XX.next (V' := [(4, .int .i64 ((pickN c n : Nat) : Int))]) ⟨rfl, trivial⟩ ?_)
  refine CX.ret ?_
  exact ret_tmp rfl rfl fun w1 hw => ⟨rfl, hw.sub (List.nil_sublist _)⟩
 ·refine CX.skip (XX.next (V' := [(0, _), (1, _)]) ⟨rfl, rfl, trivial⟩ ?_)
  refine CX.seq ?_
  refine CX.region ?_
  refine RX.cons rfl rfl (op_w (yw_move rfl rfl) rfl rfl ?_)
  refine RX.cons rfl rfl (op_w (yw_move rfl rfl) rfl rfl ?_)
  refine RX.cons rfl rfl (op_w (yw_rem rfl rfl rfl (by omega) (by omega)) rfl rfl ?_)
  refine RX.know (t := 12) (u := .int .i64 ((pickN c n : Nat) : Int)) rfl (congrArg (Value.int .i64) (pickN_pos c6)) ?_
  refine RX.cons rfl rfl (op_w (yw_assign rfl rfl) rfl rfl ?_)
  refine RX.nil (XX.next (V' := [(4, .int .i64 ((pickN c n : Nat) : Int))]) ⟨rfl, trivial⟩ ?_)
  refine CX.ret ?_
  exact ret_tmp rfl rfl fun w1 hw => ⟨rfl, hw.sub (List.nil_sublist _)⟩

set_option maxRecDepth 100000 in
theorem w_same {w : World} {A B : Option Addr} {ca cb : Nat} (a b : Stm) (hra : Rd w A 3 (a.ls.map lnC)) (hrb : Rd w B 3 (b.ls.map lnC)) (hl : a.ls.length ≤ 1000000) :
    Calls Tryz.prog 31 #[.agg (#[.int .i64 (Stm.h a), .int .i64 (Stm.c a), .slice A (List.length (Stm.ls a)) ca]), .agg (#[.int .i64 (Stm.h b), .int .i64 (Stm.c b), .slice B (List.length (Stm.ls b)) cb])] w (fun e w' => e = .returned (.bool (decide (a = b))) ∧ SL w [] w' []) := by
 refine calls_of_CX (O := []) (L := []) (args := [.agg (#[.int .i64 (Stm.h a), .int .i64 (Stm.c a), .slice A (List.length (Stm.ls a)) ca]), .agg (#[.int .i64 (Stm.h b), .int .i64 (Stm.c b), .slice B (List.length (Stm.ls b)) cb])]) Tryz.func31 rfl (by simp [Tryz.ntmps31]) (SL.refl w) ?_
 refine CX.sub (V' := [(0, .agg (#[.int .i64 (Stm.h a), .int .i64 (Stm.c a), .slice A (List.length (Stm.ls a)) ca])), (1, .agg (#[.int .i64 (Stm.h b), .int .i64 (Stm.c b), .slice B (List.length (Stm.ls b)) cb]))]) ⟨rfl, rfl, trivial⟩ ?_
 refine CX.seq ?_
 refine CX.region ?_
 refine RX.cons rfl rfl (op_box rfl rfl rfl rfl fun ga => ?_)
 refine RX.cons rfl rfl (op_box rfl rfl rfl rfl fun gb => ?_)
 refine RX.cons rfl rfl (op_w (yw_assign rfl rfl) rfl rfl ?_)
 refine RX.nil (XX.next (V' := [(2, _), (3, _)]) ⟨rfl, rfl, trivial⟩ ?_)
 refine CX.seq ?_
 refine CX.seq ?_
 refine CX.region ?_
 refine RX.cons rfl rfl (op_w (yw_field0 rfl fld_25_0 rfl) rfl rfl ?_)
 refine RX.cons rfl rfl (op_yld (y_load (i := 1) rfl rfl one_3 rfl rfl) rfl rfl ?_)
 refine RX.cons rfl rfl (op_w (yw_field0 rfl fld_25_0 rfl) rfl rfl ?_)
 refine RX.cons rfl rfl (op_yld (y_load (i := 0) rfl rfl one_3 rfl rfl) rfl rfl ?_)
 refine RX.cons rfl rfl (op_w (yw_neq rfl rfl rfl) rfl rfl ?_)
 refine RX.cons rfl rfl (op_w (yw_move rfl rfl) rfl rfl ?_)
 refine RX.splitD (t := 11) (p := Stm.h a ≠ Stm.h b) rfl (fun d11 => ?_) (fun d11 => ?_)
 ·refine RX.skip rfl rfl rfl rfl rfl rfl rfl ?_
  refine RX.skip rfl rfl rfl rfl rfl rfl rfl ?_
  refine RX.skip rfl rfl rfl rfl rfl rfl rfl ?_
  refine RX.skip rfl rfl rfl rfl rfl rfl rfl ?_
  refine RX.skip rfl rfl rfl rfl rfl rfl rfl ?_
  refine RX.cons rfl rfl (op_w (yw_pickT rfl rfl rfl) rfl rfl ?_)
  refine RX.cons rfl rfl (op_w (yw_move rfl rfl) rfl rfl ?_)
  refine RX.skip rfl rfl rfl rfl rfl rfl rfl ?_
  refine RX.skip rfl rfl rfl rfl rfl rfl rfl ?_
  refine RX.skip rfl rfl rfl rfl rfl rfl rfl ?_
  refine RX.skip rfl rfl rfl rfl rfl rfl rfl ?_
  refine RX.skip rfl rfl rfl rfl rfl rfl rfl ?_
  refine RX.skip rfl rfl rfl rfl rfl rfl rfl ?_
  refine RX.skip rfl rfl rfl rfl rfl rfl rfl ?_
  refine RX.cons rfl rfl (op_w (yw_pickT rfl rfl rfl) rfl rfl ?_)
  refine RX.nil (XX.next (V' := [(2, _), (3, _), (26, _)]) ⟨rfl, rfl, rfl, trivial⟩ ?_)
  refine CX.condT rfl ?_
  refine CX.seq ?_
  refine CX.region ?_
  refine RX.cons rfl rfl (op_w (yw_assign rfl rfl) rfl rfl ?_)
  refine RX.nil (XX.next (V' := [(4, .bool false)]) ⟨rfl, trivial⟩ ?_)
  refine CX.ret ?_
  refine XX.then_ret ?_
  exact ret_tmp rfl rfl fun w1 hw => ⟨by rw [decide_eq_false (fun e => d11 (by rw [e]))], hw.sub (List.nil_sublist _)⟩
 ·refine RX.consG rfl rfl rfl rfl rfl (op_w (yw_fieldAddr rfl fld_25_1 rfl) rfl rfl ?_)
  refine RX.consG rfl rfl rfl rfl rfl (op_yld (y_load (i := 1) rfl rfl one_3 rfl rfl) rfl rfl ?_)
  refine RX.consG rfl rfl rfl rfl rfl (op_w (yw_fieldAddr rfl fld_25_1 rfl) rfl rfl ?_)
  refine RX.consG rfl rfl rfl rfl rfl (op_yld (y_load (i := 0) rfl rfl one_3 rfl rfl) rfl rfl ?_)
  refine RX.consG rfl rfl rfl rfl rfl (op_w (yw_neq rfl rfl rfl) rfl rfl ?_)
  refine RX.cons rfl rfl (op_w (yw_pickF rfl rfl rfl) rfl rfl ?_)
  refine RX.cons rfl rfl (op_w (yw_move rfl rfl) rfl rfl ?_)
  refine RX.splitD (t := 18) (p := Stm.c a ≠ Stm.c b) rfl (fun d18 => ?_) (fun d18 => ?_)
  ·refine RX.skip rfl rfl rfl rfl rfl rfl rfl ?_
   refine RX.skip rfl rfl rfl rfl rfl rfl rfl ?_
   refine RX.skip rfl rfl rfl rfl rfl rfl rfl ?_
   refine RX.skip rfl rfl rfl rfl rfl rfl rfl ?_
   refine RX.skip rfl rfl rfl rfl rfl rfl rfl ?_
   refine RX.skip rfl rfl rfl rfl rfl rfl rfl ?_
   refine RX.skip rfl rfl rfl rfl rfl rfl rfl ?_
   refine RX.cons rfl rfl (op_w (yw_pickT rfl rfl rfl) rfl rfl ?_)
   refine RX.nil (XX.next (V' := [(2, _), (3, _), (26, _)]) ⟨rfl, rfl, rfl, trivial⟩ ?_)
   refine CX.condT rfl ?_
   refine CX.seq ?_
   refine CX.region ?_
   refine RX.cons rfl rfl (op_w (yw_assign rfl rfl) rfl rfl ?_)
   refine RX.nil (XX.next (V' := [(4, .bool false)]) ⟨rfl, trivial⟩ ?_)
   refine CX.ret ?_
   refine XX.then_ret ?_
   exact ret_tmp rfl rfl fun w1 hw => ⟨by rw [decide_eq_false (fun e => d18 (by rw [e]))], hw.sub (List.nil_sublist _)⟩
  ·refine RX.consG rfl rfl rfl rfl rfl (op_w (yw_fieldAddr rfl fld_25_2 rfl) rfl rfl ?_)
   refine RX.consG rfl rfl rfl rfl rfl (op_yld (y_load (i := 1) rfl rfl one_23 rfl rfl) rfl rfl ?_)
   refine RX.consG rfl rfl rfl rfl rfl (op_w (yw_lenS rfl Tryz.underlying23 rfl) rfl rfl ?_)
   refine RX.consG rfl rfl rfl rfl rfl (op_w (yw_fieldAddr rfl fld_25_2 rfl) rfl rfl ?_)
   refine RX.consG rfl rfl rfl rfl rfl (op_yld (y_load (i := 0) rfl rfl one_23 rfl rfl) rfl rfl ?_)
   refine RX.consG rfl rfl rfl rfl rfl (op_w (yw_lenS rfl Tryz.underlying23 rfl) rfl rfl ?_)
   refine RX.consG rfl rfl rfl rfl rfl (op_w (yw_neq rfl rfl rfl) rfl rfl ?_)
   refine RX.cons rfl rfl (op_w (yw_pickF rfl rfl rfl) rfl rfl ?_)
   refine RX.nil (XX.next (V' := [(2, _), (3, _), (26, _)]) ⟨rfl, rfl, rfl, trivial⟩ ?_)
   refine CX.condD (p := ((List.length (Stm.ls a) : Nat) : Int) ≠ ((List.length (Stm.ls b) : Nat) : Int)) rfl (fun c26 => ?_) (fun c26 => ?_)
   ·refine CX.seq ?_
    refine CX.region ?_
    refine RX.cons rfl rfl (op_w (yw_assign rfl rfl) rfl rfl ?_)
    refine RX.nil (XX.next (V' := [(4, .bool false)]) ⟨rfl, trivial⟩ ?_)
    refine CX.ret ?_
    refine XX.then_ret ?_
    exact ret_tmp rfl rfl fun w1 hw => ⟨by rw [decide_eq_false (fun e => c26 (by rw [e]))], hw.sub (List.nil_sublist _)⟩
   ·refine CX.skip (XX.next (V' := [(2, _), (3, _)]) ⟨rfl, rfl, trivial⟩ ?_)
    refine CX.seq ?_
    refine CX.seq ?_
    refine CX.region ?_
    refine RX.cons rfl rfl (op_w (yw_assign rfl rfl) rfl rfl ?_)
    refine RX.nil (XX.next (V' := [(2, _), (3, _), (5, _)]) ⟨rfl, rfl, rfl, trivial⟩ ?_)
    refine CX.block ?_
    have hlen : a.ls.length = b.ls.length := by omega
    refine CX.loop (σ := Nat) (fun i => [(2, .pointer (some ⟨ga, 0, none⟩)), (3, .pointer (some ⟨gb, 0, none⟩)), (5, .int .i64 ((i : Nat) : Int))]) (fun i => [.blk gb (.cells (#[.int .i64 (Stm.h b), .int .i64 (Stm.c b), .slice B (List.length (Stm.ls b)) cb]) 25 (0, 0)), .blk ga (.cells (#[.int .i64 (Stm.h a), .int .i64 (Stm.c a), .slice A (List.length (Stm.ls a)) ca]) 25 (0, 0))]) (fun i => i ≤ a.ls.length ∧ a.ls.take i = b.ls.take i) (fun i => a.ls.length - i) 0 ⟨Nat.zero_le _, by simp⟩ ⟨rfl, rfl, rfl, trivial⟩ rfl (fun i hI => ?_)
    obtain ⟨hi, hf⟩ := hI
    refine CX.seq ?_
    refine CX.seq ?_
    refine CX.region ?_
    refine RX.cons rfl rfl (op_w (yw_move rfl rfl) rfl rfl ?_)
    refine RX.cons rfl rfl (op_w (yw_fieldAddr rfl fld_25_2 rfl) rfl rfl ?_)
    refine RX.cons rfl rfl (op_yld (y_load (i := 1) rfl rfl one_23 rfl rfl) rfl rfl ?_)
    refine RX.cons rfl rfl (op_w (yw_lenS rfl Tryz.underlying23 rfl) rfl rfl ?_)
    refine RX.cons rfl rfl (op_w (yw_lss rfl rfl rfl) rfl rfl ?_)
    refine RX.nil (XX.next (V' := [(2, _), (3, _), (5, _), (31, _)]) ⟨rfl, rfl, rfl, rfl, trivial⟩ ?_)
    refine CX.condD (p := ((i : Nat) : Int) < ((List.length (Stm.ls a) : Nat) : Int)) rfl (fun c31 => ?_) (fun c31 => ?_)
    ·obtain ⟨x, ha⟩ := get_some (l := a.ls) (k := i) (by omega)
     obtain ⟨y, hb⟩ := get_some (l := b.ls) (k := i) (by omega)
     have hA : ∃ b j, A = some ⟨b, j, none⟩ := hra.some (k := i) (by simp; omega)
     have hB : ∃ b j, B = some ⟨b, j, none⟩ := hrb.some (k := i) (by simp; omega)
     refine CX.skip (XX.next (V' := [(2, _), (3, _), (5, _)]) ⟨rfl, rfl, rfl, trivial⟩ ?_)
     refine CX.seq ?_
     refine CX.block ?_
     refine CX.seq ?_
     refine CX.draw 11 [(0, 4, 17179869184), (1, 17179869184, 34359738368), (0, 32, 68719476736), (6, 103079215104, 137438953472), (8, 137438953472, 274877906944), (0, 8, 549755813888), (32, 549755813888, 1099511627776), (0, 32, 2199023255552), (192, 3298534883328, 4398046511104), (256, 4398046511104, 8796093022208), (528, 9070970929152, 17592186044416)] (by kernel_rfl) (by kernel_rfl) (by kernel_rfl) ?_
     refine DX.takeW 0 1 (by kernel_rfl) rfl rfl rfl rfl rfl (yw_fieldAddr rfl fld_25_2 rfl) ?_
     refine DX.take 1 3 (by kernel_rfl) rfl rfl rfl rfl rfl (List.Sublist.refl _) (y_load (i := 1) rfl rfl one_23 rfl rfl) ?_
     refine DX.takeW 2 7 (by kernel_rfl) rfl rfl rfl rfl rfl (yw_move rfl rfl) ?_
     refine DX.takeW 3 15 (by kernel_rfl) rfl rfl rfl rfl rfl (yw_index (k := i) rfl slt_23 rfl rfl (by omega) (by omega) hA) ?_
     refine DX.take 4 31 (by kernel_rfl) rfl rfl rfl rfl rfl (List.Sublist.refl _) (y_elem rfl rfl agg_77 hra (by simp) (map_get ha)) ?_
     refine DX.takeW 5 63 (by kernel_rfl) rfl rfl rfl rfl rfl (yw_fieldAddr rfl fld_25_2 rfl) ?_
     refine DX.take 6 127 (by kernel_rfl) rfl rfl rfl rfl rfl (List.Sublist.refl _) (y_load (i := 0) rfl rfl one_23 rfl rfl) ?_
     refine DX.takeW 7 255 (by kernel_rfl) rfl rfl rfl rfl rfl (yw_move rfl rfl) ?_
     refine DX.takeW 8 511 (by kernel_rfl) rfl rfl rfl rfl rfl (yw_index (k := i) rfl slt_23 rfl rfl (by omega) (by omega) hB) ?_
     refine DX.take 9 1023 (by kernel_rfl) rfl rfl rfl rfl rfl (List.Sublist.refl _) (y_elem rfl rfl agg_77 hrb (by simp) (map_get hb)) ?_
     refine DX.takeW 10 2047 (by kernel_rfl) rfl rfl rfl rfl rfl (yw_neqAgg (b := Ln.same x y) rfl rfl rfl eqg_77 (fun w => eq_ln x y w)) ?_
     refine DX.done (by kernel_rfl) (XX.next (V' := [(2, _), (3, _), (5, _), (44, _)]) ⟨rfl, rfl, rfl, rfl, trivial⟩ ?_)
     refine CX.cond (b := !(Ln.same x y)) rfl (fun c44 => ?_) (fun c44 => ?_)
     ·refine CX.seq ?_
      refine CX.region ?_
      refine RX.cons rfl rfl (op_w (yw_assign rfl rfl) rfl rfl ?_)
      refine RX.nil (XX.next (V' := [(4, .bool false)]) ⟨rfl, trivial⟩ ?_)
      refine CX.ret ?_
      refine XX.block_ret ?_
      refine XX.then_ret ?_
      refine XX.then_ret ?_
      refine XX.block_ret ?_
      refine XX.then_ret ?_
      exact ret_tmp rfl rfl fun w1 hw => ⟨by rw [decide_eq_false (fun e => differ_at ha hb (fun e => by rw [(Ln.same_iff x y).2 e] at c44; simp at c44) (by rw [e]))], hw.sub (List.nil_sublist _)⟩
     ·refine CX.skip (XX.inBlock (V' := [(2, _), (3, _), (5, _)]) ⟨rfl, rfl, rfl, trivial⟩ ?_)
      refine XX.next (V' := [(2, _), (3, _), (5, _)]) ⟨rfl, rfl, rfl, trivial⟩ ?_
      refine CX.region ?_
      refine RX.cons rfl rfl (op_w (yw_move rfl rfl) rfl rfl ?_)
      refine RX.cons rfl rfl (op_w (yw_add rfl rfl rfl (by omega) (by omega)) rfl rfl ?_)
      refine RX.cons rfl rfl (op_w (yw_assign rfl rfl) rfl rfl ?_)
      refine RX.nil (XX.againP ([]) (i + 1) (by omega) ⟨by omega, same_upto hf ha hb ((Ln.same_iff x y).1 (by simpa using c44))⟩ ⟨rfl, rfl, rfl, trivial⟩ ((perm_pick 0 rfl).trans (List.Perm.cons _ ((perm_pick 0 rfl).trans (List.Perm.cons _ (List.Perm.refl _))))))
    ·refine CX.exit ?_
     refine XX.then_exit ?_
     refine XX.then_exit ?_
     refine XX.block_exit ?_
     refine XX.next (V' := []) trivial ?_
     refine CX.seq ?_
     refine CX.region ?_
     refine RX.cons rfl rfl (op_w (yw_assign rfl rfl) rfl rfl ?_)
     refine RX.nil (XX.next (V' := [(4, .bool true)]) ⟨rfl, trivial⟩ ?_)
     refine CX.ret ?_
     exact ret_tmp rfl rfl fun w1 hw => ⟨by rw [decide_eq_true (by rw [List.take_of_length_le (by omega), List.take_of_length_le (by omega)] at hf; obtain ⟨ah, ac, al⟩ := a; obtain ⟨bh, bc, bl⟩ := b; simp only at *; simp [Decidable.not_not.1 d11, Decidable.not_not.1 d18, hf])], hw.sub (List.nil_sublist _)⟩

end Go.Proofs.YtnadipjlhlbfoaaGreatDoor
namespace Go.Proofs.YtnadipjlhlbfoaaGreatDoor
set_option linter.all false
open Go Go.RowKit
set_option maxRecDepth 100000
theorem ent_31 : ∀ args w, (callFunc 31 args).run Tryz.prog w = .ok (.enter 31 args) w := enters_of Tryz.func31 (by kernel_rfl) rfl
theorem ent_82 : ∀ args w, (callFunc 82 args).run Tryz.prog w = .ok (.enter 82 args) w := enters_of Tryz.func82 (by kernel_rfl) rfl
set_option maxRecDepth 100000 in
theorem w_sameList {w : World} {A B : Option Addr} {ca cb : Nat} (X Y : List SX) (hrX : Rd w A 3 (X.map stC)) (hX : ∀ x ∈ X, Rd w x.1.1 3 (x.2.ls.map lnC)) (hrY : Rd w B 3 (Y.map stC)) (hY : ∀ x ∈ Y, Rd w x.1.1 3 (x.2.ls.map lnC)) (hXl : ∀ x ∈ X, x.2.ls.length ≤ 1000000) (hl : X.length ≤ 1000000) :
    Calls Tryz.prog 11 #[.slice A X.length ca, .slice B Y.length cb] w (fun e w' => e = .returned (.bool (decide (X.map (fun x : SX => x.2) = Y.map (fun x : SX => x.2)))) ∧ SL w [] w' []) := by
 refine calls_of_CX (O := []) (L := []) (args := [.slice A X.length ca, .slice B Y.length cb]) Tryz.func11 rfl (by simp [Tryz.ntmps11]) (SL.refl w) ?_
 refine CX.sub (V' := [(0, .slice A X.length ca), (1, .slice B Y.length cb)]) ⟨rfl, rfl, trivial⟩ ?_
 refine CX.seq ?_
 refine CX.region ?_
 refine RX.cons rfl rfl (op_w (yw_assign rfl rfl) rfl rfl ?_)
 refine RX.nil (XX.next (V' := [(0, _), (1, _)]) ⟨rfl, rfl, trivial⟩ ?_)
 refine CX.seq ?_
 refine CX.seq ?_
 refine CX.region ?_
 refine RX.cons rfl rfl (op_w (yw_move rfl rfl) rfl rfl ?_)
 refine RX.cons rfl rfl (op_w (yw_lenS rfl Tryz.underlying33 rfl) rfl rfl ?_)
 refine RX.cons rfl rfl (op_w (yw_move rfl rfl) rfl rfl ?_)
 refine RX.cons rfl rfl (op_w (yw_lenS rfl Tryz.underlying33 rfl) rfl rfl ?_)
 refine RX.cons rfl rfl (op_w (yw_neq rfl rfl rfl) rfl rfl ?_)
 refine RX.nil (XX.next (V' := [(0, _), (1, _), (10, _)]) ⟨rfl, rfl, rfl, trivial⟩ ?_)
 refine CX.condD (p := ((X.length : Nat) : Int) ≠ ((Y.length : Nat) : Int)) rfl (fun c10 => ?_) (fun c10 => ?_)
 ·refine CX.seq ?_
  refine CX.region ?_
  refine RX.cons rfl rfl (op_w (yw_assign rfl rfl) rfl rfl ?_)
  refine RX.nil (XX.next (V' := [(4, .bool false)]) ⟨rfl, trivial⟩ ?_)
  refine CX.ret ?_
  refine XX.then_ret ?_
  exact ret_tmp rfl rfl fun w1 hw => ⟨by rw [decide_eq_false (fun e => c10 (by have := congrArg List.length e; simp at this; omega))], hw.sub (List.nil_sublist _)⟩
 ·refine CX.skip (XX.next (V' := [(0, _), (1, _)]) ⟨rfl, rfl, trivial⟩ ?_)
  refine CX.seq ?_
  refine CX.seq ?_
  refine CX.region ?_
  refine RX.cons rfl rfl (op_w (yw_assign rfl rfl) rfl rfl ?_)
  refine RX.nil (XX.next (V' := [(0, _), (1, _), (5, _)]) ⟨rfl, rfl, rfl, trivial⟩ ?_)
  refine CX.block ?_
  have hlen : X.length = Y.length := by omega
  refine CX.loop (σ := Nat) (fun i => [(0, .slice A X.length ca), (1, .slice B Y.length cb), (5, .int .i64 ((i : Nat) : Int))]) (fun i => []) (fun i => i ≤ X.length ∧ (X.map (fun x : SX => x.2)).take i = (Y.map (fun x : SX => x.2)).take i) (fun i => X.length - i) 0 ⟨Nat.zero_le _, by simp⟩ ⟨rfl, rfl, rfl, trivial⟩ rfl (fun i hI => ?_)
  obtain ⟨hi, hf⟩ := hI
  refine CX.seq ?_
  refine CX.seq ?_
  refine CX.region ?_
  refine RX.cons rfl rfl (op_w (yw_move rfl rfl) rfl rfl ?_)
  refine RX.cons rfl rfl (op_w (yw_move rfl rfl) rfl rfl ?_)
  refine RX.cons rfl rfl (op_w (yw_lenS rfl Tryz.underlying33 rfl) rfl rfl ?_)
  refine RX.cons rfl rfl (op_w (yw_lss rfl rfl rfl) rfl rfl ?_)
  refine RX.nil (XX.next (V' := [(0, _), (1, _), (5, _), (14, _)]) ⟨rfl, rfl, rfl, rfl, trivial⟩ ?_)
  refine CX.condD (p := ((i : Nat) : Int) < ((X.length : Nat) : Int)) rfl (fun c14 => ?_) (fun c14 => ?_)
  ·obtain ⟨x0, ha⟩ := get_some (l := X) (k := i) (by omega)
   obtain ⟨y0, hb⟩ := get_some (l := Y) (k := i) (by omega)
   have hA : ∃ b j, A = some ⟨b, j, none⟩ := hrX.some (k := i) (by simp; omega)
   have hB : ∃ b j, B = some ⟨b, j, none⟩ := hrY.some (k := i) (by simp; omega)
   have hx0m := List.mem_of_getElem? ha
   have hy0m := List.mem_of_getElem? hb
   refine CX.skip (XX.next (V' := [(0, _), (1, _), (5, _)]) ⟨rfl, rfl, rfl, trivial⟩ ?_)
   refine CX.seq ?_
   refine CX.block ?_
   refine CX.seq ?_
   refine CX.draw 10 [(0, 1, 131072), (0, 32, 262144), (3, 393216, 524288), (4, 524288, 1048576), (0, 2, 2097152), (0, 32, 4194304), (48, 6291456, 8388608), (64, 8388608, 16777216), (136, 17825792, 33554432), (256, 33554432, 67108864)] (by kernel_rfl) (by kernel_rfl) (by kernel_rfl) ?_
   refine DX.takeW 0 1 (by kernel_rfl) rfl rfl rfl rfl rfl (yw_move rfl rfl) ?_
   refine DX.takeW 1 3 (by kernel_rfl) rfl rfl rfl rfl rfl (yw_move rfl rfl) ?_
   refine DX.takeW 2 7 (by kernel_rfl) rfl rfl rfl rfl rfl (yw_index (k := i) rfl slt_33 rfl rfl (by omega) (by omega) hA) ?_
   refine DX.take 3 15 (by kernel_rfl) rfl rfl rfl rfl rfl (List.nil_sublist _) (y_elem rfl rfl agg_25 hrX (by simp) (map_get ha)) ?_
   refine DX.takeW 4 31 (by kernel_rfl) rfl rfl rfl rfl rfl (yw_move rfl rfl) ?_
   refine DX.takeW 5 63 (by kernel_rfl) rfl rfl rfl rfl rfl (yw_move rfl rfl) ?_
   refine DX.takeW 6 127 (by kernel_rfl) rfl rfl rfl rfl rfl (yw_index (k := i) rfl slt_33 rfl rfl (by omega) (by omega) hB) ?_
   refine DX.take 7 255 (by kernel_rfl) rfl rfl rfl rfl rfl (List.nil_sublist _) (y_elem rfl rfl agg_25 hrY (by simp) (map_get hb)) ?_
   refine DX.step 8 511 (by kernel_rfl) rfl rfl rfl (op_callV (v := .bool (decide (x0.2 = y0.2))) rfl rfl rfl rfl rfl ent_31 (fun w hw => w_same x0.2 y0.2 (hw.rd (hX x0 hx0m) (by simp)) (hw.rd (hY y0 hy0m) (by simp)) (hXl x0 hx0m)) (DXs.mk (List.nil_sublist _) ?_))
   refine DX.takeW 9 1023 (by kernel_rfl) rfl rfl rfl rfl rfl (yw_notD rfl rfl) ?_
   refine DX.done (by kernel_rfl) (XX.next (V' := [(0, _), (1, _), (5, _), (26, _)]) ⟨rfl, rfl, rfl, rfl, trivial⟩ ?_)
   refine CX.condD (p := ¬ (x0.2 = y0.2)) rfl (fun c26 => ?_) (fun c26 => ?_)
   ·refine CX.seq ?_
    refine CX.region ?_
    refine RX.cons rfl rfl (op_w (yw_assign rfl rfl) rfl rfl ?_)
    refine RX.nil (XX.next (V' := [(4, .bool false)]) ⟨rfl, trivial⟩ ?_)
    refine CX.ret ?_
    refine XX.block_ret ?_
    refine XX.then_ret ?_
    refine XX.then_ret ?_
    refine XX.block_ret ?_
    refine XX.then_ret ?_
    exact ret_tmp rfl rfl fun w1 hw => ⟨by rw [decide_eq_false (differ_at (map_get (f := fun x : SX => x.2) ha) (map_get (f := fun x : SX => x.2) hb) c26)], hw.sub (List.nil_sublist _)⟩
   ·refine CX.skip (XX.inBlock (V' := [(0, _), (1, _), (5, _)]) ⟨rfl, rfl, rfl, trivial⟩ ?_)
    refine XX.next (V' := [(0, _), (1, _), (5, _)]) ⟨rfl, rfl, rfl, trivial⟩ ?_
    refine CX.region ?_
    refine RX.cons rfl rfl (op_w (yw_move rfl rfl) rfl rfl ?_)
    refine RX.cons rfl rfl (op_w (yw_add rfl rfl rfl (by omega) (by omega)) rfl rfl ?_)
    refine RX.cons rfl rfl (op_w (yw_assign rfl rfl) rfl rfl ?_)
    refine RX.nil (XX.againP ([]) (i + 1) (by omega) ⟨by omega, same_upto hf (map_get (f := fun x : SX => x.2) ha) (map_get (f := fun x : SX => x.2) hb) (Decidable.not_not.1 c26)⟩ ⟨rfl, rfl, rfl, trivial⟩ (List.Perm.refl _))
  ·refine CX.exit ?_
   refine XX.then_exit ?_
   refine XX.then_exit ?_
   refine XX.block_exit ?_
   refine XX.next (V' := []) trivial ?_
   refine CX.seq ?_
   refine CX.region ?_
   refine RX.cons rfl rfl (op_w (yw_assign rfl rfl) rfl rfl ?_)
   refine RX.nil (XX.next (V' := [(4, .bool true)]) ⟨rfl, trivial⟩ ?_)
   refine CX.ret ?_
   exact ret_tmp rfl rfl fun w1 hw => ⟨by rw [decide_eq_true (by rw [List.take_of_length_le (by simp; omega), List.take_of_length_le (by simp; omega)] at hf; exact hf)], hw.sub (List.nil_sublist _)⟩

set_option maxRecDepth 100000 in
theorem w_zig {w : World} (n : Nat) (hn : n ≤ 4611686018427387903) :
    Calls Tryz.prog 82 #[.int .i64 ((n : Nat) : Int)] w (fun e w' => e = .returned (.int .u64 ((2 * n : Nat) : Int)) ∧ SL w [] w' []) := by
 refine calls_of_CX (O := []) (L := []) (args := [.int .i64 ((n : Nat) : Int)]) Tryz.func82 rfl (by simp [Tryz.ntmps82]) (SL.refl w) ?_
 refine CX.sub (V' := [(0, .int .i64 ((n : Nat) : Int))]) ⟨rfl, trivial⟩ ?_
 refine CX.seq ?_
 refine CX.region ?_
 refine RX.cons rfl rfl (op_w (yw_assign rfl rfl) rfl rfl ?_)
 refine RX.nil (XX.next (V' := [(0, _)]) ⟨rfl, trivial⟩ ?_)
 refine CX.seq ?_
 refine CX.seq ?_
 refine CX.region ?_
 refine RX.cons rfl rfl (op_w (yw_move rfl rfl) rfl rfl ?_)
 refine RX.cons rfl rfl (op_w (yw_lss rfl rfl rfl) rfl rfl ?_)
 refine RX.nil (XX.next (V' := [(0, _), (4, _)]) ⟨rfl, rfl, trivial⟩ ?_)
 refine CX.condD (p := ((n : Nat) : Int) < 0) rfl (fun c4 => ?_) (fun c4 => ?_)
 ·exfalso; omega
 ·refine CX.skip (XX.next (V' := [(0, _)]) ⟨rfl, trivial⟩ ?_)
  refine CX.seq ?_
  refine CX.region ?_
  refine RX.cons rfl rfl (op_w (yw_move rfl rfl) rfl rfl ?_)
  refine RX.cons rfl rfl (op_w (yw_bvOf UK.u64 rfl rfl Tryz.underlying3 Tryz.underlying122) rfl rfl ?_)
  refine RX.cons rfl rfl (op_w (yw_bvMul (a := BitVec.ofInt 64 ((n : Nat) : Int)) (b := 2#64) UK.u64 rfl rfl rfl) rfl rfl ?_)
  refine RX.cons rfl rfl (op_w (yw_assign rfl rfl) rfl rfl ?_)
  refine RX.nil (XX.next (V' := [(2, .int .u64 (wi ((BitVec.ofInt 64 ((n : Nat) : Int)) * (2#64))))]) ⟨rfl, trivial⟩ ?_)
  refine CX.ret ?_
  exact ret_tmp rfl rfl fun w1 hw => ⟨congrArg (fun z => Ending.returned (Value.int .u64 z)) (zigzag_ref hn), hw.sub (List.nil_sublist _)⟩

set_option maxRecDepth 100000 in
theorem w_putInt01 {w : World} (n : Nat) (hn : n ≤ 4611686018427387903) :
    Calls Tryz.prog 59 #[.int .i64 ((n : Nat) : Int)] w (fun e w' => e = .returned (.tuple #[.string (⟨(encI n).toArray⟩), .int .i64 0]) ∧ SL w [] w' []) := by
 refine calls_of_CX (O := []) (L := []) (args := [.int .i64 ((n : Nat) : Int)]) Tryz.func59 rfl (by simp [Tryz.ntmps59]) (SL.refl w) ?_
 refine CX.sub (V' := [(0, .int .i64 ((n : Nat) : Int))]) ⟨rfl, trivial⟩ ?_
 refine CX.seq ?_
 refine CX.region ?_
 refine RX.cons rfl rfl (op_w (yw_assign rfl rfl) rfl rfl ?_)
 refine RX.cons rfl rfl (op_w (yw_assign rfl rfl) rfl rfl ?_)
 refine RX.nil (XX.next (V' := [(0, _)]) ⟨rfl, trivial⟩ ?_)
 refine CX.seq ?_
 refine CX.seq ?_
 refine CX.region ?_
 refine RX.cons rfl rfl (op_w (yw_move rfl rfl) rfl rfl ?_)
 refine RX.cons rfl rfl (op_w (yw_lss rfl rfl rfl) rfl rfl ?_)
 refine RX.cons rfl rfl (op_w (yw_move rfl rfl) rfl rfl ?_)
 refine RX.splitD (t := 8) (p := ((n : Nat) : Int) < (-4611686018427387903)) rfl (fun d8 => ?_) (fun d8 => ?_)
 ·exfalso; omega
 ·refine RX.consG rfl rfl rfl rfl rfl (op_w (yw_move rfl rfl) rfl rfl ?_)
  refine RX.consG rfl rfl rfl rfl rfl (op_w (yw_gtr rfl rfl rfl) rfl rfl ?_)
  refine RX.cons rfl rfl (op_w (yw_pickF rfl rfl rfl) rfl rfl ?_)
  refine RX.nil (XX.next (V' := [(0, _), (11, _)]) ⟨rfl, rfl, trivial⟩ ?_)
  refine CX.condD (p := 4611686018427387903 < ((n : Nat) : Int)) rfl (fun c11 => ?_) (fun c11 => ?_)
  ·exfalso; omega
  ·refine CX.skip (XX.next (V' := [(0, _)]) ⟨rfl, trivial⟩ ?_)
   refine CX.seq ?_
   refine CX.region ?_
   refine RX.cons rfl rfl (op_w (yw_move rfl rfl) rfl rfl ?_)
   refine RX.cons rfl rfl (op_callV (v := .int .u64 ((2 * n : Nat) : Int)) rfl rfl rfl rfl rfl ent_82 (fun w hw => w_zig n hn) ?_)
   refine RX.cons rfl rfl (op_w (yw_assign rfl rfl) rfl rfl ?_)
   refine RX.nil (XX.next (V' := [(4, _)]) ⟨rfl, trivial⟩ ?_)
   refine CX.seq ?_
   refine CX.region ?_
   refine RX.cons rfl rfl (op_w (yw_assign rfl rfl) rfl rfl ?_)
   refine RX.nil (XX.next (V' := [(4, _), (5, _)]) ⟨rfl, rfl, trivial⟩ ?_)
   refine CX.seq ?_
   refine CX.block ?_
   refine CX.rowNil 5 1 ?_
   refine CX.loop (σ := Nat × Nat × (Option Addr × Nat) × List UInt8) (fun z => [(4, .int .u64 ((z.2.1 : Nat) : Int)), (5, .slice z.2.2.1.1 (List.length (z.2.2.2 : List UInt8)) z.2.2.1.2)]) (fun z => [.row z.2.2.1.1 z.2.2.1.2 5 1 (List.map u8c z.2.2.2)]) (fun z => z.1 + 1 + z.2.2.2.length = 10 ∧ z.2.1 < 2 ^ (7 * (z.1 + 1)) ∧ z.2.1 < 2 ^ 64 ∧ z.2.2.2 ++ (putW (z.1 + 1) (BitVec.ofNat 64 z.2.1)).map grpB = encI n) (fun z => z.1) (9, 2 * n, (none, 0), []) ⟨rfl, by dsimp only; omega, by dsimp only; omega, rfl⟩ ⟨rfl, rfl, trivial⟩ rfl (fun z hI => ?_)
   obtain ⟨f, m, ⟨A1, c1⟩, bs⟩ := z
   dsimp only at hI ⊢
   obtain ⟨hf, hm, hm64, hp⟩ := hI
   refine CX.seq ?_
   refine CX.seq ?_
   refine CX.region ?_
   refine RX.cons rfl rfl (op_w (yw_move rfl rfl) rfl rfl ?_)
   refine RX.cons rfl rfl (op_w (yw_geq rfl rfl rfl) rfl rfl ?_)
   refine RX.nil (XX.next (V' := [(4, _), (5, _), (15, _)]) ⟨rfl, rfl, rfl, trivial⟩ ?_)
   refine CX.condD (p := 128 ≤ ((m : Nat) : Int)) rfl (fun c15 => ?_) (fun c15 => ?_)
   ·have hf1 : f - 1 + 1 = f := by
      rcases f with _ | f
      · have : m < 128 := hm
        omega
      · rfl
    refine CX.skip (XX.next (V' := [(4, _), (5, _)]) ⟨rfl, rfl, trivial⟩ ?_)
    refine CX.block ?_
    refine CX.seq ?_
    refine CX.region ?_
    refine RX.cons rfl rfl (op_w (yw_move rfl rfl) rfl rfl ?_)
    refine RX.cons rfl rfl (op_w (yw_move rfl rfl) rfl rfl ?_)
    refine RX.cons rfl rfl (op_w (yw_rem rfl rfl rfl (by omega) (by omega)) rfl rfl ?_)
    refine RX.cons rfl rfl (op_w (yw_addw rfl rfl rfl) rfl rfl ?_)
    refine RX.cons rfl rfl (op_w (yw_bvOf UK.u8 rfl rfl Tryz.underlying122 Tryz.underlying5) rfl rfl ?_)
    refine RX.cons rfl rfl (op_buildSlice rfl rfl rfl slb_54 rfl rfl (by intro v hv; simp only [List.mem_cons, List.not_mem_nil, or_false] at hv; subst hv; exact ⟨rfl, (plain_of rfl)⟩) (by decide) fun g9 => ?_)
    refine RX.cons rfl rfl (op_appendM u8c (i := 1) (j := 0) (xs := bs) ([UInt8.ofBitVec (BitVec.ofInt 8 (IntKind.u64.wrap (((m : Nat) : Int) % 128 + 128)))]) rfl rfl rfl slb_54 rfl rfl rfl rfl rfl rfl (by simp only [List.length_singleton]; omega) (by simp only [List.length_singleton]; omega) fun A2 c2 => ?_)
    refine RX.cons rfl rfl (op_w (yw_assign rfl rfl) rfl rfl ?_)
    refine RX.nil (XX.next (V' := [(4, _), (5, _)]) ⟨rfl, rfl, trivial⟩ ?_)
    refine CX.region ?_
    refine RX.cons rfl rfl (op_w (yw_move rfl rfl) rfl rfl ?_)
    refine RX.cons rfl rfl (op_w (yw_quow rfl rfl rfl (by decide)) rfl rfl ?_)
    refine RX.know (t := 24) (u := .int .u64 ((m / 128 : Nat) : Int)) rfl (congrArg (Value.int .u64) (u64_quo m hm64)) ?_
    refine RX.cons rfl rfl (op_w (yw_assign rfl rfl) rfl rfl ?_)
    refine RX.nil (XX.inBlock (V' := [(4, _), (5, _)]) ⟨rfl, rfl, trivial⟩ ?_)
    refine XX.againP ([.row (some ⟨g9, 0, none⟩) 1 5 1 (List.map u8c ([UInt8.ofBitVec (BitVec.ofInt 8 (IntKind.u64.wrap (((m : Nat) : Int) % 128 + 128)))]))]) (f - 1, m / 128, (A2, c2), bs ++ [UInt8.ofBitVec (BitVec.ofInt 8 (IntKind.u64.wrap (((m : Nat) : Int) % 128 + 128)))]) (by dsimp only; omega) ⟨by dsimp only; rw [List.length_append]; simp only [List.length_singleton]; omega, by dsimp only; rw [hf1]; exact grp_lt hm, by dsimp only; omega, by dsimp only; rw [← hp, hf1, put_ref_more hm64 (by omega), List.append_assoc]; rfl⟩ ⟨rfl, rfl, trivial⟩ ((perm_pick 1 rfl).trans (List.Perm.cons _ (List.Perm.refl _)))
   ·refine CX.exit ?_
    refine XX.then_exit ?_
    refine XX.then_exit ?_
    refine XX.block_exit ?_
    refine XX.next (V' := [(4, _), (5, _)]) ⟨rfl, rfl, trivial⟩ ?_
    refine CX.seq ?_
    rw [put_ref_last (by omega)] at hp
    refine CX.region ?_
    refine RX.cons rfl rfl (op_w (yw_move rfl rfl) rfl rfl ?_)
    refine RX.cons rfl rfl (op_w (yw_move rfl rfl) rfl rfl ?_)
    refine RX.cons rfl rfl (op_w (yw_bvOf UK.u8 rfl rfl Tryz.underlying122 Tryz.underlying5) rfl rfl ?_)
    refine RX.cons rfl rfl (op_buildSlice rfl rfl rfl slb_54 rfl rfl (by intro v hv; simp only [List.mem_cons, List.not_mem_nil, or_false] at hv; subst hv; exact ⟨rfl, (plain_of rfl)⟩) (by decide) fun g9 => ?_)
    refine RX.cons rfl rfl (op_appendM u8c (i := 1) (j := 0) (xs := bs) ([UInt8.ofBitVec (BitVec.ofInt 8 ((m : Nat) : Int))]) rfl rfl rfl slb_54 rfl rfl rfl rfl rfl rfl (by simp only [List.length_singleton]; omega) (by simp only [List.length_singleton]; omega) fun A3 c3 => ?_)
    refine RX.cons rfl rfl (op_yld (y_bytesRow (i := 1) (l := (bs ++ [UInt8.ofBitVec (BitVec.ofInt 8 ((m : Nat) : Int))])) rfl rfl Tryz.underlying54 Tryz.underlying5 Tryz.underlying9 rfl (by simp)) rfl rfl ?_)
    refine RX.cons rfl rfl (op_w (yw_assign rfl rfl) rfl rfl ?_)
    refine RX.cons rfl rfl (op_w (yw_assign rfl rfl) rfl rfl ?_)
    refine RX.nil (XX.next (V' := [(2, .string (⟨List.toArray (bs ++ [UInt8.ofBitVec (BitVec.ofInt 8 ((m : Nat) : Int))])⟩)), (3, .int .i64 0)]) ⟨rfl, rfl, trivial⟩ ?_)
    refine CX.ret ?_
    exact ret_tmp2 rfl rfl rfl fun w1 hw => ⟨by rw [← hp], hw.sub (List.nil_sublist _)⟩

end Go.Proofs.YtnadipjlhlbfoaaGreatDoor
