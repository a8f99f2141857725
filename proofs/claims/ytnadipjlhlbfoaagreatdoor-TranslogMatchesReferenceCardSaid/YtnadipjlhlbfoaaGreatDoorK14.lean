/- Walks, printed by a program. Walks, printed by a program. A region that draws its order: once the operations ahead of the threshold have come up, another threshold, and other entries known. Walks, printed by a program. What the arguments of a law are, opened out of their reading; and the law's end: the arguments read as they did. Nothing here knows a program. The statements among the arguments, and the digest's rounds, out of their readings. -/
import Derived.Test.YtnadipjlhlbfoaaGreatDoorK13
import Derived.Test.YtnadipjlhlbfoaaGreatDoorK1
import Derived.Test.YtnadipjlhlbfoaaGreatDoorK2
import Derived.Deep.Slices
import Derived.ReadAgain
import Derived.ProofKit
import Derived.Carry
import Derived.Test.YtnadipjlhlbfoaaGreatDoorRows
import Derived.LaidMore
import Derived.OpenShut
import Derived.DataShut
namespace Go.Proofs.YtnadipjlhlbfoaaGreatDoor
set_option linter.all false
open Go Go.RowKit
set_option maxRecDepth 100000
theorem ent_30 : ∀ args w, (callFunc 30 args).run Tryz.prog w = .ok (.enter 30 args) w := enters_of Tryz.func30 (by kernel_rfl) rfl
theorem ent_37 : ∀ args w, (callFunc 37 args).run Tryz.prog w = .ok (.enter 37 args) w := enters_of Tryz.func37 (by kernel_rfl) rfl
/-- What can be read of the reference's log. -/
structure RefAt (w : World) (g : Nat) (z : Option Addr × Nat) (Y : List SX) : Prop where
  c0 : w.cell? ⟨g, 0, none⟩ = some (.slice z.1 Y.length z.2)
  rX : Rd w z.1 3 (Y.map stC)
  rL : ∀ x ∈ Y, Rd w x.1.1 3 (x.2.ls.map lnC)
theorem refAt_of {w0 w : World} {O : List Nat} {L : List Ent} (hw : SL w0 O w L) {i j k g : Nat} {z : Option Addr × Nat} {Y : List SX} (h1 : L[i]? = some (.blk g (.cells #[.slice z.1 Y.length z.2] 35 (0, 0)))) (h2 : L[j]? = some (.row z.1 z.2 25 3 (Y.map stC))) (h3 : L[k]? = some (pack (lns Y))) : RefAt w g z Y :=
  ⟨hw.cellOf h1 rfl, Ent.rd (hw.ents _ (List.mem_of_getElem? h2)), lnsRd hw h3⟩
theorem RefAt.keep {w0 w : World} {L : List Ent} {g : Nat} {z : Option Addr × Nat} {Y : List SX} (h : RefAt w0 g z Y) (hw : SL w0 [] w L) : RefAt w g z Y :=
  ⟨hw.keepC h.c0 (by simp), hw.rd h.rX (by simp), fun x hx => hw.rd (h.rL x hx) (by simp)⟩
set_option maxRecDepth 100000 in
theorem w_rootR {w : World} {gy : Nat} {z : Option Addr × Nat} (Y : List SX) (hR : RefAt w gy z Y) (hYl : ∀ x ∈ Y, x.2.ls.length ≤ 1000000) (hl : Y.length ≤ 1000000) (hok : ∀ x ∈ Y, okS x.2 = true) :
    Calls Tryz.prog 10 #[.pointer (some ⟨gy, 0, none⟩)] w (fun e w' => e = .returned (.string (root sum (entsX Y))) ∧ SL w [] w' []) := by
 refine calls_of_CX (O := []) (L := []) (args := [.pointer (some ⟨gy, 0, none⟩)]) Tryz.func10 rfl (by simp [Tryz.ntmps10]) (SL.refl w) ?_
 refine CX.sub (V' := [(0, .pointer (some ⟨gy, 0, none⟩))]) ⟨rfl, trivial⟩ ?_
 refine CX.seq ?_
 refine CX.region ?_
 refine RX.cons rfl rfl (op_w (yw_assign rfl rfl) rfl rfl ?_)
 refine RX.nil (XX.next (V' := [(0, _)]) ⟨rfl, trivial⟩ ?_)
 refine CX.seq ?_
 refine CX.region ?_
 refine RX.cons rfl rfl (op_w (yw_move rfl rfl) rfl rfl ?_)
 refine RX.cons rfl rfl (op_w (yw_nilCheck rfl rfl) rfl rfl ?_)
 refine RX.cons rfl rfl (op_w (yw_field0 rfl fld_35_0 rfl) rfl rfl ?_)
 refine RX.cons rfl rfl (op_yld (y_loadG (v := .slice z.1 Y.length z.2) rfl rfl one_33 hR.c0 (by simp)) rfl rfl ?_)
 refine RX.cons rfl rfl (op_callE rfl rfl rfl rfl rfl ent_30 (fun w hw => w_entries24 Y (hw.rd hR.rX (by simp)) (fun x hx => hw.rd (hR.rL x hx) (by simp)) hYl hl hok) (fun ze _ => ?_))
 refine RX.cons rfl rfl (op_callV (v := .string (root sum (entsX Y))) rfl rfl rfl rfl rfl ent_29 (fun w hw => w_root02 (entsX Y) (Ent.rd (hw.ents _ (List.mem_of_getElem? (i := 0) rfl))) (by have h8 := Ent.capLe (hw.ents _ (List.mem_of_getElem? (i := 0) rfl)); rwa [List.length_map] at h8) (by rw [entsX_length]; omega) (entsX_sizes hYl)) ?_)
 refine RX.cons rfl rfl (op_w (yw_assign rfl rfl) rfl rfl ?_)
 refine RX.nil (XX.next (V' := [(2, .string (root sum (entsX Y)))]) ⟨rfl, trivial⟩ ?_)
 refine CX.ret ?_
 exact ret_tmp rfl rfl fun w1 hw => ⟨rfl, hw.sub (List.nil_sublist _)⟩

set_option maxRecDepth 100000 in
theorem w_proveR {w : World} {gy : Nat} {z : Option Addr × Nat} (Y : List SX) (hR : RefAt w gy z Y) (hYl : ∀ x ∈ Y, x.2.ls.length ≤ 1000000) (hl : Y.length ≤ 1000000) (hok : ∀ x ∈ Y, okS x.2 = true) (i : Nat) (x0 : SX) (hx0 : Y[i]? = some x0) :
    Calls Tryz.prog 15 #[.pointer (some ⟨gy, 0, none⟩), .int .i64 ((i : Nat) : Int)] w (fun e w' => ∃ y : LZ, True ∧ e = .returned (.tuple #[.agg (prC x0.2 i Y.length (saltX Y i) ((path sum (entsX Y) i).reverse) y), .int .i64 0]) ∧ SL w [] w' [.row y.1.1 y.1.2 77 3 (List.map lnC (Stm.ls x0.2)), .row y.2.1 y.2.2 9 1 (List.map strC ((path sum (entsX Y) i).reverse))]) := by
 have hx0m := List.mem_of_getElem? hx0
 have hi := (List.getElem?_eq_some_iff.1 hx0).1
 have hel := entsX_length Y
 have hA : ∃ b j, z.1 = some ⟨b, j, none⟩ := hR.rX.some (k := i) (by simp; omega)
 refine calls_of_CX (O := []) (L := []) (args := [.pointer (some ⟨gy, 0, none⟩), .int .i64 ((i : Nat) : Int)]) Tryz.func15 rfl (by simp [Tryz.ntmps15]) (SL.refl w) ?_
 refine CX.sub (V' := [(0, .pointer (some ⟨gy, 0, none⟩)), (1, .int .i64 ((i : Nat) : Int))]) ⟨rfl, rfl, trivial⟩ ?_
 refine CX.seq ?_
 refine CX.region ?_
 refine RX.cons rfl rfl (op_alloc rfl rfl rfl zero_28 fun gp => ?_)
 refine RX.cons rfl rfl (op_w (yw_assign rfl rfl) rfl rfl ?_)
 refine RX.nil (XX.next (V' := [(0, _), (1, _), (4, .pointer (some ⟨gp, 0, none⟩))]) ⟨rfl, rfl, rfl, trivial⟩ ?_)
 refine CX.seq ?_
 refine CX.seq ?_
 refine CX.region ?_
 refine RX.cons rfl rfl (op_w (yw_move rfl rfl) rfl rfl ?_)
 refine RX.cons rfl rfl (op_w (yw_lss rfl rfl rfl) rfl rfl ?_)
 refine RX.cons rfl rfl (op_w (yw_move rfl rfl) rfl rfl ?_)
 refine RX.splitD (t := 11) (p := ((i : Nat) : Int) < 0) rfl (fun d11 => ?_) (fun d11 => ?_)
 ·exfalso; omega
 ·refine RX.consG rfl rfl rfl rfl rfl (op_w (yw_move rfl rfl) rfl rfl ?_)
  refine RX.consG rfl rfl rfl rfl rfl (op_w (yw_move rfl rfl) rfl rfl ?_)
  refine RX.consG rfl rfl rfl rfl rfl (op_w (yw_nilCheck rfl rfl) rfl rfl ?_)
  refine RX.consG rfl rfl rfl rfl rfl (op_w (yw_field0 rfl fld_35_0 rfl) rfl rfl ?_)
  refine RX.consG rfl rfl rfl rfl rfl (op_yld (y_loadG (v := .slice z.1 Y.length z.2) rfl rfl one_33 hR.c0 (by simp)) rfl rfl ?_)
  refine RX.consG rfl rfl rfl rfl rfl (op_w (yw_lenS rfl Tryz.underlying33 rfl) rfl rfl ?_)
  refine RX.consG rfl rfl rfl rfl rfl (op_w (yw_geq rfl rfl rfl) rfl rfl ?_)
  refine RX.cons rfl rfl (op_w (yw_pickF rfl rfl rfl) rfl rfl ?_)
  refine RX.nil (XX.next (V' := [(0, _), (1, _), (4, .pointer (some ⟨gp, 0, none⟩)), (19, _)]) ⟨rfl, rfl, rfl, rfl, trivial⟩ ?_)
  refine CX.condD (p := ((Y.length : Nat) : Int) ≤ ((i : Nat) : Int)) rfl (fun c19 => ?_) (fun c19 => ?_)
  ·exfalso; omega
  ·refine CX.skip (XX.next (V' := [(0, _), (1, _), (4, .pointer (some ⟨gp, 0, none⟩))]) ⟨rfl, rfl, rfl, trivial⟩ ?_)
   refine CX.seq ?_
   refine CX.region ?_
   refine RX.cons rfl rfl (op_w (yw_move rfl rfl) rfl rfl ?_)
   refine RX.cons rfl rfl (op_w (yw_nilCheck rfl rfl) rfl rfl ?_)
   refine RX.cons rfl rfl (op_w (yw_field0 rfl fld_35_0 rfl) rfl rfl ?_)
   refine RX.cons rfl rfl (op_yld (y_loadG (v := .slice z.1 Y.length z.2) rfl rfl one_33 hR.c0 (by simp)) rfl rfl ?_)
   refine RX.cons rfl rfl (op_callE rfl rfl rfl rfl rfl ent_30 (fun w hw => w_entries24 Y (hw.rd hR.rX (by simp)) (fun x hx => hw.rd (hR.rL x hx) (by simp)) hYl hl hok) (fun ze _ => ?_))
   refine RX.cons rfl rfl (op_w (yw_assign rfl rfl) rfl rfl ?_)
   refine RX.nil (XX.next (V' := [(0, _), (1, _), (4, .pointer (some ⟨gp, 0, none⟩)), (6, _)]) ⟨rfl, rfl, rfl, rfl, trivial⟩ ?_)
   refine CX.seq ?_
   refine CX.region ?_
   refine RX.cons rfl rfl (op_w (yw_move rfl rfl) rfl rfl ?_)
   refine RX.cons rfl rfl (op_w (yw_move rfl rfl) rfl rfl ?_)
   refine RX.cons rfl rfl (op_callE rfl rfl rfl rfl rfl ent_34 (fun w hw => w_proof02 (entsX Y) (Ent.rd (hw.ents _ (List.mem_of_getElem? (i := 0) rfl))) (by have h8 := Ent.capLe (hw.ents _ (List.mem_of_getElem? (i := 0) rfl)); rwa [List.length_map] at h8) (by rw [entsX_length]; omega) (entsX_sizes hYl) i (by rw [entsX_length]; exact hi)) (fun zp _ => ?_))
   refine RX.cons rfl rfl (op_w (yw_move rfl rfl) rfl rfl ?_)
   refine RX.cons rfl rfl (op_w (yw_extract rfl rfl rfl) rfl rfl ?_)
   refine RX.cons rfl rfl (op_w (yw_extract rfl rfl rfl) rfl rfl ?_)
   refine RX.cons rfl rfl (op_w (yw_assign rfl rfl) rfl rfl ?_)
   refine RX.cons rfl rfl (op_w (yw_assign rfl rfl) rfl rfl ?_)
   refine RX.nil (XX.next (V' := [(0, _), (1, _), (4, .pointer (some ⟨gp, 0, none⟩)), (6, _), (7, _)]) ⟨rfl, rfl, rfl, rfl, rfl, trivial⟩ ?_)
   refine CX.seq ?_
   refine CX.rowSome 1 rfl (by rw [List.length_map, entsX_length]; omega) (fun hAe => ?_)
   refine CX.draw 18 [(0, 1, 4294967296), (1, 4294967296, 8589934592), (2, 8589934592, 17179869184), (4, 17179869184, 34359738368), (0, 2, 68719476736), (24, 103079215104, 137438953472), (32, 137438953472, 274877906944), (64, 274877906944, 549755813888), (0, 2, 1099511627776), (0, 64, 2199023255552), (512, 2199023255552, 4398046511104), (0, 64, 8796093022208), (0, 2, 17592186044416), (6144, 26388279066624, 35184372088832), (8192, 35184372088832, 70368744177664), (16384, 70368744177664, 140737488355328), (0, 128, 281474976710656), (99712, 428259779018752, 562949953421312), (262143, 562949953421328, 0), (524287, 0, 32)] (by kernel_rfl) (by kernel_rfl) (by kernel_rfl) ?_
   refine DX.takeW 0 1 (by kernel_rfl) rfl rfl rfl rfl rfl (yw_move rfl rfl) ?_
   refine DX.takeW 1 3 (by kernel_rfl) rfl rfl rfl rfl rfl (yw_nilCheck rfl rfl) ?_
   refine DX.takeW 2 7 (by kernel_rfl) rfl rfl rfl rfl rfl (yw_field0 rfl fld_35_0 rfl) ?_
   refine DX.take 3 15 (by kernel_rfl) rfl rfl rfl rfl rfl (List.Sublist.refl _) (y_loadG (v := .slice z.1 Y.length z.2) rfl rfl one_33 hR.c0 (by simp)) ?_
   refine DX.takeW 4 31 (by kernel_rfl) rfl rfl rfl rfl rfl (yw_move rfl rfl) ?_
   refine DX.takeW 5 63 (by kernel_rfl) rfl rfl rfl rfl rfl (yw_index (k := i) rfl slt_33 rfl rfl (by omega) (by omega) hA) ?_
   refine DX.take 6 127 (by kernel_rfl) rfl rfl rfl rfl rfl (List.Sublist.refl _) (y_elem rfl rfl agg_25 hR.rX (by simp) (map_get hx0)) ?_
   refine DX.takeW 8 383 (by kernel_rfl) rfl rfl rfl rfl rfl (yw_move rfl rfl) ?_
   refine DX.takeW 9 895 (by kernel_rfl) rfl rfl rfl rfl rfl (yw_move rfl rfl) ?_
   refine DX.takeW 10 1919 (by kernel_rfl) rfl rfl rfl rfl rfl (yw_lenS rfl Tryz.underlying26 rfl) ?_
   refine DX.know (t := 42) (u := .int .i64 ((Y.length : Nat) : Int)) rfl (congrArg (fun n : Nat => Value.int .i64 ((n : Nat) : Int)) (entsX_length Y)) ?_
   refine DX.takeW 11 3967 (by kernel_rfl) rfl rfl rfl rfl rfl (yw_move rfl rfl) ?_
   refine DX.takeW 12 8063 (by kernel_rfl) rfl rfl rfl rfl rfl (yw_move rfl rfl) ?_
   refine DX.takeW 13 16255 (by kernel_rfl) rfl rfl rfl rfl rfl (yw_index (k := i) rfl slt_26 rfl rfl (by omega) (by omega) hAe) ?_
   refine DX.take 14 32639 (by kernel_rfl) rfl rfl rfl rfl rfl (List.Sublist.refl _) (y_rowElem1 (i := 1) rfl rfl one_9 rfl (map_get (entsX_get hx0))) ?_
   refine DX.takeW 15 65407 (by kernel_rfl) rfl rfl rfl rfl rfl (yw_strTo (k := 32) rfl Tryz.underlying9 rfl rfl rfl (by rw [ByteArray.size_append, saltX_size]; omega)) ?_
   refine DX.know (t := 47) (u := .string (saltX Y i)) rfl (congrArg Value.string (extract_left (saltX_size Y i))) ?_
   refine DX.takeW 16 130943 (by kernel_rfl) rfl rfl rfl rfl rfl (yw_move rfl rfl) ?_
   refine DX.step 7 131071 (by kernel_rfl) rfl rfl rfl (op_callE rfl rfl rfl rfl rfl ent_28 (fun w hw => w_clone24 x0.2 (hw.rd (hR.rL x0 hx0m) (by simp)) (hYl x0 hx0m)) (fun zc _ => (DXs.mk (List.Sublist.cons _ (List.Sublist.refl _)) ?_)))
   refine DX.takeW 17 262143 (by kernel_rfl) rfl rfl rfl rfl rfl (yw_build (v := .agg (#[.int .i64 (Stm.h x0.2), .int .i64 (Stm.c x0.2), .slice zc.1 (List.length (Stm.ls x0.2)) zc.2, .int .i64 ((i : Nat) : Int), .int .i64 ((Y.length : Nat) : Int), .string (saltX Y i), .slice zp.1 (List.length ((path sum (entsX Y) i).reverse : List ByteArray)) zp.2])) rfl rfl (fun _ => by kernel_rfl)) ?_
   refine DX.stepT 18 524287 (by kernel_rfl) rfl rfl rfl rfl (op_storeAll (i := 3) rfl rfl rfl rfl szt_28 rfl (plain_of rfl) rfl rfl ?_)
   refine DX.takeW 19 1048575 (by kernel_rfl) rfl rfl rfl rfl rfl (yw_assign rfl rfl) ?_
   refine DX.done (by kernel_rfl) (XX.next (V' := [(4, .pointer (some ⟨gp, 0, none⟩)), (5, .int .i64 0)]) ⟨rfl, rfl, trivial⟩ ?_)
   refine CX.ret ?_
   exact ret_cellT (i := 3) rfl rfl rfl agg_28 rfl rfl fun w1 hw => ⟨(zc, zp), trivial, rfl, hw.pick ((perm_pick 0 rfl).trans (List.Perm.cons _ ((perm_pick 0 rfl).trans (List.Perm.cons _ (List.Perm.refl _)))))⟩

set_option maxRecDepth 100000 in
theorem w_proveRBad {w : World} {gy : Nat} {z : Option Addr × Nat} (Y : List SX) (hR : RefAt w gy z Y) (i : Int) (hi : i < 0 ∨ (Y.length : Int) ≤ i) :
    Calls Tryz.prog 15 #[.pointer (some ⟨gy, 0, none⟩), .int .i64 i] w (fun e w' => e = .returned (.tuple #[.agg #[.int .i64 0, .int .i64 0, .slice none 0 0, .int .i64 0, .int .i64 0, .string .empty, .slice none 0 0], .int .i64 2]) ∧ SL w [] w' []) := by
 refine calls_of_CX (O := []) (L := []) (args := [.pointer (some ⟨gy, 0, none⟩), .int .i64 i]) Tryz.func15 rfl (by simp [Tryz.ntmps15]) (SL.refl w) ?_
 refine CX.sub (V' := [(0, .pointer (some ⟨gy, 0, none⟩)), (1, .int .i64 i)]) ⟨rfl, rfl, trivial⟩ ?_
 refine CX.seq ?_
 refine CX.region ?_
 refine RX.cons rfl rfl (op_alloc rfl rfl rfl zero_28 fun gp => ?_)
 refine RX.cons rfl rfl (op_w (yw_assign rfl rfl) rfl rfl ?_)
 refine RX.nil (XX.next (V' := [(0, _), (1, _), (4, .pointer (some ⟨gp, 0, none⟩))]) ⟨rfl, rfl, rfl, trivial⟩ ?_)
 refine CX.seq ?_
 refine CX.seq ?_
 refine CX.region ?_
 refine RX.cons rfl rfl (op_w (yw_move rfl rfl) rfl rfl ?_)
 refine RX.cons rfl rfl (op_w (yw_lss rfl rfl rfl) rfl rfl ?_)
 refine RX.cons rfl rfl (op_w (yw_move rfl rfl) rfl rfl ?_)
 refine RX.splitD (t := 11) (p := i < 0) rfl (fun d11 => ?_) (fun d11 => ?_)
 ·refine RX.skip rfl rfl rfl rfl rfl rfl rfl ?_
  refine RX.skip rfl rfl rfl rfl rfl rfl rfl ?_
  refine RX.skip rfl rfl rfl rfl rfl rfl rfl ?_
  refine RX.skip rfl rfl rfl rfl rfl rfl rfl ?_
  refine RX.skip rfl rfl rfl rfl rfl rfl rfl ?_
  refine RX.skip rfl rfl rfl rfl rfl rfl rfl ?_
  refine RX.skip rfl rfl rfl rfl rfl rfl rfl ?_
  refine RX.cons rfl rfl (op_w (yw_pickT rfl rfl rfl) rfl rfl ?_)
  refine RX.nil (XX.next (V' := [(0, _), (1, _), (4, .pointer (some ⟨gp, 0, none⟩)), (19, _)]) ⟨rfl, rfl, rfl, rfl, trivial⟩ ?_)
  refine CX.condT rfl ?_
  refine CX.seq ?_
  refine CX.region ?_
  refine RX.cons rfl rfl (op_w (yw_build (v := .agg (#[.int .i64 0, .int .i64 0, .slice none 0 0, .int .i64 0, .int .i64 0, .string .empty, .slice none 0 0])) rfl rfl (fun _ => by kernel_rfl)) rfl rfl ?_)
  refine RX.cons rfl rfl (op_storeAll (i := 0) rfl rfl rfl rfl szt_28 rfl (plain_of rfl) rfl rfl ?_)
  refine RX.cons rfl rfl (op_w (yw_assign rfl rfl) rfl rfl ?_)
  refine RX.nil (XX.next (V' := [(4, .pointer (some ⟨gp, 0, none⟩)), (5, .int .i64 2)]) ⟨rfl, rfl, trivial⟩ ?_)
  refine CX.ret ?_
  refine XX.then_ret ?_
  exact ret_cellT (i := 0) rfl rfl rfl agg_28 rfl rfl fun w1 hw => ⟨rfl, hw.sub (List.nil_sublist _)⟩
 ·refine RX.consG rfl rfl rfl rfl rfl (op_w (yw_move rfl rfl) rfl rfl ?_)
  refine RX.consG rfl rfl rfl rfl rfl (op_w (yw_move rfl rfl) rfl rfl ?_)
  refine RX.consG rfl rfl rfl rfl rfl (op_w (yw_nilCheck rfl rfl) rfl rfl ?_)
  refine RX.consG rfl rfl rfl rfl rfl (op_w (yw_field0 rfl fld_35_0 rfl) rfl rfl ?_)
  refine RX.consG rfl rfl rfl rfl rfl (op_yld (y_loadG (v := .slice z.1 Y.length z.2) rfl rfl one_33 hR.c0 (by simp)) rfl rfl ?_)
  refine RX.consG rfl rfl rfl rfl rfl (op_w (yw_lenS rfl Tryz.underlying33 rfl) rfl rfl ?_)
  refine RX.consG rfl rfl rfl rfl rfl (op_w (yw_geq rfl rfl rfl) rfl rfl ?_)
  refine RX.cons rfl rfl (op_w (yw_pickF rfl rfl rfl) rfl rfl ?_)
  refine RX.nil (XX.next (V' := [(0, _), (1, _), (4, .pointer (some ⟨gp, 0, none⟩)), (19, _)]) ⟨rfl, rfl, rfl, rfl, trivial⟩ ?_)
  refine CX.condD (p := ((Y.length : Nat) : Int) ≤ i) rfl (fun c19 => ?_) (fun c19 => ?_)
  ·refine CX.seq ?_
   refine CX.region ?_
   refine RX.cons rfl rfl (op_w (yw_build (v := .agg (#[.int .i64 0, .int .i64 0, .slice none 0 0, .int .i64 0, .int .i64 0, .string .empty, .slice none 0 0])) rfl rfl (fun _ => by kernel_rfl)) rfl rfl ?_)
   refine RX.cons rfl rfl (op_storeAll (i := 0) rfl rfl rfl rfl szt_28 rfl (plain_of rfl) rfl rfl ?_)
   refine RX.cons rfl rfl (op_w (yw_assign rfl rfl) rfl rfl ?_)
   refine RX.nil (XX.next (V' := [(4, .pointer (some ⟨gp, 0, none⟩)), (5, .int .i64 2)]) ⟨rfl, rfl, trivial⟩ ?_)
   refine CX.ret ?_
   refine XX.then_ret ?_
   exact ret_cellT (i := 0) rfl rfl rfl agg_28 rfl rfl fun w1 hw => ⟨rfl, hw.sub (List.nil_sublist _)⟩
  ·exfalso; omega

set_option maxRecDepth 100000 in
theorem w_extR {w : World} {gy : Nat} {z : Option Addr × Nat} (Y : List SX) (hR : RefAt w gy z Y) (hYl : ∀ x ∈ Y, x.2.ls.length ≤ 1000000) (hl : Y.length ≤ 1000000) (hok : ∀ x ∈ Y, okS x.2 = true) (m : Nat) (hm : m ≤ Y.length) :
    Calls Tryz.prog 17 #[.pointer (some ⟨gy, 0, none⟩), .int .i64 ((m : Nat) : Int)] w (fun e w' => ∃ z : Option Addr × Nat, True ∧ e = .returned (.tuple #[.slice z.1 (List.length (extL (entsX Y) m)) z.2, .int .i64 0]) ∧ SL w [] w' [.row z.1 z.2 9 1 (List.map strC (extL (entsX Y) m))]) := by
 refine calls_of_CX (O := []) (L := []) (args := [.pointer (some ⟨gy, 0, none⟩), .int .i64 ((m : Nat) : Int)]) Tryz.func17 rfl (by simp [Tryz.ntmps17]) (SL.refl w) ?_
 refine CX.sub (V' := [(0, .pointer (some ⟨gy, 0, none⟩)), (1, .int .i64 ((m : Nat) : Int))]) ⟨rfl, rfl, trivial⟩ ?_
 refine CX.seq ?_
 refine CX.region ?_
 refine RX.cons rfl rfl (op_w (yw_assign rfl rfl) rfl rfl ?_)
 refine RX.cons rfl rfl (op_w (yw_assign rfl rfl) rfl rfl ?_)
 refine RX.nil (XX.next (V' := [(0, _), (1, _)]) ⟨rfl, rfl, trivial⟩ ?_)
 refine CX.seq ?_
 refine CX.region ?_
 refine RX.cons rfl rfl (op_w (yw_move rfl rfl) rfl rfl ?_)
 refine RX.cons rfl rfl (op_w (yw_nilCheck rfl rfl) rfl rfl ?_)
 refine RX.cons rfl rfl (op_w (yw_field0 rfl fld_35_0 rfl) rfl rfl ?_)
 refine RX.cons rfl rfl (op_yld (y_loadG (v := .slice z.1 Y.length z.2) rfl rfl one_33 hR.c0 (by simp)) rfl rfl ?_)
 refine RX.cons rfl rfl (op_callE rfl rfl rfl rfl rfl ent_30 (fun w hw => w_entries24 Y (hw.rd hR.rX (by simp)) (fun x hx => hw.rd (hR.rL x hx) (by simp)) hYl hl hok) (fun ze _ => ?_))
 refine RX.cons rfl rfl (op_w (yw_move rfl rfl) rfl rfl ?_)
 refine RX.cons rfl rfl (op_callE rfl rfl rfl rfl rfl ent_37 (fun w hw => w_ext02 (entsX Y) (Ent.rd (hw.ents _ (List.mem_of_getElem? (i := 0) rfl))) (by have h8 := Ent.capLe (hw.ents _ (List.mem_of_getElem? (i := 0) rfl)); rwa [List.length_map] at h8) (by rw [entsX_length]; omega) (entsX_sizes hYl) m (by rw [entsX_length]; exact hm)) (fun zh _ => ?_))
 refine RX.cons rfl rfl (op_w (yw_extract rfl rfl rfl) rfl rfl ?_)
 refine RX.cons rfl rfl (op_w (yw_extract rfl rfl rfl) rfl rfl ?_)
 refine RX.cons rfl rfl (op_w (yw_assign rfl rfl) rfl rfl ?_)
 refine RX.cons rfl rfl (op_w (yw_assign rfl rfl) rfl rfl ?_)
 refine RX.nil (XX.next (V' := [(4, .slice zh.1 (List.length (extL (entsX Y) m : List ByteArray)) zh.2), (5, .int .i64 0)]) ⟨rfl, rfl, trivial⟩ ?_)
 refine CX.ret ?_
 exact ret_tmp2 rfl rfl rfl fun w1 hw => ⟨zh, trivial, rfl, hw.pick ((perm_pick 0 rfl).trans (List.Perm.cons _ (List.Perm.refl _)))⟩

set_option maxRecDepth 100000 in
theorem w_extRBad {w : World} {gy : Nat} {z : Option Addr × Nat} (Y : List SX) (hR : RefAt w gy z Y) (hYl : ∀ x ∈ Y, x.2.ls.length ≤ 1000000) (hl : Y.length ≤ 1000000) (hok : ∀ x ∈ Y, okS x.2 = true) (m : Int) (hm : m < 0 ∨ (Y.length : Int) < m) :
    Calls Tryz.prog 17 #[.pointer (some ⟨gy, 0, none⟩), .int .i64 m] w (fun e w' => e = .returned (.tuple #[.slice none 0 0, .int .i64 2]) ∧ SL w [] w' []) := by
 refine calls_of_CX (O := []) (L := []) (args := [.pointer (some ⟨gy, 0, none⟩), .int .i64 m]) Tryz.func17 rfl (by simp [Tryz.ntmps17]) (SL.refl w) ?_
 refine CX.sub (V' := [(0, .pointer (some ⟨gy, 0, none⟩)), (1, .int .i64 m)]) ⟨rfl, rfl, trivial⟩ ?_
 refine CX.seq ?_
 refine CX.region ?_
 refine RX.cons rfl rfl (op_w (yw_assign rfl rfl) rfl rfl ?_)
 refine RX.cons rfl rfl (op_w (yw_assign rfl rfl) rfl rfl ?_)
 refine RX.nil (XX.next (V' := [(0, _), (1, _)]) ⟨rfl, rfl, trivial⟩ ?_)
 refine CX.seq ?_
 refine CX.region ?_
 refine RX.cons rfl rfl (op_w (yw_move rfl rfl) rfl rfl ?_)
 refine RX.cons rfl rfl (op_w (yw_nilCheck rfl rfl) rfl rfl ?_)
 refine RX.cons rfl rfl (op_w (yw_field0 rfl fld_35_0 rfl) rfl rfl ?_)
 refine RX.cons rfl rfl (op_yld (y_loadG (v := .slice z.1 Y.length z.2) rfl rfl one_33 hR.c0 (by simp)) rfl rfl ?_)
 refine RX.cons rfl rfl (op_callE rfl rfl rfl rfl rfl ent_30 (fun w hw => w_entries24 Y (hw.rd hR.rX (by simp)) (fun x hx => hw.rd (hR.rL x hx) (by simp)) hYl hl hok) (fun ze _ => ?_))
 refine RX.cons rfl rfl (op_w (yw_move rfl rfl) rfl rfl ?_)
 refine RX.cons rfl rfl (op_callV (v := .tuple #[.slice none 0 0, .int .i64 2]) rfl rfl rfl rfl rfl ent_37 (fun w hw => w_extBad02 (entsX Y).length m (by rw [entsX_length]; omega)) ?_)
 refine RX.cons rfl rfl (op_w (yw_extract rfl rfl rfl) rfl rfl ?_)
 refine RX.cons rfl rfl (op_w (yw_extract rfl rfl rfl) rfl rfl ?_)
 refine RX.cons rfl rfl (op_w (yw_assign rfl rfl) rfl rfl ?_)
 refine RX.cons rfl rfl (op_w (yw_assign rfl rfl) rfl rfl ?_)
 refine RX.nil (XX.next (V' := [(4, .slice none 0 0), (5, .int .i64 2)]) ⟨rfl, rfl, trivial⟩ ?_)
 refine CX.ret ?_
 exact ret_tmp2 rfl rfl rfl fun w1 hw => ⟨rfl, hw.sub (List.nil_sublist _)⟩

end Go.Proofs.YtnadipjlhlbfoaaGreatDoor
namespace Go.Proofs.YtnadipjlhlbfoaaGreatDoor
set_option linter.all false
open Go Go.RowKit
set_option maxRecDepth 100000
theorem saltX_of {X Y : List SX} (h : Y.map (fun x : SX => x.2) = X.map (fun x : SX => x.2)) (i : Nat) : saltX Y i = saltX X i := by
  rw [saltX, saltX, headX_of (X := Y.take (i + 1)) (Y := X.take (i + 1)) (by rw [List.map_take, List.map_take]; exact congrArg (List.take (i + 1)) h)]
/-- What Prove answers: a statement, an index, a count, a salt, a path; an error. -/
def prA (X : List SX) (k : Int) : (Stm × Int × Int) × ByteArray × List ByteArray × Int :=
  match (if 0 ≤ k then (X.map (fun x : SX => x.2))[k.toNat]? else none) with
  | some s => ((s, k, (X.length : Int)), saltX X k.toNat, (path sum (entsX X) k.toNat).reverse, 0)
  | none => ((⟨0, 0, []⟩, 0, 0), .empty, [], 2)
theorem prA_in {X : List SX} {i : Nat} {x0 : SX} (h : X[i]? = some x0) : prA X (i : Int) = ((x0.2, (i : Int), (X.length : Int)), saltX X i, (path sum (entsX X) i).reverse, 0) := by
  have e : (if 0 ≤ (i : Int) then (X.map (fun x : SX => x.2))[(i : Int).toNat]? else none) = some x0.2 := by rw [if_pos (by omega), Int.toNat_natCast, List.getElem?_map, h]; rfl
  unfold prA; rw [e]; rfl
theorem prA_out {X : List SX} {k : Int} (h : k < 0 ∨ (X.length : Int) ≤ k) : prA X k = ((⟨0, 0, []⟩, 0, 0), .empty, [], 2) := by
  have e : (if 0 ≤ k then (X.map (fun x : SX => x.2))[k.toNat]? else none) = none := by
    split
    · rw [List.getElem?_eq_none (by rw [List.length_map]; omega)]
    · rfl
  unfold prA; rw [e]
theorem prA_of {X Y : List SX} (h : Y.map (fun x : SX => x.2) = X.map (fun x : SX => x.2)) (k : Int) : prA Y k = prA X k := by
  have hl : Y.length = X.length := by have := congrArg List.length h; simpa using this
  unfold prA; rw [h, hl, entsX_of h, saltX_of h]
theorem in_or {n : Nat} (k : Int) : (∃ i : Nat, k = (i : Int) ∧ i < n) ∨ (k < 0 ∨ (n : Int) ≤ k) := by
  by_cases h : k < 0 ∨ (n : Int) ≤ k
  · exact .inr h
  · exact .inl ⟨k.toNat, by omega, by omega⟩
theorem prA_facts {X : List SX} (hok : ∀ x ∈ X, okS x.2 = true) (hl : ∀ x ∈ X, x.2.ls.length ≤ 1000000) (hn : X.length ≤ 1000) (k : Int) : (prA X k).1.1.ls.length ≤ 1000000 ∧ 0 ≤ (prA X k).1.1.c ∧ (prA X k).1.1.c ≤ 1199 ∧ (prA X k).2.2.1.length ≤ 1000000 ∧ (prA X k).1.2.2 ≤ 9223372036854775807 := by
  rcases in_or (n := X.length) k with ⟨i, rfl, hi⟩ | h
  · obtain ⟨x0, hx0⟩ := get_some hi
    have hm := List.mem_of_getElem? hx0
    rw [prA_in hx0]
    have h1 := path_len X i
    have hc : 0 ≤ x0.2.c ∧ x0.2.c ≤ 1199 := by
      by_cases h9 : 0 ≤ x0.2.c ∧ x0.2.c ≤ 1199
      · exact h9
      · exfalso
        have h8 := okS_odd (s := x0.2) (by omega)
        rw [hok x0 hm] at h8
        exact absurd h8 (by decide)
    exact ⟨hl x0 hm, hc.1, hc.2, by show (path sum (entsX X) i).reverse.length ≤ _; omega, by show (X.length : Int) ≤ _; omega⟩
  · rw [prA_out h]; exact ⟨by decide, by decide, by decide, by decide, by decide⟩
/-- What Extension answers. -/
def exA (X : List SX) (k : Int) : List ByteArray × Int := if 0 ≤ k ∧ k ≤ (X.length : Int) then (extL (entsX X) k.toNat, 0) else ([], 2)
theorem exA_in {X : List SX} {m : Nat} (h : m ≤ X.length) : exA X (m : Int) = (extL (entsX X) m, 0) := by rw [exA, if_pos (by omega)]; rfl
theorem exA_out {X : List SX} {k : Int} (h : k < 0 ∨ (X.length : Int) < k) : exA X k = ([], 2) := by rw [exA, if_neg (by omega)]
theorem exA_of {X Y : List SX} (h : Y.map (fun x : SX => x.2) = X.map (fun x : SX => x.2)) (k : Int) : exA Y k = exA X k := by
  have hl : Y.length = X.length := by have := congrArg List.length h; simpa using this
  unfold exA; rw [hl, entsX_of h]
theorem exA_len (X : List SX) (k : Int) : (exA X k).1.length ≤ X.length := by
  unfold exA; split
  · show (extL (entsX X) k.toNat).length ≤ _
    unfold extL; split
    · exact Nat.zero_le _
    · have := ext_len (entsX X) k.toNat true; rwa [entsX_length] at this
  · exact Nat.zero_le _
theorem w_proveA {w : World} {g : Nat} {z : LZ} (X : List SX) (hL : LogAt w g z X) (hXl : ∀ x ∈ X, x.2.ls.length ≤ 1000000) (hl : X.length ≤ 1000000) (hG : Rounds w) (k : Int) : Calls Tryz.prog 14 #[.pointer (some ⟨g, 0, none⟩), .int .i64 k] w (fun e w' => ∃ y : LZ, True ∧ e = .returned (.tuple #[.agg (prZ (prA X k).1.1 (prA X k).1.2.1 (prA X k).1.2.2 (prA X k).2.1 (prA X k).2.2.1 y), .int .i64 (prA X k).2.2.2]) ∧ SL w [] w' [.row y.1.1 y.1.2 77 3 (List.map lnC (Stm.ls (prA X k).1.1)), .row y.2.1 y.2.2 9 1 (List.map strC ((prA X k).2.2.1))]) := by
  rcases in_or (n := X.length) k with ⟨i, rfl, hi⟩ | h
  · obtain ⟨x0, hx0⟩ := get_some hi
    rw [prA_in hx0]
    exact w_prove X hL hXl hl hG i x0 hx0
  · rw [prA_out h]
    refine (w_proveBad X hL hXl hl k h).mono ?_
    rintro e w' ⟨he, hw⟩
    exact ⟨((none, 0), (none, 0)), trivial, he, (hw.rowNil 9 1).rowNil 77 3⟩
theorem w_proveRA {w : World} {gy : Nat} {z : Option Addr × Nat} (Y : List SX) (hR : RefAt w gy z Y) (hYl : ∀ x ∈ Y, x.2.ls.length ≤ 1000000) (hl : Y.length ≤ 1000000) (hok : ∀ x ∈ Y, okS x.2 = true) (X : List SX) (hXY : Y.map (fun x : SX => x.2) = X.map (fun x : SX => x.2)) (k : Int) : Calls Tryz.prog 15 #[.pointer (some ⟨gy, 0, none⟩), .int .i64 k] w (fun e w' => ∃ y : LZ, True ∧ e = .returned (.tuple #[.agg (prZ (prA X k).1.1 (prA X k).1.2.1 (prA X k).1.2.2 (prA X k).2.1 (prA X k).2.2.1 y), .int .i64 (prA X k).2.2.2]) ∧ SL w [] w' [.row y.1.1 y.1.2 77 3 (List.map lnC (Stm.ls (prA X k).1.1)), .row y.2.1 y.2.2 9 1 (List.map strC ((prA X k).2.2.1))]) := by
  rw [← prA_of hXY]
  rcases in_or (n := Y.length) k with ⟨i, rfl, hi⟩ | h
  · obtain ⟨x0, hx0⟩ := get_some hi
    rw [prA_in hx0]
    exact w_proveR Y hR hYl hl hok i x0 hx0
  · rw [prA_out h]
    refine (w_proveRBad Y hR k h).mono ?_
    rintro e w' ⟨he, hw⟩
    exact ⟨((none, 0), (none, 0)), trivial, he, (hw.rowNil 9 1).rowNil 77 3⟩
theorem w_extA {w : World} {g : Nat} {z : LZ} (X : List SX) (hL : LogAt w g z X) (hXl : ∀ x ∈ X, x.2.ls.length ≤ 1000000) (hl : X.length ≤ 1000000) (hG : Rounds w) (k : Int) : Calls Tryz.prog 16 #[.pointer (some ⟨g, 0, none⟩), .int .i64 k] w (fun e w' => ∃ z : Option Addr × Nat, True ∧ e = .returned (.tuple #[.slice z.1 (exA X k).1.length z.2, .int .i64 (exA X k).2]) ∧ SL w [] w' [.row z.1 z.2 9 1 (List.map strC ((exA X k).1))]) := by
  rcases in_or (n := X.length + 1) k with ⟨i, rfl, hi⟩ | h
  · rw [exA_in (by omega)]
    exact w_logExt X hL hXl hl hG i (by omega)
  · rw [exA_out (by omega)]
    refine (w_logExtBad X hL hXl hl k (by omega)).mono ?_
    rintro e w' ⟨he, hw⟩
    exact ⟨(none, 0), trivial, he, hw.rowNil 9 1⟩
theorem w_extRA {w : World} {gy : Nat} {z : Option Addr × Nat} (Y : List SX) (hR : RefAt w gy z Y) (hYl : ∀ x ∈ Y, x.2.ls.length ≤ 1000000) (hl : Y.length ≤ 1000000) (hok : ∀ x ∈ Y, okS x.2 = true) (X : List SX) (hXY : Y.map (fun x : SX => x.2) = X.map (fun x : SX => x.2)) (k : Int) : Calls Tryz.prog 17 #[.pointer (some ⟨gy, 0, none⟩), .int .i64 k] w (fun e w' => ∃ z : Option Addr × Nat, True ∧ e = .returned (.tuple #[.slice z.1 (exA X k).1.length z.2, .int .i64 (exA X k).2]) ∧ SL w [] w' [.row z.1 z.2 9 1 (List.map strC ((exA X k).1))]) := by
  rw [← exA_of hXY]
  rcases in_or (n := Y.length + 1) k with ⟨i, rfl, hi⟩ | h
  · rw [exA_in (by omega)]
    exact w_extR Y hR hYl hl hok i (by omega)
  · rw [exA_out (by omega)]
    refine (w_extRBad Y hR hYl hl hok k (by omega)).mono ?_
    rintro e w' ⟨he, hw⟩
    exact ⟨(none, 0), trivial, he, hw.rowNil 9 1⟩
end Go.Proofs.YtnadipjlhlbfoaaGreatDoor
namespace Go.Proofs.YtnadipjlhlbfoaaGreatDoor
set_option linter.all false
open Go Go.RowKit
section
variable {P : Program} {ops : Array Oper} {Q : Exit → Act → World → Prop}
theorem wpAnyN.anew {S S' : World → Prop} {th th' : Nat} : ∀ (fuel : Nat) (listed : Array Bool) (a : Act) (w : World), (∀ i, i < th → listed.getD i true = true) → wpAnyN P ops Q S' th' fuel listed a w → wpAnyN P ops Q S th fuel listed a w
  | 0, _, _, _, _, h => h
  | f + 1, listed, _, _, hl, h => ⟨h.1, fun i hi => (h.2 i hi).mono fun a' w' hh => by
      have hun := (mem_ready.1 hi).1
      have hne : ∀ k, k < th → i ≠ k := fun k hk e => by subst e; rw [hl i hk] at hun; cases hun
      exact ⟨fun hlt => absurd rfl (hne i hlt), wpAnyN.anew f _ a' w' (fun k hk => by rw [getD_set_ne true (hne k hk)]; exact hl k hk) hh.2⟩⟩
theorem DX.anew {w0 : World} {O : List Nat} {n : Nat} {D : List Deferred} {th : Nat} {LS : List Ent} {tab : Tab} {fuel m : Nat} {V : List (Nat × Value)} {L : List Ent} (th' : Nat) (hc : ((List.range th).all fun i => m.testBit i) = true) (h : DX P ops tab Q w0 O n D th' L fuel m V L) : DX P ops tab Q w0 O n D th LS fuel m V L := by
  intro hF a w ha hw
  refine wpAnyN.anew fuel _ a w (fun i hi => ?_) (h hF a w ha hw)
  rcases Nat.lt_or_ge i ops.size with h1 | h1
  · rw [maskA_get h1]; exact List.all_eq_true.1 hc i (List.mem_range.2 hi)
  · rw [maskA_out (by omega)]
end
end Go.Proofs.YtnadipjlhlbfoaaGreatDoor
namespace Go.Proofs.YtnadipjlhlbfoaaGreatDoor
set_option linter.all false
open Go Go.RowKit
set_option maxRecDepth 100000
theorem slt_22 : SlT Tryz.prog 22 33 1 := ⟨(Tryz.prog.info? 33).get!, Tryz.underlying22, by kernel_rfl, by kernel_rfl⟩
theorem ent_8 : ∀ args w, (callFunc 8 args).run Tryz.prog w = .ok (.enter 8 args) w := enters_of Tryz.func8 (by kernel_rfl) rfl
theorem ent_10 : ∀ args w, (callFunc 10 args).run Tryz.prog w = .ok (.enter 10 args) w := enters_of Tryz.func10 (by kernel_rfl) rfl
theorem ent_15 : ∀ args w, (callFunc 15 args).run Tryz.prog w = .ok (.enter 15 args) w := enters_of Tryz.func15 (by kernel_rfl) rfl
theorem ent_17 : ∀ args w, (callFunc 17 args).run Tryz.prog w = .ok (.enter 17 args) w := enters_of Tryz.func17 (by kernel_rfl) rfl
theorem ent_18 : ∀ args w, (callFunc 18 args).run Tryz.prog w = .ok (.enter 18 args) w := enters_of Tryz.func18 (by kernel_rfl) rfl
theorem szt_3 : SzT Tryz.prog 3 1 := ⟨(Tryz.prog.info? 3).get!, by kernel_rfl, by kernel_rfl⟩
theorem ent_20 : ∀ args w, (callFunc 20 args).run Tryz.prog w = .ok (.enter 20 args) w := enters_of Tryz.func20 (by kernel_rfl) rfl
/-- A group of statements: its place and its statements. -/
abbrev GX := (Option Addr × Nat) × List SX
abbrev grC (g : GX) : Array Value := #[.slice g.1.1 g.2.length g.1.2]
/-- What is known of a group that is read. -/
def GrAt (w : World) (g : GX) : Prop := Rd w g.1.1 3 (g.2.map stC) ∧ (∀ x ∈ g.2, Rd w x.1.1 3 (x.2.ls.map lnC)) ∧ (∀ x ∈ g.2, x.2.ls.length ≤ x.1.2) ∧ g.2.length ≤ 9223372036854775807 ∧ ∀ x ∈ g.2, x.2.ls.length ≤ 9223372036854775807
theorem codeA_range (m : List Stm) : -9223372036854775808 ≤ codeA m ∧ codeA m ≤ 9223372036854775807 := by unfold codeA; split <;> decide
attribute [local irreducible] sum root entsX prA exA
set_option maxRecDepth 100000 in
theorem w_matches {w : World} {A : Option Addr} {cap : Nat} (XS : List GX) (n : Int) (rootp : ByteArray) (sp : Stm) (ip np : Int) (saltp : ByteArray) (pathp : List ByteArray) (zp : LZ) (hr : Rd w A 1 (XS.map grC)) (hXS : ∀ g ∈ XS, GrAt w g) (hX8 : XS.length ≤ 9223372036854775807) (hn1 : -9223372036854775808 ≤ n) (hn2 : n ≤ 9223372036854775807) (hrp : Rd w zp.1.1 3 (sp.ls.map lnC)) (hcl : sp.ls.length ≤ zp.1.2) (hll : sp.ls.length ≤ 9223372036854775807) (hpp : Rd w zp.2.1 1 (pathp.map strC)) (hcp : pathp.length ≤ zp.2.2) (hpl : pathp.length ≤ 9223372036854775807) (hnp : np ≤ 9223372036854775807) (hG : Rounds w) :
    Calls Tryz.prog 3 #[.slice A XS.length cap, .int .i64 n, .string rootp, .agg (prZ sp ip np saltp pathp zp)] w (fun e w' => e = .returned (.bool true) ∧ SL w [] w' []) := by
 have hlr := hrp.takeM 8
 have hpr := hpp.takeM 20
 have htl : (List.take 8 sp.ls).length ≤ 8 := by simp; omega
 have htp : (List.take 20 pathp).length ≤ 20 := by simp; omega
 refine calls_of_CX (O := []) (L := []) (args := [.slice A XS.length cap, .int .i64 n, .string rootp, .agg (prZ sp ip np saltp pathp zp)]) Tryz.func3 rfl (by simp [Tryz.ntmps3]) (SL.refl w) ?_
 refine CX.sub (V' := [(0, .slice A XS.length cap), (1, .int .i64 n), (2, .string rootp), (3, .agg (prZ sp ip np saltp pathp zp))]) ⟨rfl, rfl, rfl, rfl, trivial⟩ ?_
 refine CX.seq ?_
 refine CX.region ?_
 refine RX.cons rfl rfl (op_box rfl rfl rfl rfl fun g7 => ?_)
 refine RX.cons rfl rfl (op_w (yw_assign rfl rfl) rfl rfl ?_)
 refine RX.nil (XX.next (V' := [(0, _), (1, _), (2, _), (7, _)]) ⟨rfl, rfl, rfl, rfl, trivial⟩ ?_)
 refine CX.seq ?_
 refine CX.region ?_
 refine RX.cons rfl rfl (op_callV (v := .bool true) rfl rfl rfl rfl rfl ent_4 (fun w hw => w_sane (hG.keep hw (by simp))) ?_)
 refine RX.cons rfl rfl (op_w (yw_assign rfl rfl) rfl rfl ?_)
 refine RX.nil (XX.next (V' := [(0, _), (1, _), (2, _), (7, _), (9, _)]) ⟨rfl, rfl, rfl, rfl, rfl, trivial⟩ ?_)
 refine CX.seq ?_
 refine CX.region ?_
 refine RX.cons rfl rfl (op_callE rfl rfl rfl rfl rfl ent_5 (fun w hw => w_newE) (fun zx _ => ?_))
 refine RX.cons rfl rfl (op_w (yw_assign rfl rfl) rfl rfl ?_)
 refine RX.nil (XX.next (V' := [(0, _), (1, _), (2, _), (7, _), (9, _), (10, _)]) ⟨rfl, rfl, rfl, rfl, rfl, rfl, trivial⟩ ?_)
 refine CX.seq ?_
 refine CX.region ?_
 refine RX.cons rfl rfl (op_w (yw_build (v := .agg (#[.slice none 0 0])) rfl rfl (fun _ => by kernel_rfl)) rfl rfl ?_)
 refine RX.cons rfl rfl (op_box rfl rfl rfl rfl fun gy => ?_)
 refine RX.cons rfl rfl (op_w (yw_assign rfl rfl) rfl rfl ?_)
 refine RX.nil (XX.next (V' := [(0, _), (1, _), (2, _), (7, _), (9, _), (10, _), (11, _)]) ⟨rfl, rfl, rfl, rfl, rfl, rfl, rfl, trivial⟩ ?_)
 refine CX.seq ?_
 refine CX.seq ?_
 refine CX.region ?_
 refine RX.cons rfl rfl (op_w (yw_assign rfl rfl) rfl rfl ?_)
 refine RX.nil (XX.next (V' := [(0, _), (1, _), (2, _), (7, _), (9, _), (10, _), (11, _), (12, _)]) ⟨rfl, rfl, rfl, rfl, rfl, rfl, rfl, rfl, trivial⟩ ?_)
 refine CX.block ?_
 refine CX.packNil ?_
 refine CX.rowNil 25 3 ?_
 refine CX.loop (σ := Nat × LZ × List SX × (Option Addr × Nat) × List SX) (fun z => [(0, .slice A XS.length cap), (1, .int .i64 n), (2, .string rootp), (7, .pointer (some ⟨g7, 0, none⟩)), (9, .bool true), (10, .pointer (some ⟨zx, 0, none⟩)), (11, .pointer (some ⟨gy, 0, none⟩)), (12, .int .i64 ((z.1 : Nat) : Int))]) (fun z => [.row z.2.2.2.1.1 z.2.2.2.1.2 25 3 (List.map stC z.2.2.2.2), pack (lns z.2.2.2.2), .blk gy (.cells (#[.slice z.2.2.2.1.1 (List.length (z.2.2.2.2 : List SX)) z.2.2.2.1.2]) 35 (0, 0)), logE zx z.2.1 z.2.2.1, .blk g7 (.cells (prZ sp ip np saltp pathp zp) 28 (0, 0))]) (fun z => z.1 ≤ XS.length ∧ z.1 ≤ 5 ∧ z.2.2.2.2.map (fun x : SX => x.2) = z.2.2.1.map (fun x : SX => x.2) ∧ (∀ s ∈ z.2.2.1.map (fun x : SX => x.2), okS s = true ∧ s.ls.length ≤ 8) ∧ z.2.2.1.length ≤ 5 * z.1) (fun z => XS.length - z.1) (0, ((none, 0), (none, 0)), [], (none, 0), []) ⟨Nat.zero_le _, Nat.zero_le _, rfl, by simp, by simp⟩ ⟨rfl, rfl, rfl, rfl, rfl, rfl, rfl, rfl, trivial⟩ rfl (fun z hI => ?_)
 obtain ⟨i, ⟨⟨E1, f1⟩, ⟨E2, f2⟩⟩, X0, ⟨A1, c1⟩, Y0⟩ := z
 dsimp only at hI ⊢
 obtain ⟨hi, hi5, hYX, hall, hX0n⟩ := hI
 have hY0n : Y0.length = X0.length := by have := congrArg List.length hYX; simpa using this
 refine CX.seq ?_
 refine CX.seq ?_
 refine CX.region ?_
 refine RX.cons rfl rfl (op_w (yw_move rfl rfl) rfl rfl ?_)
 refine RX.cons rfl rfl (op_w (yw_move rfl rfl) rfl rfl ?_)
 refine RX.cons rfl rfl (op_w (yw_lenS rfl Tryz.underlying22 rfl) rfl rfl ?_)
 refine RX.cons rfl rfl (op_w (yw_lss rfl rfl rfl) rfl rfl ?_)
 refine RX.cons rfl rfl (op_w (yw_move rfl rfl) rfl rfl ?_)
 refine RX.splitD (t := 33) (p := ((i : Nat) : Int) < ((XS.length : Nat) : Int)) rfl (fun d33 => ?_) (fun d33 => ?_)
 ·refine RX.consG rfl rfl rfl rfl rfl (op_w (yw_move rfl rfl) rfl rfl ?_)
  refine RX.consG rfl rfl rfl rfl rfl (op_w (yw_lss rfl rfl rfl) rfl rfl ?_)
  refine RX.cons rfl rfl (op_w (yw_pickT rfl rfl rfl) rfl rfl ?_)
  refine RX.nil (XX.next (V' := [(0, _), (1, _), (2, _), (7, _), (9, _), (10, _), (11, _), (12, _), (36, _)]) ⟨rfl, rfl, rfl, rfl, rfl, rfl, rfl, rfl, rfl, trivial⟩ ?_)
  refine CX.condD (p := ((i : Nat) : Int) < 5) rfl (fun c36 => ?_) (fun c36 => ?_)
  ·obtain ⟨g0, hg0⟩ := get_some (l := XS) (k := i) (by omega)
   have hgr := hXS g0 (List.mem_of_getElem? hg0)
   have hgd := hgr.1
   have hA : ∃ b j, A = some ⟨b, j, none⟩ := hr.some (k := 0) (by simp; omega)
   refine CX.skip (XX.next (V' := [(0, _), (1, _), (2, _), (7, _), (9, _), (10, _), (11, _), (12, _)]) ⟨rfl, rfl, rfl, rfl, rfl, rfl, rfl, rfl, trivial⟩ ?_)
   refine CX.seq ?_
   refine CX.block ?_
   refine CX.seq ?_
   refine CX.region ?_
   refine RX.cons rfl rfl (op_w (yw_move rfl rfl) rfl rfl ?_)
   refine RX.cons rfl rfl (op_w (yw_move rfl rfl) rfl rfl ?_)
   refine RX.cons rfl rfl (op_w (yw_index (k := i) rfl slt_22 rfl rfl (by omega) (by omega) hA) rfl rfl ?_)
   refine RX.cons rfl rfl (op_yld (y_elem1 rfl rfl one_33 hr (by simp) (map_get hg0)) rfl rfl ?_)
   refine RX.cons rfl rfl (op_callE rfl rfl rfl rfl rfl ent_6 (fun w hw => w_cut g0.2 (hw.rd hgr.1 (by simp)) (fun x hx => hw.rd (hgr.2.1 x hx) (by simp)) hgr.2.2.1 hgr.2.2.2.1 hgr.2.2.2.2 5 (by decide)) (fun zk hzk => ?_))
   have hks := of_snd (p := fun s => s.ls.length ≤ 8) hzk (cutL_short g0.2 5)
   have hks6 : ∀ x ∈ zk.2, x.2.ls.length ≤ 1000000 := fun x hx => by have := hks x hx; omega
   have hkn : zk.2.length ≤ 5 := by rw [len_snd hzk]; exact cutL_length g0.2 5
   refine RX.cons rfl rfl (op_w (yw_assign rfl rfl) rfl rfl ?_)
   refine RX.nil (XX.next (V' := [(0, _), (1, _), (2, _), (7, _), (9, _), (10, _), (11, _), (12, _), (13, _)]) ⟨rfl, rfl, rfl, rfl, rfl, rfl, rfl, rfl, rfl, trivial⟩ ?_)
   refine CX.seq ?_
   refine CX.seq ?_
   refine CX.draw 2 [(0, 1024, 17592186044416), (0, 8192, 35184372088832), (3, 52776558133248, 70368744177664), (0, 2048, 140737488355328), (0, 8192, 281474976710656), (28, 422212465065984, 562949953421312), (36, 633318697598976, 1125899906842624), (96, 1125899906842624, 2251799813685248), (128, 2251799813686272, 4503599627370496), (384, 6755399441055744, 9007199254740992), (128, 2251799813687296, 18014398509481984), (1664, 20266198323167232, 36028797018963968), (2688, 47287796087390208, 72057594037927936), (4224, 74309393851613184, 144115188075855872), (10240, 144115188075855872, 288230376151711744), (16384, 288230376151712768, 576460752303423488), (49152, 864691128455135232, 1152921504606846976), (16384, 288230376151713792, 2305843009213693952), (147456, 2594073385365405696, 4611686018427387904), (278528, 4899916394579099648, 9223372036854775808), (540672, 9511602413006487552, 18446744073709551616), (1130496, 19887895954468110336, 36893488147419103232), (2113536, 37181718523570814976, 73786976294838206464), (4210688, 74075206670989918208, 147573952589676412928)] (by kernel_rfl) (by kernel_rfl) (by kernel_rfl) ?_
   refine DX.takeW 0 1 (by kernel_rfl) rfl rfl rfl rfl rfl (yw_move rfl rfl) ?_
   refine DX.takeW 1 3 (by kernel_rfl) rfl rfl rfl rfl rfl (yw_move rfl rfl) ?_
   refine DX.takeW 3 11 (by kernel_rfl) rfl rfl rfl rfl rfl (yw_move rfl rfl) ?_
   refine DX.takeW 4 27 (by kernel_rfl) rfl rfl rfl rfl rfl (yw_move rfl rfl) ?_
   refine DX.stepT 2 31 (by kernel_rfl) rfl rfl rfl rfl (op_callP [logE zx ((E1, f1), (E2, f2)) X0] [.row zk.1.1 zk.1.2 25 3 (List.map stC zk.2), pack (lns zk.2), .row A1 c1 25 3 (List.map stC Y0), pack (lns Y0), .blk gy (.cells (#[.slice A1 (List.length (Y0 : List SX)) c1]) 35 (0, 0)), .blk g7 (.cells (prZ sp ip np saltp pathp zp) 28 (0, 0))] rfl rfl rfl rfl rfl ent_7 ((perm_pick 5 rfl).trans (List.Perm.cons _ (List.Perm.refl _))) (σ := LZ × List SX) (val := fun _ => .int .i64 (codeA (List.map (fun x : SX => x.2) zk.2))) (LL := fun y => [logE zx y.1 y.2]) (post := fun y => y.2.map (fun x : SX => x.2) = grown (X0.map (fun x : SX => x.2)) (List.map (fun x : SX => x.2) zk.2)) (fun w hw hs => w_appendA X0 zk.2 (Ent.rd (hw.ents _ (List.mem_of_getElem? (i := 1) rfl))) (lnsRd hw (i := 2) rfl) (fun _ => hw.apartA (hw.no0 (by simp) hG) 0 rfl) (fun x hx _ => apartL hw (hw.no0 (by simp) hG) 1 rfl x hx) hks6 (by omega) hs (hG.keep hw (by simp)) (hw.no0 (by simp) hG) (by omega)) (fun za hza => ?_))
   refine DX.stepT 5 63 (by kernel_rfl) rfl rfl rfl rfl (op_callP [.blk gy (.cells (#[.slice A1 (List.length (Y0 : List SX)) c1]) 35 (0, 0)), .row A1 c1 25 3 (List.map stC Y0), pack (lns Y0)] [logE zx za.1 za.2, .row zk.1.1 zk.1.2 25 3 (List.map stC zk.2), pack (lns zk.2), .blk g7 (.cells (prZ sp ip np saltp pathp zp) 28 (0, 0))] rfl rfl rfl rfl rfl ent_8 ((perm_pick 5 rfl).trans (List.Perm.cons _ ((perm_pick 3 rfl).trans (List.Perm.cons _ ((perm_pick 3 rfl).trans (List.Perm.cons _ (List.Perm.refl _))))))) (σ := (Option Addr × Nat) × List SX) (val := fun _ => .int .i64 (codeA (List.map (fun x : SX => x.2) zk.2))) (LL := fun y => [.blk gy (.cells (#[.slice y.1.1 (List.length (y.2 : List SX)) y.1.2]) 35 (0, 0)), .row y.1.1 y.1.2 25 3 (List.map stC y.2), pack (lns y.2)]) (post := fun y => y.2.map (fun x : SX => x.2) = grown (Y0.map (fun x : SX => x.2)) (List.map (fun x : SX => x.2) zk.2)) (fun w hw hs => w_append24A (z0 := (A1, c1)) Y0 zk.2 (Ent.rd (hw.ents _ (List.mem_of_getElem? (i := 4) rfl))) (lnsRd hw (i := 5) rfl) (fun _ => hw.apartA (hw.no0 (by simp) hG) 1 rfl) (fun x hx _ => apartL hw (hw.no0 (by simp) hG) 2 rfl x hx) hks6 (by omega) hs (by omega)) (fun zb hzb => ?_))
   have hzz : zb.2.map (fun x : SX => x.2) = za.2.map (fun x : SX => x.2) := by rw [hzb, hza, hYX]
   have hal2 : ∀ s ∈ za.2.map (fun x : SX => x.2), okS s = true ∧ s.ls.length ≤ 8 := by
     rw [hza]
     exact grown_all hall (fun h s hs => ⟨h s hs, by obtain ⟨x, hx, rfl⟩ := List.mem_map.1 hs; exact hks x hx⟩)
   have hAn : za.2.length ≤ 5 * (i + 1) := by
     have h1 := congrArg List.length hza
     have h2 := grown_length (X0.map (fun x : SX => x.2)) (zk.2.map (fun x : SX => x.2))
     rw [List.length_map] at h1
     rw [List.length_map, List.length_map] at h2
     omega
   have hBn : zb.2.length = za.2.length := by have := congrArg List.length hzz; simpa using this
   have hXlA : ∀ x ∈ za.2, x.2.ls.length ≤ 1000000 := fun x hx => by have := (hal2 _ (List.mem_map.2 ⟨x, hx, rfl⟩)).2; omega
   have hokA : ∀ x ∈ za.2, okS x.2 = true := fun x hx => (hal2 _ (List.mem_map.2 ⟨x, hx, rfl⟩)).1
   have hYlB : ∀ x ∈ zb.2, x.2.ls.length ≤ 1000000 := fun x hx => by have := (hal2 x.2 (by rw [← hzz]; exact List.mem_map.2 ⟨x, hx, rfl⟩)).2; omega
   have hokB : ∀ x ∈ zb.2, okS x.2 = true := fun x hx => (hal2 x.2 (by rw [← hzz]; exact List.mem_map.2 ⟨x, hx, rfl⟩)).1
   refine DX.takeW 6 127 (by kernel_rfl) rfl rfl rfl rfl rfl (yw_neq rfl rfl rfl) ?_
   refine DX.know (t := 50) (u := .bool false) rfl (congrArg Value.bool (decide_eq_false (fun h => h rfl))) ?_
   refine DX.takeW 7 255 (by kernel_rfl) rfl rfl rfl rfl rfl (yw_move rfl rfl) ?_
   refine DX.anew 24 (by kernel_rfl) ?_
   refine DX.takeWG 8 511 (by kernel_rfl) rfl rfl rfl rfl rfl rfl rfl rfl (yw_move rfl rfl) ?_
   refine DX.takeWG 10 1535 (by kernel_rfl) rfl rfl rfl rfl rfl rfl rfl rfl (yw_move rfl rfl) ?_
   refine DX.stepG 9 2047 (by kernel_rfl) rfl rfl rfl rfl rfl rfl (op_callV (v := .string (root sum (entsX za.2))) rfl rfl rfl rfl rfl ent_9 (fun w hw => w_rootE za.2 (hw.logAt (i := 3) rfl) hXlA (by omega) (hG.keep hw (by simp))) (DXs.mk (List.Sublist.refl _) ?_))
   refine DX.stepG 11 4095 (by kernel_rfl) rfl rfl rfl rfl rfl rfl (op_callV (v := .string (root sum (entsX za.2))) rfl rfl rfl rfl rfl ent_10 (fun w hw => by have h := w_rootR zb.2 (refAt_of (z := zb.1) (Y := zb.2) hw (i := 0) (j := 1) (k := 2) rfl rfl rfl) hYlB (by omega) hokB; rw [entsX_of hzz] at h; exact h) (DXs.mk (List.Sublist.refl _) ?_))
   refine DX.takeWG 12 8191 (by kernel_rfl) rfl rfl rfl rfl rfl rfl rfl rfl (yw_strneq rfl rfl rfl) ?_
   refine DX.know (t := 56) (u := .bool false) rfl (congrArg Value.bool (decide_eq_false (fun h => h rfl))) ?_
   refine DX.takeW 13 16383 (by kernel_rfl) rfl rfl rfl rfl rfl (yw_pickF rfl rfl rfl) ?_
   refine DX.takeW 14 32767 (by kernel_rfl) rfl rfl rfl rfl rfl (yw_move rfl rfl) ?_
   refine DX.takeWG 15 65535 (by kernel_rfl) rfl rfl rfl rfl rfl rfl rfl rfl (yw_move rfl rfl) ?_
   refine DX.takeWG 17 196607 (by kernel_rfl) rfl rfl rfl rfl rfl rfl rfl rfl (yw_move rfl rfl) ?_
   refine DX.takeWG 18 458751 (by kernel_rfl) rfl rfl rfl rfl rfl rfl rfl rfl (yw_nilCheck rfl rfl) ?_
   refine DX.takeWG 19 983039 (by kernel_rfl) rfl rfl rfl rfl rfl rfl rfl rfl (yw_field0 rfl fld_35_0 rfl) ?_
   refine DX.takeG 20 2031615 (by kernel_rfl) rfl rfl rfl rfl rfl rfl rfl rfl (List.Sublist.refl _) (y_load (i := 0) rfl rfl one_33 rfl rfl) ?_
   refine DX.stepG 16 2097151 (by kernel_rfl) rfl rfl rfl rfl rfl rfl (op_callE rfl rfl rfl rfl rfl ent_12 (fun w hw => w_stmtsE za.2 (hw.logAt (i := 3) rfl) hXlA (by omega)) (fun zs hzs => (DXs.mk (List.Sublist.cons _ (List.Sublist.cons _ (List.Sublist.refl _))) ?_)))
   have hzsl : ∀ x ∈ zs.2, x.2.ls.length ≤ 1000000 := of_snd (p := fun s => s.ls.length ≤ 1000000) hzs (fun s hs => by have := (hal2 s hs).2; omega)
   have hzsn : zs.2.length = za.2.length := by have := congrArg List.length hzs; simpa using this
   refine DX.stepG 21 4194303 (by kernel_rfl) rfl rfl rfl rfl rfl rfl (op_callV (v := .bool (decide (List.map (fun x : SX => x.2) zs.2 = List.map (fun x : SX => x.2) zb.2))) rfl rfl rfl rfl rfl ent_11 (fun w hw => w_sameList zs.2 zb.2 (Ent.rd (hw.ents _ (List.mem_of_getElem? (i := 0) rfl))) (lnsRd hw (i := 1) rfl) (Ent.rd (hw.ents _ (List.mem_of_getElem? (i := 3) rfl))) (lnsRd hw (i := 4) rfl) hzsl (by omega)) (DXs.mk (List.Sublist.cons _ (List.Sublist.cons _ (List.Sublist.refl _))) ?_))
   refine DX.know (t := 65) (u := .bool true) rfl (congrArg Value.bool (decide_eq_true (by rw [hzs, hzz]))) ?_
   refine DX.takeWG 22 8388607 (by kernel_rfl) rfl rfl rfl rfl rfl rfl rfl rfl (yw_not rfl rfl) ?_
   refine DX.takeW 23 16777215 (by kernel_rfl) rfl rfl rfl rfl rfl (yw_pickF rfl rfl rfl) ?_
   refine DX.done (by kernel_rfl) (XX.next (V' := [(0, _), (1, _), (2, _), (7, _), (9, _), (10, _), (11, _), (12, _), (67, _)]) ⟨rfl, rfl, rfl, rfl, rfl, rfl, rfl, rfl, rfl, trivial⟩ ?_)
   refine CX.condF rfl ?_
   refine CX.skip (XX.next (V' := [(0, _), (1, _), (2, _), (7, _), (9, _), (10, _), (11, _), (12, _)]) ⟨rfl, rfl, rfl, rfl, rfl, rfl, rfl, rfl, trivial⟩ ?_)
   refine CX.seq ?_
   refine CX.drop (L' := [.blk gy (.cells (#[.slice zb.1.1 (List.length (zb.2 : List SX)) zb.1.2]) 35 (0, 0)), .row zb.1.1 zb.1.2 25 3 (List.map stC zb.2), pack (lns zb.2), logE zx za.1 za.2, .blk g7 (.cells (prZ sp ip np saltp pathp zp) 28 (0, 0))]) (List.Sublist.cons _ (List.Sublist.cons _ (List.Sublist.cons_cons _ (List.Sublist.cons_cons _ (List.Sublist.cons_cons _ (List.Sublist.cons_cons _ (List.Sublist.cons _ (List.Sublist.cons _ (List.Sublist.refl _))))))))) ?_
   obtain ⟨k, hk⟩ : ∃ k, pickN n (zb.2.length + 2) = k := ⟨_, rfl⟩
   have hkl : k < zb.2.length + 2 := by rw [← hk]; exact pickN_lt n (by omega)
   refine CX.draw 18 [(0, 2, 295147905179352825856), (0, 2, 590295810358705651712), (0, 2048, 1180591620717411303424), (4, 1180591620717411303424, 2361183241434822606848), (8, 2361183241434822606848, 4722366482869645213696), (16, 4722366482869645213696, 9444732965739290427392), (32, 9444732965739290427392, 18889465931478580854784), (64, 18889465931478580854784, 37778931862957161709568), (130, 38369227673315867361280, 75557863725914323419136), (256, 75557863725914323419136, 151115727451828646838272), (0, 2048, 302231454903657293676544), (1024, 302231454903657293676544, 604462909807314587353088), (2048, 604462909807314587353088, 1208925819614629174706176), (4096, 1208925819614629174706176, 2417851639229258349412352), (8192, 2417851639229258349412352, 4835703278458516698824704), (16897, 4987114153815524698488832, 9671406556917033397649408), (32768, 9671406556917033397649408, 19342813113834066795298816), (0, 0, 38685626227668133590597632)] (by kernel_rfl) (by kernel_rfl) (by kernel_rfl) ?_
   refine DX.takeW 0 1 (by kernel_rfl) rfl rfl rfl rfl rfl (yw_move rfl rfl) ?_
   refine DX.takeW 1 3 (by kernel_rfl) rfl rfl rfl rfl rfl (yw_move rfl rfl) ?_
   refine DX.takeW 2 7 (by kernel_rfl) rfl rfl rfl rfl rfl (yw_move rfl rfl) ?_
   refine DX.takeW 3 15 (by kernel_rfl) rfl rfl rfl rfl rfl (yw_nilCheck rfl rfl) ?_
   refine DX.takeW 4 31 (by kernel_rfl) rfl rfl rfl rfl rfl (yw_field0 rfl fld_35_0 rfl) ?_
   refine DX.take 5 63 (by kernel_rfl) rfl rfl rfl rfl rfl (List.Sublist.refl _) (y_load (i := 0) rfl rfl one_33 rfl rfl) ?_
   refine DX.takeW 6 127 (by kernel_rfl) rfl rfl rfl rfl rfl (yw_lenS rfl Tryz.underlying33 rfl) ?_
   refine DX.takeW 7 255 (by kernel_rfl) rfl rfl rfl rfl rfl (yw_add rfl rfl rfl (by omega) (by omega)) ?_
   refine DX.know (t := 75) (u := .int .i64 (((zb.2.length + 2) : Nat) : Int)) rfl (congrArg (Value.int .i64) (by omega)) ?_
   refine DX.takeW 10 1279 (by kernel_rfl) rfl rfl rfl rfl rfl (yw_move rfl rfl) ?_
   refine DX.takeW 11 3327 (by kernel_rfl) rfl rfl rfl rfl rfl (yw_nilCheck rfl rfl) ?_
   refine DX.takeW 12 7423 (by kernel_rfl) rfl rfl rfl rfl rfl (yw_field0 rfl fld_35_0 rfl) ?_
   refine DX.take 13 15615 (by kernel_rfl) rfl rfl rfl rfl rfl (List.Sublist.refl _) (y_load (i := 0) rfl rfl one_33 rfl rfl) ?_
   refine DX.takeW 14 31999 (by kernel_rfl) rfl rfl rfl rfl rfl (yw_lenS rfl Tryz.underlying33 rfl) ?_
   refine DX.takeW 17 163071 (by kernel_rfl) rfl rfl rfl rfl rfl (yw_move rfl rfl) ?_
   refine DX.step 8 163327 (by kernel_rfl) rfl rfl rfl (op_callV (v := .int .i64 ((pickN n (zb.2.length + 2) : Nat) : Int)) rfl rfl rfl rfl rfl ent_13 (fun w hw => w_pick n (zb.2.length + 2) hn1 hn2 (by omega)) (DXs.mk (List.Sublist.refl _) ?_))
   refine DX.know (t := 76) (u := .int .i64 ((k : Nat) : Int)) rfl (congrArg (fun n : Nat => Value.int .i64 ((n : Nat) : Int)) hk) ?_
   refine DX.takeW 9 163839 (by kernel_rfl) rfl rfl rfl rfl rfl (yw_sub rfl rfl rfl (by omega) (by omega)) ?_
   refine DX.step 15 196607 (by kernel_rfl) rfl rfl rfl (op_buildSlice rfl rfl rfl slb_43 rfl rfl (by intro v hv; simp only [List.mem_cons, List.not_mem_nil, or_false] at hv; rcases hv with rfl | rfl | rfl <;> exact ⟨rfl, (plain_of rfl)⟩) (by decide) fun ir => (DXs.mk (List.Sublist.cons _ (List.Sublist.refl _)) ?_))
   refine DX.takeW 16 262143 (by kernel_rfl) rfl rfl rfl rfl rfl (yw_lenS rfl Tryz.underlying43 rfl) ?_
   refine DX.done (by kernel_rfl) (XX.next (V' := [(0, _), (1, _), (2, _), (7, _), (9, _), (10, _), (11, _), (12, _), (83, _), (84, _), (85, _)]) ⟨rfl, rfl, rfl, rfl, rfl, rfl, rfl, rfl, rfl, rfl, rfl, trivial⟩ ?_)
   refine CX.block ?_
   refine CX.loop (σ := Nat) (fun j => [(0, .slice A XS.length cap), (1, .int .i64 n), (2, .string rootp), (7, .pointer (some ⟨g7, 0, none⟩)), (9, .bool true), (10, .pointer (some ⟨zx, 0, none⟩)), (11, .pointer (some ⟨gy, 0, none⟩)), (12, .int .i64 ((i : Nat) : Int)), (83, .slice (some ⟨ir, 0, none⟩) 3 3), (84, .int .i64 ((3 : Nat) : Int)), (85, .int .i64 ((j : Nat) : Int))]) (fun j => [.row (some ⟨ir, 0, none⟩) 3 3 1 (List.map (fun n : Int => #[Value.int .i64 n]) ([n, ((k : Nat) : Int) - 1, ((List.length (zb.2 : List SX) : Nat) : Int)])), .blk gy (.cells (#[.slice zb.1.1 (List.length (zb.2 : List SX)) zb.1.2]) 35 (0, 0)), .row zb.1.1 zb.1.2 25 3 (List.map stC zb.2), pack (lns zb.2), logE zx za.1 za.2, .blk g7 (.cells (prZ sp ip np saltp pathp zp) 28 (0, 0))]) (fun j => j ≤ 3) (fun j => 3 - j) 0 (Nat.zero_le _) ⟨rfl, rfl, rfl, rfl, rfl, rfl, rfl, rfl, rfl, rfl, rfl, trivial⟩ rfl (fun j hI => ?_)
   refine CX.seq ?_
   refine CX.region ?_
   refine RX.cons rfl rfl (op_w (yw_lss rfl rfl rfl) rfl rfl ?_)
   refine RX.nil (XX.next (V' := [(0, _), (1, _), (2, _), (7, _), (9, _), (10, _), (11, _), (12, _), (83, _), (84, _), (85, _), (86, _)]) ⟨rfl, rfl, rfl, rfl, rfl, rfl, rfl, rfl, rfl, rfl, rfl, rfl, trivial⟩ ?_)
   refine CX.seq ?_
   refine CX.condD (p := ((j : Nat) : Int) < ((3 : Nat) : Int)) rfl (fun c86 => ?_) (fun c86 => ?_)
   ·obtain ⟨k0, hk0⟩ := get_some (l := [n, ((k : Nat) : Int) - 1, ((List.length (zb.2 : List SX) : Nat) : Int)]) (k := j) (by show j < 3; omega)
    have hf := prA_facts hokA hXlA (by omega) k0
    have hel := exA_len za.2 k0
    refine CX.skip (XX.next (V' := [(0, _), (1, _), (2, _), (7, _), (9, _), (10, _), (11, _), (12, _), (83, _), (84, _), (85, _)]) ⟨rfl, rfl, rfl, rfl, rfl, rfl, rfl, rfl, rfl, rfl, rfl, trivial⟩ ?_)
    refine CX.seq ?_
    refine CX.block ?_
    refine CX.seq ?_
    refine CX.region ?_
    refine RX.cons rfl rfl (op_w (yw_index (k := j) rfl slt_43 rfl rfl (by omega) (by omega) ⟨_, _, rfl⟩) rfl rfl ?_)
    refine RX.cons rfl rfl (op_yld (y_rowElem1 (i := 0) rfl rfl one_3 rfl (map_get hk0)) rfl rfl ?_)
    refine RX.cons rfl rfl (op_w (yw_assign rfl rfl) rfl rfl ?_)
    refine RX.nil (XX.next (V' := [(0, _), (1, _), (2, _), (7, _), (9, _), (10, _), (11, _), (12, _), (15, _), (83, _), (84, _), (85, _)]) ⟨rfl, rfl, rfl, rfl, rfl, rfl, rfl, rfl, rfl, rfl, rfl, rfl, trivial⟩ ?_)
    refine CX.seq ?_
    refine CX.region ?_
    refine RX.cons rfl rfl (op_w (yw_move rfl rfl) rfl rfl ?_)
    refine RX.cons rfl rfl (op_w (yw_move rfl rfl) rfl rfl ?_)
    refine RX.cons rfl rfl (op_callE rfl rfl rfl rfl rfl ent_14 (fun w hw => w_proveA za.2 (hw.logAt (i := 4) rfl) hXlA (by omega) (hG.keep hw (by simp)) k0) (fun zq _ => ?_))
    refine RX.cons rfl rfl (op_w (yw_move rfl rfl) rfl rfl ?_)
    refine RX.cons rfl rfl (op_w (yw_extract rfl rfl rfl) rfl rfl ?_)
    refine RX.cons rfl rfl (op_w (yw_extract rfl rfl rfl) rfl rfl ?_)
    refine RX.cons rfl rfl (op_alloc rfl rfl rfl zero_28 fun ga => ?_)
    refine RX.cons rfl rfl (op_storeAll (i := 0) rfl rfl rfl rfl szt_28 rfl (plain_of rfl) rfl rfl ?_)
    refine RX.cons rfl rfl (op_w (yw_assign rfl rfl) rfl rfl ?_)
    refine RX.nil (XX.next (V' := [(0, _), (1, _), (2, _), (7, _), (9, _), (10, _), (11, _), (12, _), (15, _), (16, _), (17, _), (83, _), (84, _), (85, _)]) ⟨rfl, rfl, rfl, rfl, rfl, rfl, rfl, rfl, rfl, rfl, rfl, rfl, rfl, rfl, trivial⟩ ?_)
    refine CX.seq ?_
    refine CX.region ?_
    refine RX.cons rfl rfl (op_w (yw_move rfl rfl) rfl rfl ?_)
    refine RX.cons rfl rfl (op_w (yw_move rfl rfl) rfl rfl ?_)
    refine RX.cons rfl rfl (op_callE rfl rfl rfl rfl rfl ent_15 (fun w hw => w_proveRA zb.2 (refAt_of (z := zb.1) (Y := zb.2) hw (i := 4) (j := 5) (k := 6) rfl rfl rfl) hYlB (by omega) hokB za.2 hzz k0) (fun zr _ => ?_))
    refine RX.cons rfl rfl (op_w (yw_move rfl rfl) rfl rfl ?_)
    refine RX.cons rfl rfl (op_w (yw_extract rfl rfl rfl) rfl rfl ?_)
    refine RX.cons rfl rfl (op_w (yw_extract rfl rfl rfl) rfl rfl ?_)
    refine RX.cons rfl rfl (op_alloc rfl rfl rfl zero_28 fun gb => ?_)
    refine RX.cons rfl rfl (op_storeAll (i := 0) rfl rfl rfl rfl szt_28 rfl (plain_of rfl) rfl rfl ?_)
    refine RX.cons rfl rfl (op_w (yw_assign rfl rfl) rfl rfl ?_)
    refine RX.nil (XX.next (V' := [(0, _), (1, _), (2, _), (7, _), (9, _), (10, _), (11, _), (12, _), (15, _), (16, _), (17, _), (18, _), (19, _), (83, _), (84, _), (85, _)]) ⟨rfl, rfl, rfl, rfl, rfl, rfl, rfl, rfl, rfl, rfl, rfl, rfl, rfl, rfl, rfl, rfl, trivial⟩ ?_)
    refine CX.seq ?_
    refine CX.region ?_
    refine RX.cons rfl rfl (op_w (yw_move rfl rfl) rfl rfl ?_)
    refine RX.cons rfl rfl (op_w (yw_move rfl rfl) rfl rfl ?_)
    refine RX.cons rfl rfl (op_callE rfl rfl rfl rfl rfl ent_16 (fun w hw => w_extA za.2 (hw.logAt (i := 10) rfl) hXlA (by omega) (hG.keep hw (by simp)) k0) (fun ze _ => ?_))
    refine RX.cons rfl rfl (op_w (yw_move rfl rfl) rfl rfl ?_)
    refine RX.cons rfl rfl (op_w (yw_extract rfl rfl rfl) rfl rfl ?_)
    refine RX.cons rfl rfl (op_w (yw_extract rfl rfl rfl) rfl rfl ?_)
    refine RX.cons rfl rfl (op_w (yw_assign rfl rfl) rfl rfl ?_)
    refine RX.cons rfl rfl (op_w (yw_assign rfl rfl) rfl rfl ?_)
    refine RX.nil (XX.next (V' := [(0, _), (1, _), (2, _), (7, _), (9, _), (10, _), (11, _), (12, _), (15, _), (16, _), (17, _), (18, _), (19, _), (20, _), (21, _), (83, _), (84, _), (85, _)]) ⟨rfl, rfl, rfl, rfl, rfl, rfl, rfl, rfl, rfl, rfl, rfl, rfl, rfl, rfl, rfl, rfl, rfl, rfl, trivial⟩ ?_)
    refine CX.seq ?_
    refine CX.region ?_
    refine RX.cons rfl rfl (op_w (yw_move rfl rfl) rfl rfl ?_)
    refine RX.cons rfl rfl (op_w (yw_move rfl rfl) rfl rfl ?_)
    refine RX.cons rfl rfl (op_callE rfl rfl rfl rfl rfl ent_17 (fun w hw => w_extRA zb.2 (refAt_of (z := zb.1) (Y := zb.2) hw (i := 8) (j := 9) (k := 10) rfl rfl rfl) hYlB (by omega) hokB za.2 hzz k0) (fun zf _ => ?_))
    refine RX.cons rfl rfl (op_w (yw_move rfl rfl) rfl rfl ?_)
    refine RX.cons rfl rfl (op_w (yw_extract rfl rfl rfl) rfl rfl ?_)
    refine RX.cons rfl rfl (op_w (yw_extract rfl rfl rfl) rfl rfl ?_)
    refine RX.cons rfl rfl (op_w (yw_assign rfl rfl) rfl rfl ?_)
    refine RX.cons rfl rfl (op_w (yw_assign rfl rfl) rfl rfl ?_)
    refine RX.nil (XX.next (V' := [(0, _), (1, _), (2, _), (7, _), (9, _), (10, _), (11, _), (12, _), (16, _), (17, _), (18, _), (19, _), (20, _), (21, _), (22, _), (23, _), (83, _), (84, _), (85, _)]) ⟨rfl, rfl, rfl, rfl, rfl, rfl, rfl, rfl, rfl, rfl, rfl, rfl, rfl, rfl, rfl, rfl, rfl, rfl, rfl, trivial⟩ ?_)
    refine CX.seq ?_
    refine CX.seq ?_
    refine CX.region ?_
    refine RX.cons rfl rfl (op_w (yw_move rfl rfl) rfl rfl ?_)
    refine RX.cons rfl rfl (op_w (yw_move rfl rfl) rfl rfl ?_)
    refine RX.cons rfl rfl (op_w (yw_neq rfl rfl rfl) rfl rfl ?_)
    refine RX.know (t := 115) (u := .bool false) rfl (congrArg Value.bool (decide_eq_false (fun h => h rfl))) ?_
    refine RX.cons rfl rfl (op_w (yw_move rfl rfl) rfl rfl ?_)
    refine RX.consG rfl rfl rfl rfl rfl (op_w (yw_move rfl rfl) rfl rfl ?_)
    refine RX.consG rfl rfl rfl rfl rfl (op_w (yw_move rfl rfl) rfl rfl ?_)
    refine RX.consG rfl rfl rfl rfl rfl (op_w (yw_neq rfl rfl rfl) rfl rfl ?_)
    refine RX.know (t := 119) (u := .bool false) rfl (congrArg Value.bool (decide_eq_false (fun h => h rfl))) ?_
    refine RX.cons rfl rfl (op_w (yw_pickF rfl rfl rfl) rfl rfl ?_)
    refine RX.cons rfl rfl (op_w (yw_move rfl rfl) rfl rfl ?_)
    refine RX.consG rfl rfl rfl rfl rfl (op_yld (y_loadA (i := 5) rfl rfl agg_28 rfl rfl) rfl rfl ?_)
    refine RX.consG rfl rfl rfl rfl rfl (op_yld (y_loadA (i := 2) rfl rfl agg_28 rfl rfl) rfl rfl ?_)
    refine RX.consG rfl rfl rfl rfl rfl (op_callV (v := .bool true) rfl rfl rfl rfl rfl ent_18 (fun w hw => w_sameProof (prA za.2 k0).1.1 (prA za.2 k0).1.2.1 (prA za.2 k0).1.2.2 (prA za.2 k0).2.1 (prA za.2 k0).2.2.1 zq zr (Ent.rd (hw.ents _ (List.mem_of_getElem? (i := 6) rfl))) (Ent.rd (hw.ents _ (List.mem_of_getElem? (i := 7) rfl))) (Ent.rd (hw.ents _ (List.mem_of_getElem? (i := 3) rfl))) (Ent.rd (hw.ents _ (List.mem_of_getElem? (i := 4) rfl))) hf.1 hf.2.2.2.1) ?_)
    refine RX.consG rfl rfl rfl rfl rfl (op_w (yw_not rfl rfl) rfl rfl ?_)
    refine RX.cons rfl rfl (op_w (yw_pickF rfl rfl rfl) rfl rfl ?_)
    refine RX.cons rfl rfl (op_w (yw_move rfl rfl) rfl rfl ?_)
    refine RX.consG rfl rfl rfl rfl rfl (op_w (yw_move rfl rfl) rfl rfl ?_)
    refine RX.consG rfl rfl rfl rfl rfl (op_w (yw_lenS rfl Tryz.underlying26 rfl) rfl rfl ?_)
    refine RX.consG rfl rfl rfl rfl rfl (op_w (yw_move rfl rfl) rfl rfl ?_)
    refine RX.consG rfl rfl rfl rfl rfl (op_w (yw_lenS rfl Tryz.underlying26 rfl) rfl rfl ?_)
    refine RX.consG rfl rfl rfl rfl rfl (op_w (yw_neq rfl rfl rfl) rfl rfl ?_)
    refine RX.know (t := 132) (u := .bool false) rfl (congrArg Value.bool (decide_eq_false (fun h => h rfl))) ?_
    refine RX.cons rfl rfl (op_w (yw_pickF rfl rfl rfl) rfl rfl ?_)
    refine RX.nil (XX.next (V' := [(0, _), (1, _), (2, _), (7, _), (9, _), (10, _), (11, _), (12, _), (16, _), (18, _), (20, _), (22, _), (83, _), (84, _), (85, _), (133, _)]) ⟨rfl, rfl, rfl, rfl, rfl, rfl, rfl, rfl, rfl, rfl, rfl, rfl, rfl, rfl, rfl, rfl, trivial⟩ ?_)
    refine CX.condF rfl ?_
    refine CX.skip (XX.next (V' := [(0, _), (1, _), (2, _), (7, _), (9, _), (10, _), (11, _), (12, _), (16, _), (18, _), (20, _), (22, _), (83, _), (84, _), (85, _)]) ⟨rfl, rfl, rfl, rfl, rfl, rfl, rfl, rfl, rfl, rfl, rfl, rfl, rfl, rfl, rfl, trivial⟩ ?_)
    refine CX.seq ?_
    refine CX.seq ?_
    refine CX.region ?_
    refine RX.cons rfl rfl (op_w (yw_assign rfl rfl) rfl rfl ?_)
    refine RX.nil (XX.next (V' := [(0, _), (1, _), (2, _), (7, _), (9, _), (10, _), (11, _), (12, _), (16, _), (18, _), (20, _), (22, _), (24, _), (83, _), (84, _), (85, _)]) ⟨rfl, rfl, rfl, rfl, rfl, rfl, rfl, rfl, rfl, rfl, rfl, rfl, rfl, rfl, rfl, rfl, trivial⟩ ?_)
    refine CX.block ?_
    refine CX.loop (σ := Nat) (fun m => [(0, .slice A XS.length cap), (1, .int .i64 n), (2, .string rootp), (7, .pointer (some ⟨g7, 0, none⟩)), (9, .bool true), (10, .pointer (some ⟨zx, 0, none⟩)), (11, .pointer (some ⟨gy, 0, none⟩)), (12, .int .i64 ((i : Nat) : Int)), (16, .pointer (some ⟨ga, 0, none⟩)), (18, .pointer (some ⟨gb, 0, none⟩)), (20, .slice ze.1 (List.length ((exA za.2 k0).1 : List ByteArray)) ze.2), (22, .slice zf.1 (List.length ((exA za.2 k0).1 : List ByteArray)) zf.2), (24, .int .i64 ((m : Nat) : Int)), (83, .slice (some ⟨ir, 0, none⟩) 3 3), (84, .int .i64 ((3 : Nat) : Int)), (85, .int .i64 ((j : Nat) : Int))]) (fun m => [.row zf.1 zf.2 9 1 (List.map strC ((exA za.2 k0).1)), .row ze.1 ze.2 9 1 (List.map strC ((exA za.2 k0).1)), .blk gb (.cells (prZ ((prA za.2 k0).1.1) ((prA za.2 k0).1.2.1) ((prA za.2 k0).1.2.2) ((prA za.2 k0).2.1) ((prA za.2 k0).2.2.1) zr) 28 (0, 0)), .row zr.1.1 zr.1.2 77 3 (List.map lnC (Stm.ls (prA za.2 k0).1.1)), .row zr.2.1 zr.2.2 9 1 (List.map strC ((prA za.2 k0).2.2.1)), .blk ga (.cells (prZ ((prA za.2 k0).1.1) ((prA za.2 k0).1.2.1) ((prA za.2 k0).1.2.2) ((prA za.2 k0).2.1) ((prA za.2 k0).2.2.1) zq) 28 (0, 0)), .row zq.1.1 zq.1.2 77 3 (List.map lnC (Stm.ls (prA za.2 k0).1.1)), .row zq.2.1 zq.2.2 9 1 (List.map strC ((prA za.2 k0).2.2.1)), .row (some ⟨ir, 0, none⟩) 3 3 1 (List.map (fun n : Int => #[Value.int .i64 n]) ([n, ((k : Nat) : Int) - 1, ((List.length (zb.2 : List SX) : Nat) : Int)])), .blk gy (.cells (#[.slice zb.1.1 (List.length (zb.2 : List SX)) zb.1.2]) 35 (0, 0)), .row zb.1.1 zb.1.2 25 3 (List.map stC zb.2), pack (lns zb.2), logE zx za.1 za.2, .blk g7 (.cells (prZ sp ip np saltp pathp zp) 28 (0, 0))]) (fun m => m ≤ (exA za.2 k0).1.length) (fun m => (exA za.2 k0).1.length - m) 0 (Nat.zero_le _) ⟨rfl, rfl, rfl, rfl, rfl, rfl, rfl, rfl, rfl, rfl, rfl, rfl, rfl, rfl, rfl, rfl, trivial⟩ rfl (fun m hI => ?_)
    refine CX.seq ?_
    refine CX.seq ?_
    refine CX.region ?_
    refine RX.cons rfl rfl (op_w (yw_move rfl rfl) rfl rfl ?_)
    refine RX.cons rfl rfl (op_w (yw_move rfl rfl) rfl rfl ?_)
    refine RX.cons rfl rfl (op_w (yw_lenS rfl Tryz.underlying26 rfl) rfl rfl ?_)
    refine RX.cons rfl rfl (op_w (yw_lss rfl rfl rfl) rfl rfl ?_)
    refine RX.nil (XX.next (V' := [(0, _), (1, _), (2, _), (7, _), (9, _), (10, _), (11, _), (12, _), (16, _), (18, _), (20, _), (22, _), (24, _), (83, _), (84, _), (85, _), (137, _)]) ⟨rfl, rfl, rfl, rfl, rfl, rfl, rfl, rfl, rfl, rfl, rfl, rfl, rfl, rfl, rfl, rfl, rfl, trivial⟩ ?_)
    refine CX.condD (p := ((m : Nat) : Int) < ((List.length ((exA za.2 k0).1 : List ByteArray) : Nat) : Int)) rfl (fun c137 => ?_) (fun c137 => ?_)
    ·obtain ⟨d0, hd0⟩ := get_some (l := (exA za.2 k0).1) (k := m) (by omega)
     refine CX.rowSome 1 rfl (by rw [List.length_map]; omega) (fun hA1 => ?_)
     refine CX.rowSome 0 rfl (by rw [List.length_map]; omega) (fun hA2 => ?_)
     refine CX.skip (XX.next (V' := [(0, _), (1, _), (2, _), (7, _), (9, _), (10, _), (11, _), (12, _), (16, _), (18, _), (20, _), (22, _), (24, _), (83, _), (84, _), (85, _)]) ⟨rfl, rfl, rfl, rfl, rfl, rfl, rfl, rfl, rfl, rfl, rfl, rfl, rfl, rfl, rfl, rfl, trivial⟩ ?_)
     refine CX.seq ?_
     refine CX.block ?_
     refine CX.seq ?_
     refine CX.draw 9 [(0, 1048576, 1393796574908163946345982392040522594123776), (0, 16777216, 2787593149816327892691964784081045188247552), (3, 4181389724724491839037947176121567782371328, 5575186299632655785383929568162090376495104), (4, 5575186299632655785383929568162090376495104, 11150372599265311570767859136324180752990208), (0, 4194304, 22300745198530623141535718272648361505980416), (0, 16777216, 44601490397061246283071436545296723011960832), (48, 66902235595591869424607154817945084517941248, 89202980794122492566142873090593446023921664), (64, 89202980794122492566142873090593446023921664, 178405961588244985132285746181186892047843328), (136, 189556334187510296703053605317511072800833536, 356811923176489970264571492362373784095686656)] (by kernel_rfl) (by kernel_rfl) (by kernel_rfl) ?_
     refine DX.takeW 0 1 (by kernel_rfl) rfl rfl rfl rfl rfl (yw_move rfl rfl) ?_
     refine DX.takeW 1 3 (by kernel_rfl) rfl rfl rfl rfl rfl (yw_move rfl rfl) ?_
     refine DX.takeW 2 7 (by kernel_rfl) rfl rfl rfl rfl rfl (yw_index (k := m) rfl slt_26 rfl rfl (by omega) (by omega) hA1) ?_
     refine DX.take 3 15 (by kernel_rfl) rfl rfl rfl rfl rfl (List.Sublist.refl _) (y_rowElem1 (i := 1) rfl rfl one_9 rfl (map_get hd0)) ?_
     refine DX.takeW 4 31 (by kernel_rfl) rfl rfl rfl rfl rfl (yw_move rfl rfl) ?_
     refine DX.takeW 5 63 (by kernel_rfl) rfl rfl rfl rfl rfl (yw_move rfl rfl) ?_
     refine DX.takeW 6 127 (by kernel_rfl) rfl rfl rfl rfl rfl (yw_index (k := m) rfl slt_26 rfl rfl (by omega) (by omega) hA2) ?_
     refine DX.take 7 255 (by kernel_rfl) rfl rfl rfl rfl rfl (List.Sublist.refl _) (y_rowElem1 (i := 0) rfl rfl one_9 rfl (map_get hd0)) ?_
     refine DX.takeW 8 511 (by kernel_rfl) rfl rfl rfl rfl rfl (yw_strneq rfl rfl rfl) ?_
     refine DX.know (t := 148) (u := .bool false) rfl (congrArg Value.bool (decide_eq_false (fun h => h rfl))) ?_
     refine DX.done (by kernel_rfl) (XX.next (V' := [(0, _), (1, _), (2, _), (7, _), (9, _), (10, _), (11, _), (12, _), (16, _), (18, _), (20, _), (22, _), (24, _), (83, _), (84, _), (85, _), (148, _)]) ⟨rfl, rfl, rfl, rfl, rfl, rfl, rfl, rfl, rfl, rfl, rfl, rfl, rfl, rfl, rfl, rfl, rfl, trivial⟩ ?_)
     refine CX.condF rfl ?_
     refine CX.skip (XX.inBlock (V' := [(0, _), (1, _), (2, _), (7, _), (9, _), (10, _), (11, _), (12, _), (16, _), (18, _), (20, _), (22, _), (24, _), (83, _), (84, _), (85, _)]) ⟨rfl, rfl, rfl, rfl, rfl, rfl, rfl, rfl, rfl, rfl, rfl, rfl, rfl, rfl, rfl, rfl, trivial⟩ ?_)
     refine XX.next (V' := [(0, _), (1, _), (2, _), (7, _), (9, _), (10, _), (11, _), (12, _), (16, _), (18, _), (20, _), (22, _), (24, _), (83, _), (84, _), (85, _)]) ⟨rfl, rfl, rfl, rfl, rfl, rfl, rfl, rfl, rfl, rfl, rfl, rfl, rfl, rfl, rfl, rfl, trivial⟩ ?_
     refine CX.region ?_
     refine RX.cons rfl rfl (op_w (yw_move rfl rfl) rfl rfl ?_)
     refine RX.cons rfl rfl (op_w (yw_add rfl rfl rfl (by omega) (by omega)) rfl rfl ?_)
     refine RX.cons rfl rfl (op_w (yw_assign rfl rfl) rfl rfl ?_)
     refine RX.nil (XX.againP ([]) (m + 1) (by omega) (by omega) ⟨rfl, rfl, rfl, rfl, rfl, rfl, rfl, rfl, rfl, rfl, rfl, rfl, rfl, rfl, rfl, rfl, trivial⟩ ((perm_pick 0 rfl).trans (List.Perm.cons _ ((perm_pick 0 rfl).trans (List.Perm.cons _ ((perm_pick 0 rfl).trans (List.Perm.cons _ ((perm_pick 0 rfl).trans (List.Perm.cons _ ((perm_pick 0 rfl).trans (List.Perm.cons _ ((perm_pick 0 rfl).trans (List.Perm.cons _ ((perm_pick 0 rfl).trans (List.Perm.cons _ ((perm_pick 0 rfl).trans (List.Perm.cons _ ((perm_pick 0 rfl).trans (List.Perm.cons _ ((perm_pick 0 rfl).trans (List.Perm.cons _ ((perm_pick 0 rfl).trans (List.Perm.cons _ ((perm_pick 0 rfl).trans (List.Perm.cons _ ((perm_pick 0 rfl).trans (List.Perm.cons _ ((perm_pick 0 rfl).trans (List.Perm.cons _ (List.Perm.refl _))))))))))))))))))))))))))))))
    ·refine CX.exit ?_
     refine XX.then_exit ?_
     refine XX.then_exit ?_
     refine XX.block_exit ?_
     refine XX.next (V' := [(0, _), (1, _), (2, _), (7, _), (9, _), (10, _), (11, _), (12, _), (16, _), (18, _), (83, _), (84, _), (85, _)]) ⟨rfl, rfl, rfl, rfl, rfl, rfl, rfl, rfl, rfl, rfl, rfl, rfl, rfl, trivial⟩ ?_
     refine CX.seq ?_
     refine CX.region ?_
     refine RX.cons rfl rfl (op_w (yw_field0 rfl fld_28_0 rfl) rfl rfl ?_)
     refine RX.cons rfl rfl (op_w (yw_fieldAddr rfl fld_25_1 rfl) rfl rfl ?_)
     refine RX.cons rfl rfl (op_yld (y_load (i := 2) rfl rfl one_3 rfl rfl) rfl rfl ?_)
     refine RX.cons rfl rfl (op_w (yw_add rfl rfl rfl (by omega) (by omega)) rfl rfl ?_)
     refine RX.cons rfl rfl (op_w (yw_field0 rfl fld_28_0 rfl) rfl rfl ?_)
     refine RX.cons rfl rfl (op_w (yw_fieldAddr rfl fld_25_1 rfl) rfl rfl ?_)
     refine RX.cons rfl rfl (op_store1 (i := 2) (cs' := #[.int .i64 (Stm.h ((prA za.2 k0).1.1)), .int .i64 ((Stm.c ((prA za.2 k0).1.1)) + 1), .slice zr.1.1 (List.length (Stm.ls ((prA za.2 k0).1.1))) zr.1.2, .int .i64 ((prA za.2 k0).1.2.1), .int .i64 ((prA za.2 k0).1.2.2), .string ((prA za.2 k0).2.1), .slice zr.2.1 (List.length ((prA za.2 k0).2.2.1 : List ByteArray)) zr.2.2]) rfl rfl rfl rfl szt_3 rfl rfl rfl rfl ?_)
     refine RX.nil (XX.next (V' := [(0, _), (1, _), (2, _), (7, _), (9, _), (10, _), (11, _), (12, _), (16, _), (18, _), (83, _), (84, _), (85, _)]) ⟨rfl, rfl, rfl, rfl, rfl, rfl, rfl, rfl, rfl, rfl, rfl, rfl, rfl, trivial⟩ ?_)
     refine CX.seq ?_
     refine CX.draw 20 [(0, 2048, 45671926166590716193865151022383844364247891968), (1, 45671926166590716193865151022383844364247891968, 91343852333181432387730302044767688728495783936), (0, 65536, 182687704666362864775460604089535377456991567872), (6, 274031556999544297163190906134303066185487351808, 365375409332725729550921208179070754913983135744), (0, 2048, 730750818665451459101842416358141509827966271488), (24, 730750818665451459101842416358141509827966271488, 1461501637330902918203684832716283019655932542976), (0, 65536, 2923003274661805836407369665432566039311865085952), (96, 4384504911992708754611054498148849058967797628928, 5846006549323611672814739330865132078623730171904), (136, 6211381958656337402365660539044202833537713307648, 11692013098647223345629478661730264157247460343808), (384, 11692013098647223345629478661730264157247460343808, 23384026197294446691258957323460528314494920687616), (512, 23384026197294446691258957323460528314494920689664, 46768052394588893382517914646921056628989841375232), (1536, 70152078591883340073776871970381584943484762062848, 93536104789177786765035829293842113257979682750464), (512, 23384026197294446691258957323460528314494920949760, 187072209578355573530071658587684226515959365500928), (6656, 303992340564827806986366445204986868088433968939008, 374144419156711147060143317175368453031918731001856), (512, 23384026197294446691258957323460528314494920689664, 748288838313422294120286634350736906063837462003712), (25088, 771672864510716740811545591674197434378332382691328, 1496577676626844588240573268701473812127674924007424), (512, 23384026197294446691258957323460528314494920949760, 2993155353253689176481146537402947624255349848014848), (98816, 4513117056077828211412978763427881964697519692709888, 5986310706507378352962293074805895248510699696029696), (139776, 6383839151861383946713695349304724229857113347719168, 11972621413014756705924586149611790497021399392059392), (262656, 11996005439212051152615845106935251025335894312747008, 23945242826029513411849172299223580994042798784118784)] (by kernel_rfl) (by kernel_rfl) (by kernel_rfl) ?_
     refine DX.takeW 0 1 (by kernel_rfl) rfl rfl rfl rfl rfl (yw_move rfl rfl) ?_
     refine DX.take 2 5 (by kernel_rfl) rfl rfl rfl rfl rfl (List.Sublist.refl _) (y_loadA (i := 5) rfl rfl agg_28 rfl rfl) ?_
     refine DX.takeW 4 21 (by kernel_rfl) rfl rfl rfl rfl rfl (yw_move rfl rfl) ?_
     refine DX.take 6 85 (by kernel_rfl) rfl rfl rfl rfl rfl (List.Sublist.refl _) (y_loadA (i := 5) rfl rfl agg_28 rfl rfl) ?_
     refine DX.step 1 87 (by kernel_rfl) rfl rfl rfl (op_callV (v := .string (root sum (entsX za.2))) rfl rfl rfl rfl rfl ent_10 (fun w hw => by have h := w_rootR zb.2 (refAt_of (z := zb.1) (Y := zb.2) hw (i := 9) (j := 10) (k := 11) rfl rfl rfl) hYlB (by omega) hokB; rw [entsX_of hzz] at h; exact h) (DXs.mk (List.Sublist.refl _) ?_))
     refine DX.step 3 95 (by kernel_rfl) rfl rfl rfl (op_callV (v := .bool (verL (root sum (entsX za.2)) (prA za.2 k0).1.1 (prA za.2 k0).1.2.1 (prA za.2 k0).1.2.2 (prA za.2 k0).2.1 (prA za.2 k0).2.2.1)) rfl rfl rfl rfl rfl ent_19 (fun w hw => w_logVerifyZ (root sum (entsX za.2)) (prA za.2 k0).1.1 (prA za.2 k0).1.2.1 (prA za.2 k0).1.2.2 (prA za.2 k0).2.1 (prA za.2 k0).2.2.1 zq (hG.keep hw (by simp)) (Ent.rd (hw.ents _ (List.mem_of_getElem? (i := 6) rfl))) hf.1 (Ent.rd (hw.ents _ (List.mem_of_getElem? (i := 7) rfl))) (by have h8 := Ent.capLe (hw.ents _ (List.mem_of_getElem? (i := 7) rfl)); rwa [List.length_map] at h8) hf.2.2.2.1 hf.2.2.2.2) (DXs.mk (List.Sublist.refl _) ?_))
     refine DX.step 5 127 (by kernel_rfl) rfl rfl rfl (op_callV (v := .string (root sum (entsX za.2))) rfl rfl rfl rfl rfl ent_10 (fun w hw => by have h := w_rootR zb.2 (refAt_of (z := zb.1) (Y := zb.2) hw (i := 9) (j := 10) (k := 11) rfl rfl rfl) hYlB (by omega) hokB; rw [entsX_of hzz] at h; exact h) (DXs.mk (List.Sublist.refl _) ?_))
     refine DX.step 7 255 (by kernel_rfl) rfl rfl rfl (op_callV (v := .bool (verL (root sum (entsX za.2)) (prA za.2 k0).1.1 (prA za.2 k0).1.2.1 (prA za.2 k0).1.2.2 (prA za.2 k0).2.1 (prA za.2 k0).2.2.1)) rfl rfl rfl rfl rfl ent_20 (fun w hw => w_verify24 (root sum (entsX za.2)) (prA za.2 k0).1.1 (prA za.2 k0).1.2.1 (prA za.2 k0).1.2.2 (prA za.2 k0).2.1 (prA za.2 k0).2.2.1 zq (Ent.rd (hw.ents _ (List.mem_of_getElem? (i := 6) rfl))) hf.1 (Ent.rd (hw.ents _ (List.mem_of_getElem? (i := 7) rfl))) (by have h8 := Ent.capLe (hw.ents _ (List.mem_of_getElem? (i := 7) rfl)); rwa [List.length_map] at h8) hf.2.2.2.1 hf.2.2.2.2) (DXs.mk (List.Sublist.refl _) ?_))
     refine DX.takeW 8 511 (by kernel_rfl) rfl rfl rfl rfl rfl (yw_bneq rfl Tryz.underlying4 rfl rfl) ?_
     refine DX.know (t := 163) (u := .bool false) rfl (congrArg Value.bool (by simp)) ?_
     refine DX.takeW 9 1023 (by kernel_rfl) rfl rfl rfl rfl rfl (yw_move rfl rfl) ?_
     refine DX.takeWG 10 2047 (by kernel_rfl) rfl rfl rfl rfl rfl rfl rfl rfl (yw_move rfl rfl) ?_
     refine DX.takeG 12 6143 (by kernel_rfl) rfl rfl rfl rfl rfl rfl rfl rfl (List.Sublist.refl _) (y_loadA (i := 2) rfl rfl agg_28 rfl rfl) ?_
     refine DX.takeWG 14 22527 (by kernel_rfl) rfl rfl rfl rfl rfl rfl rfl rfl (yw_move rfl rfl) ?_
     refine DX.takeG 16 88063 (by kernel_rfl) rfl rfl rfl rfl rfl rfl rfl rfl (List.Sublist.refl _) (y_loadA (i := 2) rfl rfl agg_28 rfl rfl) ?_
     refine DX.stepG 11 90111 (by kernel_rfl) rfl rfl rfl rfl rfl rfl (op_callV (v := .string (root sum (entsX za.2))) rfl rfl rfl rfl rfl ent_10 (fun w hw => by have h := w_rootR zb.2 (refAt_of (z := zb.1) (Y := zb.2) hw (i := 9) (j := 10) (k := 11) rfl rfl rfl) hYlB (by omega) hokB; rw [entsX_of hzz] at h; exact h) (DXs.mk (List.Sublist.refl _) ?_))
     refine DX.stepG 13 98303 (by kernel_rfl) rfl rfl rfl rfl rfl rfl (op_callV (v := .bool (verL (root sum (entsX za.2)) (⟨Stm.h (prA za.2 k0).1.1, Stm.c (prA za.2 k0).1.1 + 1, Stm.ls (prA za.2 k0).1.1⟩ : Stm) (prA za.2 k0).1.2.1 (prA za.2 k0).1.2.2 (prA za.2 k0).2.1 (prA za.2 k0).2.2.1)) rfl rfl rfl rfl rfl ent_19 (fun w hw => w_logVerifyZ (root sum (entsX za.2)) (⟨Stm.h (prA za.2 k0).1.1, Stm.c (prA za.2 k0).1.1 + 1, Stm.ls (prA za.2 k0).1.1⟩ : Stm) (prA za.2 k0).1.2.1 (prA za.2 k0).1.2.2 (prA za.2 k0).2.1 (prA za.2 k0).2.2.1 zr (hG.keep hw (by simp)) (Ent.rd (hw.ents _ (List.mem_of_getElem? (i := 3) rfl))) hf.1 (Ent.rd (hw.ents _ (List.mem_of_getElem? (i := 4) rfl))) (by have h8 := Ent.capLe (hw.ents _ (List.mem_of_getElem? (i := 4) rfl)); rwa [List.length_map] at h8) hf.2.2.2.1 hf.2.2.2.2) (DXs.mk (List.Sublist.refl _) ?_))
     refine DX.stepG 15 131071 (by kernel_rfl) rfl rfl rfl rfl rfl rfl (op_callV (v := .string (root sum (entsX za.2))) rfl rfl rfl rfl rfl ent_10 (fun w hw => by have h := w_rootR zb.2 (refAt_of (z := zb.1) (Y := zb.2) hw (i := 9) (j := 10) (k := 11) rfl rfl rfl) hYlB (by omega) hokB; rw [entsX_of hzz] at h; exact h) (DXs.mk (List.Sublist.refl _) ?_))
     refine DX.stepG 17 262143 (by kernel_rfl) rfl rfl rfl rfl rfl rfl (op_callV (v := .bool (verL (root sum (entsX za.2)) (⟨Stm.h (prA za.2 k0).1.1, Stm.c (prA za.2 k0).1.1 + 1, Stm.ls (prA za.2 k0).1.1⟩ : Stm) (prA za.2 k0).1.2.1 (prA za.2 k0).1.2.2 (prA za.2 k0).2.1 (prA za.2 k0).2.2.1)) rfl rfl rfl rfl rfl ent_20 (fun w hw => w_verify24 (root sum (entsX za.2)) (⟨Stm.h (prA za.2 k0).1.1, Stm.c (prA za.2 k0).1.1 + 1, Stm.ls (prA za.2 k0).1.1⟩ : Stm) (prA za.2 k0).1.2.1 (prA za.2 k0).1.2.2 (prA za.2 k0).2.1 (prA za.2 k0).2.2.1 zr (Ent.rd (hw.ents _ (List.mem_of_getElem? (i := 3) rfl))) hf.1 (Ent.rd (hw.ents _ (List.mem_of_getElem? (i := 4) rfl))) (by have h8 := Ent.capLe (hw.ents _ (List.mem_of_getElem? (i := 4) rfl)); rwa [List.length_map] at h8) hf.2.2.2.1 hf.2.2.2.2) (DXs.mk (List.Sublist.refl _) ?_))
     refine DX.takeWG 18 524287 (by kernel_rfl) rfl rfl rfl rfl rfl rfl rfl rfl (yw_bneq rfl Tryz.underlying4 rfl rfl) ?_
     refine DX.know (t := 173) (u := .bool false) rfl (congrArg Value.bool (by simp)) ?_
     refine DX.takeW 19 1048575 (by kernel_rfl) rfl rfl rfl rfl rfl (yw_pickF rfl rfl rfl) ?_
     refine DX.done (by kernel_rfl) (XX.next (V' := [(0, _), (1, _), (2, _), (7, _), (9, _), (10, _), (11, _), (12, _), (83, _), (84, _), (85, _), (174, _)]) ⟨rfl, rfl, rfl, rfl, rfl, rfl, rfl, rfl, rfl, rfl, rfl, rfl, trivial⟩ ?_)
     refine CX.condF rfl ?_
     refine CX.skip (XX.inBlock (V' := [(0, _), (1, _), (2, _), (7, _), (9, _), (10, _), (11, _), (12, _), (83, _), (84, _), (85, _)]) ⟨rfl, rfl, rfl, rfl, rfl, rfl, rfl, rfl, rfl, rfl, rfl, trivial⟩ ?_)
     refine XX.next (V' := [(0, _), (1, _), (2, _), (7, _), (9, _), (10, _), (11, _), (12, _), (83, _), (84, _), (85, _)]) ⟨rfl, rfl, rfl, rfl, rfl, rfl, rfl, rfl, rfl, rfl, rfl, trivial⟩ ?_
     refine CX.region ?_
     refine RX.cons rfl rfl (op_w (yw_add rfl rfl rfl (by omega) (by omega)) rfl rfl ?_)
     refine RX.cons rfl rfl (op_w (yw_move rfl rfl) rfl rfl ?_)
     refine RX.nil (XX.againP ([.row zf.1 zf.2 9 1 (List.map strC ((exA za.2 k0).1)), .row ze.1 ze.2 9 1 (List.map strC ((exA za.2 k0).1)), .blk gb (.cells (#[.int .i64 (Stm.h ((prA za.2 k0).1.1)), .int .i64 ((Stm.c ((prA za.2 k0).1.1)) + 1), .slice zr.1.1 (List.length (Stm.ls ((prA za.2 k0).1.1))) zr.1.2, .int .i64 ((prA za.2 k0).1.2.1), .int .i64 ((prA za.2 k0).1.2.2), .string ((prA za.2 k0).2.1), .slice zr.2.1 (List.length ((prA za.2 k0).2.2.1 : List ByteArray)) zr.2.2]) 28 (0, 0)), .row zr.1.1 zr.1.2 77 3 (List.map lnC (Stm.ls (prA za.2 k0).1.1)), .row zr.2.1 zr.2.2 9 1 (List.map strC ((prA za.2 k0).2.2.1)), .blk ga (.cells (prZ ((prA za.2 k0).1.1) ((prA za.2 k0).1.2.1) ((prA za.2 k0).1.2.2) ((prA za.2 k0).2.1) ((prA za.2 k0).2.2.1) zq) 28 (0, 0)), .row zq.1.1 zq.1.2 77 3 (List.map lnC (Stm.ls (prA za.2 k0).1.1)), .row zq.2.1 zq.2.2 9 1 (List.map strC ((prA za.2 k0).2.2.1))]) (j + 1) (by omega) (by omega) ⟨rfl, rfl, rfl, rfl, rfl, rfl, rfl, rfl, rfl, rfl, rfl, trivial⟩ ((perm_pick 8 rfl).trans (List.Perm.cons _ ((perm_pick 8 rfl).trans (List.Perm.cons _ ((perm_pick 8 rfl).trans (List.Perm.cons _ ((perm_pick 8 rfl).trans (List.Perm.cons _ ((perm_pick 8 rfl).trans (List.Perm.cons _ ((perm_pick 8 rfl).trans (List.Perm.cons _ (List.Perm.refl _))))))))))))))
   ·refine CX.exit ?_
    refine XX.then_exit ?_
    refine XX.then_exit ?_
    refine XX.block_exit ?_
    refine XX.inBlock (V' := [(0, _), (1, _), (2, _), (7, _), (9, _), (10, _), (11, _), (12, _)]) ⟨rfl, rfl, rfl, rfl, rfl, rfl, rfl, rfl, trivial⟩ ?_
    refine XX.next (V' := [(0, _), (1, _), (2, _), (7, _), (9, _), (10, _), (11, _), (12, _)]) ⟨rfl, rfl, rfl, rfl, rfl, rfl, rfl, rfl, trivial⟩ ?_
    refine CX.region ?_
    refine RX.cons rfl rfl (op_w (yw_move rfl rfl) rfl rfl ?_)
    refine RX.cons rfl rfl (op_w (yw_add rfl rfl rfl (by omega) (by omega)) rfl rfl ?_)
    refine RX.cons rfl rfl (op_w (yw_assign rfl rfl) rfl rfl ?_)
    refine RX.nil (XX.againP ([.row (some ⟨ir, 0, none⟩) 3 3 1 (List.map (fun n : Int => #[Value.int .i64 n]) ([n, ((k : Nat) : Int) - 1, ((List.length (zb.2 : List SX) : Nat) : Int)]))]) (i + 1, za.1, za.2, zb.1, zb.2) (by dsimp only; omega) ⟨by dsimp only; omega, by dsimp only; omega, hzz, hal2, hAn⟩ ⟨rfl, rfl, rfl, rfl, rfl, rfl, rfl, rfl, trivial⟩ ((perm_pick 2 rfl).trans (List.Perm.cons _ ((perm_pick 2 rfl).trans (List.Perm.cons _ ((perm_pick 1 rfl).trans (List.Perm.cons _ ((perm_pick 1 rfl).trans (List.Perm.cons _ ((perm_pick 1 rfl).trans (List.Perm.cons _ (List.Perm.refl _))))))))))))
  ·refine CX.exit ?_
   refine XX.then_exit ?_
   refine XX.then_exit ?_
   refine XX.block_exit ?_
   refine XX.next (V' := [(2, _), (7, _), (9, _)]) ⟨rfl, rfl, rfl, trivial⟩ ?_
   refine CX.seq ?_
   refine CX.region ?_
   refine RX.cons rfl rfl (op_buildSlice rfl rfl rfl slb_23 rfl rfl (by intro v hv; simp at hv) (by decide) fun g6 => ?_)
   refine RX.cons rfl rfl (op_w (yw_field0 rfl fld_28_0 rfl) rfl rfl ?_)
   refine RX.cons rfl rfl (op_w (yw_fieldAddr rfl fld_25_2 rfl) rfl rfl ?_)
   refine RX.cons rfl rfl (op_yld (y_load (i := 5) rfl rfl one_23 rfl rfl) rfl rfl ?_)
   refine RX.cons rfl rfl (op_w (yw_field0 rfl fld_28_0 rfl) rfl rfl ?_)
   refine RX.cons rfl rfl (op_w (yw_fieldAddr rfl fld_25_2 rfl) rfl rfl ?_)
   refine RX.cons rfl rfl (op_yld (y_load (i := 5) rfl rfl one_23 rfl rfl) rfl rfl ?_)
   refine RX.cons rfl rfl (op_w (yw_lenS rfl Tryz.underlying23 rfl) rfl rfl ?_)
   refine RX.cons rfl rfl (op_w (yw_min rfl rfl rfl) rfl rfl ?_)
   refine RX.know (t := 184) (u := .int .i64 ((min (Stm.ls sp).length 8 : Nat) : Int)) rfl (congrArg (Value.int .i64) (by omega)) ?_
   refine RX.cons rfl rfl (op_w (yw_sliceTo (k := (min (Stm.ls sp).length 8)) rfl slt_23 rfl rfl (by omega) (by omega)) rfl rfl ?_)
   refine RX.cons rfl rfl (op_appendM0 lnC (i := 0) (xs := []) (List.take 8 (Stm.ls sp)) rfl rfl rfl slb_23 rfl rfl rfl (by rw [List.length_take, Nat.min_comm]) hlr (by simp) (by simp only [List.length_nil]; omega) (by simp only [List.length_nil]; omega) fun A6 c6 => ?_)
   refine RX.cons rfl rfl (op_w (yw_field0 rfl fld_28_0 rfl) rfl rfl ?_)
   refine RX.cons rfl rfl (op_w (yw_fieldAddr rfl fld_25_2 rfl) rfl rfl ?_)
   refine RX.cons rfl rfl (op_store1 (i := 5) (cs' := #[.int .i64 (Stm.h sp), .int .i64 (Stm.c sp), .slice A6 (([] ++ (List.take 8 (Stm.ls sp))).length) c6, .int .i64 ip, .int .i64 np, .string saltp, .slice zp.2.1 (List.length (pathp : List ByteArray)) zp.2.2]) rfl rfl rfl rfl szt_23 rfl rfl rfl rfl ?_)
   refine RX.nil (XX.next (V' := [(2, _), (7, _), (9, _)]) ⟨rfl, rfl, rfl, trivial⟩ ?_)
   refine CX.seq ?_
   refine CX.region ?_
   refine RX.cons rfl rfl (op_buildSlice rfl rfl rfl slb_26 rfl rfl (by intro v hv; simp at hv) (by decide) fun g8 => ?_)
   refine RX.cons rfl rfl (op_w (yw_fieldAddr rfl fld_28_4 rfl) rfl rfl ?_)
   refine RX.cons rfl rfl (op_yld (y_load (i := 6) rfl rfl one_26 rfl rfl) rfl rfl ?_)
   refine RX.cons rfl rfl (op_w (yw_fieldAddr rfl fld_28_4 rfl) rfl rfl ?_)
   refine RX.cons rfl rfl (op_yld (y_load (i := 6) rfl rfl one_26 rfl rfl) rfl rfl ?_)
   refine RX.cons rfl rfl (op_w (yw_lenS rfl Tryz.underlying26 rfl) rfl rfl ?_)
   refine RX.cons rfl rfl (op_w (yw_min rfl rfl rfl) rfl rfl ?_)
   refine RX.know (t := 195) (u := .int .i64 ((min pathp.length 20 : Nat) : Int)) rfl (congrArg (Value.int .i64) (by omega)) ?_
   refine RX.cons rfl rfl (op_w (yw_sliceTo (k := (min pathp.length 20)) rfl slt_26 rfl rfl (by omega) (by omega)) rfl rfl ?_)
   refine RX.cons rfl rfl (op_appendM0 strC (i := 0) (xs := []) (List.take 20 pathp) rfl rfl rfl slb_26 rfl rfl rfl (by rw [List.length_take, Nat.min_comm]) hpr (by simp) (by simp only [List.length_nil]; omega) (by simp only [List.length_nil]; omega) fun A8 c8 => ?_)
   refine RX.cons rfl rfl (op_w (yw_fieldAddr rfl fld_28_4 rfl) rfl rfl ?_)
   refine RX.cons rfl rfl (op_store1 (i := 6) (cs' := #[.int .i64 (Stm.h sp), .int .i64 (Stm.c sp), .slice A6 (([] ++ (List.take 8 (Stm.ls sp))).length) c6, .int .i64 ip, .int .i64 np, .string saltp, .slice A8 (([] ++ (List.take 20 pathp)).length) c8]) rfl rfl rfl rfl szt_26 rfl rfl rfl rfl ?_)
   refine RX.nil (XX.next (V' := [(2, _), (7, _), (9, _)]) ⟨rfl, rfl, rfl, trivial⟩ ?_)
   refine CX.seq ?_
   refine CX.draw 11 [(0, 512, 803469022129495137770981046170581301261101496891396417650688), (1, 803469022129495137770981046170581301261101496891396417650688, 1606938044258990275541962092341162602522202993782792835301376), (2, 1606938044258990275541962092341162602522202993782792835301380, 3213876088517980551083924184682325205044405987565585670602752), (2, 1606938044258990275541962092341162602522202993782792835301504, 6427752177035961102167848369364650410088811975131171341205504), (14, 11248566309812931928793734646388138217655420956479549847109632, 12855504354071922204335696738729300820177623950262342682411008), (2, 1606938044258990275541962092341162602522202993782792835301380, 25711008708143844408671393477458601640355247900524685364822016), (2, 1606938044258990275541962092341162602522202993782792835301504, 51422017416287688817342786954917203280710495801049370729644032), (114, 78739964168690523501556142524716967523587946695356848929767424, 102844034832575377634685573909834406561420991602098741459288064), (146, 117306477230906290114563232740904869984120818546143876977000448, 205688069665150755269371147819668813122841983204197482918576128), (258, 207295007709409745544913109912009975725364186197980275753877504, 411376139330301510538742295639337626245683966408394965837152256), (1023, 411376139330301510538742295639337626245683966408394965837152256, 256)] (by kernel_rfl) (by kernel_rfl) (by kernel_rfl) ?_
   refine DX.takeW 0 1 (by kernel_rfl) rfl rfl rfl rfl rfl (yw_move rfl rfl) ?_
   refine DX.takeW 1 3 (by kernel_rfl) rfl rfl rfl rfl rfl (yw_move rfl rfl) ?_
   refine DX.takeWG 2 7 (by kernel_rfl) rfl rfl rfl rfl rfl rfl rfl rfl (yw_move rfl rfl) ?_
   refine DX.takeG 3 15 (by kernel_rfl) rfl rfl rfl rfl rfl rfl rfl rfl (List.Sublist.refl _) (y_loadA (i := 6) rfl rfl agg_28 rfl rfl) ?_
   refine DX.takeWG 5 47 (by kernel_rfl) rfl rfl rfl rfl rfl rfl rfl rfl (yw_move rfl rfl) ?_
   refine DX.takeG 6 111 (by kernel_rfl) rfl rfl rfl rfl rfl rfl rfl rfl (List.Sublist.refl _) (y_loadA (i := 6) rfl rfl agg_28 rfl rfl) ?_
   refine DX.stepG 4 127 (by kernel_rfl) rfl rfl rfl rfl rfl rfl (op_callV (v := .bool (verL rootp (cutS sp) ip np saltp ([] ++ List.take 20 pathp))) rfl rfl rfl rfl rfl ent_19 (fun w hw => w_logVerifyZ rootp (cutS sp) ip np saltp ([] ++ List.take 20 pathp) (((A6, c6), (A8, c8)) : LZ) (hG.keep hw (by simp)) (Ent.rd (hw.ents _ (List.mem_of_getElem? (i := 1) rfl))) (by have := cutL_short [((none, 0), sp)] 1 (cutS sp) (List.mem_cons_self); omega) (Ent.rd (hw.ents _ (List.mem_of_getElem? (i := 0) rfl))) (by have h8 := Ent.capLe (hw.ents _ (List.mem_of_getElem? (i := 0) rfl)); rwa [List.length_map] at h8) (by rw [List.nil_append, List.length_take]; omega) hnp) (DXs.mk (List.Sublist.refl _) ?_))
   refine DX.stepG 7 255 (by kernel_rfl) rfl rfl rfl rfl rfl rfl (op_callV (v := .bool (verL rootp (cutS sp) ip np saltp ([] ++ List.take 20 pathp))) rfl rfl rfl rfl rfl ent_20 (fun w hw => w_verify24 rootp (cutS sp) ip np saltp ([] ++ List.take 20 pathp) (((A6, c6), (A8, c8)) : LZ) (Ent.rd (hw.ents _ (List.mem_of_getElem? (i := 1) rfl))) (by have := cutL_short [((none, 0), sp)] 1 (cutS sp) (List.mem_cons_self); omega) (Ent.rd (hw.ents _ (List.mem_of_getElem? (i := 0) rfl))) (by have h8 := Ent.capLe (hw.ents _ (List.mem_of_getElem? (i := 0) rfl)); rwa [List.length_map] at h8) (by rw [List.nil_append, List.length_take]; omega) hnp) (DXs.mk (List.Sublist.refl _) ?_))
   refine DX.takeWG 8 511 (by kernel_rfl) rfl rfl rfl rfl rfl rfl rfl rfl (yw_beql rfl Tryz.underlying4 rfl rfl) ?_
   refine DX.know (t := 207) (u := .bool true) rfl (congrArg Value.bool (decide_eq_true rfl)) ?_
   refine DX.takeW 9 1023 (by kernel_rfl) rfl rfl rfl rfl rfl (yw_pickT rfl rfl rfl) ?_
   refine DX.takeW 10 2047 (by kernel_rfl) rfl rfl rfl rfl rfl (yw_assign rfl rfl) ?_
   refine DX.done (by kernel_rfl) (XX.next (V' := [(8, .bool true)]) ⟨rfl, trivial⟩ ?_)
   refine CX.ret ?_
   exact ret_tmp rfl rfl fun w1 hw => ⟨rfl, hw.sub (List.nil_sublist _)⟩
 ·refine RX.skip rfl rfl rfl rfl rfl rfl rfl ?_
  refine RX.skip rfl rfl rfl rfl rfl rfl rfl ?_
  refine RX.cons rfl rfl (op_w (yw_pickF rfl rfl rfl) rfl rfl ?_)
  refine RX.nil (XX.next (V' := [(0, _), (1, _), (2, _), (7, _), (9, _), (10, _), (11, _), (12, _), (36, _)]) ⟨rfl, rfl, rfl, rfl, rfl, rfl, rfl, rfl, rfl, trivial⟩ ?_)
  refine CX.condF rfl ?_
  refine CX.exit ?_
  refine XX.then_exit ?_
  refine XX.then_exit ?_
  refine XX.block_exit ?_
  refine XX.next (V' := [(2, _), (7, _), (9, _)]) ⟨rfl, rfl, rfl, trivial⟩ ?_
  refine CX.seq ?_
  refine CX.region ?_
  refine RX.cons rfl rfl (op_buildSlice rfl rfl rfl slb_23 rfl rfl (by intro v hv; simp at hv) (by decide) fun g6 => ?_)
  refine RX.cons rfl rfl (op_w (yw_field0 rfl fld_28_0 rfl) rfl rfl ?_)
  refine RX.cons rfl rfl (op_w (yw_fieldAddr rfl fld_25_2 rfl) rfl rfl ?_)
  refine RX.cons rfl rfl (op_yld (y_load (i := 5) rfl rfl one_23 rfl rfl) rfl rfl ?_)
  refine RX.cons rfl rfl (op_w (yw_field0 rfl fld_28_0 rfl) rfl rfl ?_)
  refine RX.cons rfl rfl (op_w (yw_fieldAddr rfl fld_25_2 rfl) rfl rfl ?_)
  refine RX.cons rfl rfl (op_yld (y_load (i := 5) rfl rfl one_23 rfl rfl) rfl rfl ?_)
  refine RX.cons rfl rfl (op_w (yw_lenS rfl Tryz.underlying23 rfl) rfl rfl ?_)
  refine RX.cons rfl rfl (op_w (yw_min rfl rfl rfl) rfl rfl ?_)
  refine RX.know (t := 184) (u := .int .i64 ((min (Stm.ls sp).length 8 : Nat) : Int)) rfl (congrArg (Value.int .i64) (by omega)) ?_
  refine RX.cons rfl rfl (op_w (yw_sliceTo (k := (min (Stm.ls sp).length 8)) rfl slt_23 rfl rfl (by omega) (by omega)) rfl rfl ?_)
  refine RX.cons rfl rfl (op_appendM0 lnC (i := 0) (xs := []) (List.take 8 (Stm.ls sp)) rfl rfl rfl slb_23 rfl rfl rfl (by rw [List.length_take, Nat.min_comm]) hlr (by simp) (by simp only [List.length_nil]; omega) (by simp only [List.length_nil]; omega) fun A6 c6 => ?_)
  refine RX.cons rfl rfl (op_w (yw_field0 rfl fld_28_0 rfl) rfl rfl ?_)
  refine RX.cons rfl rfl (op_w (yw_fieldAddr rfl fld_25_2 rfl) rfl rfl ?_)
  refine RX.cons rfl rfl (op_store1 (i := 5) (cs' := #[.int .i64 (Stm.h sp), .int .i64 (Stm.c sp), .slice A6 (([] ++ (List.take 8 (Stm.ls sp))).length) c6, .int .i64 ip, .int .i64 np, .string saltp, .slice zp.2.1 (List.length (pathp : List ByteArray)) zp.2.2]) rfl rfl rfl rfl szt_23 rfl rfl rfl rfl ?_)
  refine RX.nil (XX.next (V' := [(2, _), (7, _), (9, _)]) ⟨rfl, rfl, rfl, trivial⟩ ?_)
  refine CX.seq ?_
  refine CX.region ?_
  refine RX.cons rfl rfl (op_buildSlice rfl rfl rfl slb_26 rfl rfl (by intro v hv; simp at hv) (by decide) fun g8 => ?_)
  refine RX.cons rfl rfl (op_w (yw_fieldAddr rfl fld_28_4 rfl) rfl rfl ?_)
  refine RX.cons rfl rfl (op_yld (y_load (i := 6) rfl rfl one_26 rfl rfl) rfl rfl ?_)
  refine RX.cons rfl rfl (op_w (yw_fieldAddr rfl fld_28_4 rfl) rfl rfl ?_)
  refine RX.cons rfl rfl (op_yld (y_load (i := 6) rfl rfl one_26 rfl rfl) rfl rfl ?_)
  refine RX.cons rfl rfl (op_w (yw_lenS rfl Tryz.underlying26 rfl) rfl rfl ?_)
  refine RX.cons rfl rfl (op_w (yw_min rfl rfl rfl) rfl rfl ?_)
  refine RX.know (t := 195) (u := .int .i64 ((min pathp.length 20 : Nat) : Int)) rfl (congrArg (Value.int .i64) (by omega)) ?_
  refine RX.cons rfl rfl (op_w (yw_sliceTo (k := (min pathp.length 20)) rfl slt_26 rfl rfl (by omega) (by omega)) rfl rfl ?_)
  refine RX.cons rfl rfl (op_appendM0 strC (i := 0) (xs := []) (List.take 20 pathp) rfl rfl rfl slb_26 rfl rfl rfl (by rw [List.length_take, Nat.min_comm]) hpr (by simp) (by simp only [List.length_nil]; omega) (by simp only [List.length_nil]; omega) fun A8 c8 => ?_)
  refine RX.cons rfl rfl (op_w (yw_fieldAddr rfl fld_28_4 rfl) rfl rfl ?_)
  refine RX.cons rfl rfl (op_store1 (i := 6) (cs' := #[.int .i64 (Stm.h sp), .int .i64 (Stm.c sp), .slice A6 (([] ++ (List.take 8 (Stm.ls sp))).length) c6, .int .i64 ip, .int .i64 np, .string saltp, .slice A8 (([] ++ (List.take 20 pathp)).length) c8]) rfl rfl rfl rfl szt_26 rfl rfl rfl rfl ?_)
  refine RX.nil (XX.next (V' := [(2, _), (7, _), (9, _)]) ⟨rfl, rfl, rfl, trivial⟩ ?_)
  refine CX.seq ?_
  refine CX.draw 11 [(0, 512, 803469022129495137770981046170581301261101496891396417650688), (1, 803469022129495137770981046170581301261101496891396417650688, 1606938044258990275541962092341162602522202993782792835301376), (2, 1606938044258990275541962092341162602522202993782792835301380, 3213876088517980551083924184682325205044405987565585670602752), (2, 1606938044258990275541962092341162602522202993782792835301504, 6427752177035961102167848369364650410088811975131171341205504), (14, 11248566309812931928793734646388138217655420956479549847109632, 12855504354071922204335696738729300820177623950262342682411008), (2, 1606938044258990275541962092341162602522202993782792835301380, 25711008708143844408671393477458601640355247900524685364822016), (2, 1606938044258990275541962092341162602522202993782792835301504, 51422017416287688817342786954917203280710495801049370729644032), (114, 78739964168690523501556142524716967523587946695356848929767424, 102844034832575377634685573909834406561420991602098741459288064), (146, 117306477230906290114563232740904869984120818546143876977000448, 205688069665150755269371147819668813122841983204197482918576128), (258, 207295007709409745544913109912009975725364186197980275753877504, 411376139330301510538742295639337626245683966408394965837152256), (1023, 411376139330301510538742295639337626245683966408394965837152256, 256)] (by kernel_rfl) (by kernel_rfl) (by kernel_rfl) ?_
  refine DX.takeW 0 1 (by kernel_rfl) rfl rfl rfl rfl rfl (yw_move rfl rfl) ?_
  refine DX.takeW 1 3 (by kernel_rfl) rfl rfl rfl rfl rfl (yw_move rfl rfl) ?_
  refine DX.takeWG 2 7 (by kernel_rfl) rfl rfl rfl rfl rfl rfl rfl rfl (yw_move rfl rfl) ?_
  refine DX.takeG 3 15 (by kernel_rfl) rfl rfl rfl rfl rfl rfl rfl rfl (List.Sublist.refl _) (y_loadA (i := 6) rfl rfl agg_28 rfl rfl) ?_
  refine DX.takeWG 5 47 (by kernel_rfl) rfl rfl rfl rfl rfl rfl rfl rfl (yw_move rfl rfl) ?_
  refine DX.takeG 6 111 (by kernel_rfl) rfl rfl rfl rfl rfl rfl rfl rfl (List.Sublist.refl _) (y_loadA (i := 6) rfl rfl agg_28 rfl rfl) ?_
  refine DX.stepG 4 127 (by kernel_rfl) rfl rfl rfl rfl rfl rfl (op_callV (v := .bool (verL rootp (cutS sp) ip np saltp ([] ++ List.take 20 pathp))) rfl rfl rfl rfl rfl ent_19 (fun w hw => w_logVerifyZ rootp (cutS sp) ip np saltp ([] ++ List.take 20 pathp) (((A6, c6), (A8, c8)) : LZ) (hG.keep hw (by simp)) (Ent.rd (hw.ents _ (List.mem_of_getElem? (i := 1) rfl))) (by have := cutL_short [((none, 0), sp)] 1 (cutS sp) (List.mem_cons_self); omega) (Ent.rd (hw.ents _ (List.mem_of_getElem? (i := 0) rfl))) (by have h8 := Ent.capLe (hw.ents _ (List.mem_of_getElem? (i := 0) rfl)); rwa [List.length_map] at h8) (by rw [List.nil_append, List.length_take]; omega) hnp) (DXs.mk (List.Sublist.refl _) ?_))
  refine DX.stepG 7 255 (by kernel_rfl) rfl rfl rfl rfl rfl rfl (op_callV (v := .bool (verL rootp (cutS sp) ip np saltp ([] ++ List.take 20 pathp))) rfl rfl rfl rfl rfl ent_20 (fun w hw => w_verify24 rootp (cutS sp) ip np saltp ([] ++ List.take 20 pathp) (((A6, c6), (A8, c8)) : LZ) (Ent.rd (hw.ents _ (List.mem_of_getElem? (i := 1) rfl))) (by have := cutL_short [((none, 0), sp)] 1 (cutS sp) (List.mem_cons_self); omega) (Ent.rd (hw.ents _ (List.mem_of_getElem? (i := 0) rfl))) (by have h8 := Ent.capLe (hw.ents _ (List.mem_of_getElem? (i := 0) rfl)); rwa [List.length_map] at h8) (by rw [List.nil_append, List.length_take]; omega) hnp) (DXs.mk (List.Sublist.refl _) ?_))
  refine DX.takeWG 8 511 (by kernel_rfl) rfl rfl rfl rfl rfl rfl rfl rfl (yw_beql rfl Tryz.underlying4 rfl rfl) ?_
  refine DX.know (t := 207) (u := .bool true) rfl (congrArg Value.bool (decide_eq_true rfl)) ?_
  refine DX.takeW 9 1023 (by kernel_rfl) rfl rfl rfl rfl rfl (yw_pickT rfl rfl rfl) ?_
  refine DX.takeW 10 2047 (by kernel_rfl) rfl rfl rfl rfl rfl (yw_assign rfl rfl) ?_
  refine DX.done (by kernel_rfl) (XX.next (V' := [(8, .bool true)]) ⟨rfl, trivial⟩ ?_)
  refine CX.ret ?_
  exact ret_tmp rfl rfl fun w1 hw => ⟨rfl, hw.sub (List.nil_sublist _)⟩

end Go.Proofs.YtnadipjlhlbfoaaGreatDoor
namespace Go.Proofs.YtnadipjlhlbfoaaGreatDoor
set_option linter.all false
open Go Go.RowKit Go.ChangeShapes Go.WideShapes
section
variable {H : Type} {enc : TypeId × Value → H} {P : Program} {w : World} {base : Nat} {spare : Nat → Bool} {held : Bool}

def isI64 (n : Int) : Prop := -9223372036854775808 ≤ n ∧ n ≤ 9223372036854775807
theorem wf_i64 {n : Int} (h : (Lit.int .i64 n).wf = true) : isI64 n := by
  simpa [Lit.wf, isI64, IntKind.min, IntKind.max, IntKind.bits, IntKind.signed] using h

/-- The cell of a field of a struct. -/
theorem field_at {fs : Array Field} {cs : List Value} {xs : List (DataW H × List MemPlace)} {n i : Nat} {f : Field} (hx : ∀ (i : Nat) (f : Field), fs[i]? = some f → DataW.trod enc P w base spare held n f.type ((cs.drop f.offset).take (P.cellsOf f.type)) = xs[i]?)
    (hl : xs.length = fs.size) (hf : fs[i]? = some f) : ∃ y, DataW.trod enc P w base spare held n f.type ((cs.drop f.offset).take (P.cellsOf f.type)) = some y := by
  have hi : i < xs.length := by rw [hl]; exact (Array.getElem?_eq_some_iff.1 hf).1
  exact ⟨xs[i], (hx i f hf).trans (List.getElem?_eq_getElem hi)⟩
theorem field_int {fs : Array Field} {cs : List Value} {xs : List (DataW H × List MemPlace)} {n i : Nat} {f : Field} (hx : ∀ (i : Nat) (f : Field), fs[i]? = some f → DataW.trod enc P w base spare held n f.type ((cs.drop f.offset).take (P.cellsOf f.type)) = xs[i]?)
    (hl : xs.length = fs.size) (hf : fs[i]? = some f) (ht : P.underlying f.type = some (.int .i64)) (hc : P.cellsOf f.type = 1) : ∃ k, cs[f.offset]? = some (.int .i64 k) ∧ isI64 k := by
  obtain ⟨y, h⟩ := field_at hx hl hf
  obtain ⟨k, h1, _, h3⟩ := DataW.trod_int ht h
  refine ⟨k, ?_, wf_i64 h3⟩
  rw [hc] at h1
  have := congrArg (·[0]?) h1
  simpa using this
theorem field_str {fs : Array Field} {cs : List Value} {xs : List (DataW H × List MemPlace)} {n i : Nat} {f : Field} (hx : ∀ (i : Nat) (f : Field), fs[i]? = some f → DataW.trod enc P w base spare held n f.type ((cs.drop f.offset).take (P.cellsOf f.type)) = xs[i]?)
    (hl : xs.length = fs.size) (hf : fs[i]? = some f) (ht : P.underlying f.type = some .string) (hc : P.cellsOf f.type = 1) : ∃ s : ByteArray, cs[f.offset]? = some (.string s) ∧ s.size ≤ maxLen := by
  obtain ⟨y, h⟩ := field_at hx hl hf
  obtain ⟨s, h1, _, h3⟩ := DataW.trod_string ht h
  refine ⟨s, ?_, h3⟩
  rw [hc] at h1
  have := congrArg (·[0]?) h1
  simpa using this

/-- A slice whose elements are known to be values of a type α under an encoding. -/
theorem open_rows {α : Type} {t e : TypeId} {sz fuel : Nat} (cells : α → Array Value) (good : α → Prop) (d : α) {A : Option Addr} {len cap : Nat} {x : DataW H × List MemPlace} (ht : P.underlying t = some (.slice e)) (hc : P.cellsOf e = sz) (hsz : ∀ x, (cells x).size = sz) (hpos : 0 < sz) (hone : ∀ x, ∀ u ∈ (cells x).toList, u.oneCell' = true)
    (hel : ∀ n cs y, DataW.trod enc P w base spare held n e cs = some y → ∃ x, cs = (cells x).toList ∧ good x)
    (h : DataW.trod enc P w base spare held fuel t (Value.slice A len cap).cells.toList = some x) :
    ∃ xs : List α, len = xs.length ∧ Rd w A sz (xs.map cells) ∧ (∀ x ∈ xs, good x) ∧ xs.length ≤ cap ∧ cap ≤ maxLen := by
  rcases DataW.trod_slice ht h with ⟨h0, _⟩ | ⟨a, len', cap', elems, rest, n, _, h1, _, _, hl, hm, hlen, hat, _, _⟩
  · have e0 : Value.slice A len cap = .slice none 0 0 := by simpa [Value.cells] using h0
    injection e0 with e1 e2 e3
    subst e1; subst e2; subst e3
    exact ⟨[], rfl, Rd.nil _ _ _, by simp, Nat.le_refl _, Nat.zero_le _⟩
  · have e0 : Value.slice A len cap = .slice (some a) len' cap' := by simpa [Value.cells] using h1
    injection e0 with e1 e2 e3
    subst e1; subst e2; subst e3
    have each : ∀ i, i < len → ∃ x : α, w.cells? base (a.add (i * sz)) sz = some (cells x).toList ∧ good x := by
      intro i hi
      have hi' := hat i hi
      rw [List.getElem?_eq_getElem (by omega), hc] at hi'
      obtain ⟨cs, hcs, hy⟩ := Option.bind_eq_some_iff.1 hi'
      obtain ⟨x, rfl, hg⟩ := hel _ _ _ hy
      exact ⟨x, hcs, hg⟩
    obtain ⟨F, hF⟩ := @Go.Deep.choose_lt α ⟨d⟩ len _ each
    refine ⟨(List.range len).map F, by simp, ⟨?_⟩, ?_, by simpa using hl, hm⟩
    · intro k c hk
      rw [List.getElem?_map, List.getElem?_map] at hk
      have hkl : k < len := by
        rcases Nat.lt_or_ge k len with h | h
        · exact h
        · rw [List.getElem?_eq_none (by simpa using h)] at hk; simp at hk
      rw [List.getElem?_range hkl] at hk
      simp only [Option.map_some, Option.some.injEq] at hk
      subst hk
      obtain ⟨_, _, hcell⟩ := World.cells?_some (hF k hkl).1
      have h0 := hcell 0 hpos
      obtain ⟨v, hs0⟩ : ∃ v, (cells (F k)).toList[0]? = some v := ⟨_, List.getElem?_eq_getElem (by rw [Array.length_toList, hsz]; exact hpos)⟩
      rw [hs0] at h0
      obtain ⟨b, off, spot⟩ := a
      have hspot : spot = none := by
        obtain ⟨_, _, hz⟩ := World.cells?_some (hF 0 (by omega)).1
        have hz0 := hz 0 hpos
        obtain ⟨u, hu⟩ : ∃ u, (cells (F 0)).toList[0]? = some u := ⟨_, List.getElem?_eq_getElem (by rw [Array.length_toList, hsz]; exact hpos)⟩
        rw [hu] at hz0
        simpa [Addr.add] using World.cell?_spot hz0
      subst hspot
      refine ⟨hsz _, ⟨b, off, rfl⟩, ?_, hone _, fun j hj => ?_⟩
      · have := World.block_lt_of_cell? w _ h0
        rw [add_none, add_none] at this
        exact this
      · have := hcell j hj
        rw [Array.getElem?_toList, add_none, add_none] at this
        exact this
    · intro x hx
      obtain ⟨k, hk, rfl⟩ := List.mem_map.1 hx
      exact (hF k (by simpa using hk)).2
end

section
variable {H : Type} {enc : TypeId × Value → H} {P : Program} {W W' : World}
theorem trodAll_stays (hl : laidOutB P = true) (hb : Below W.heap.size W W') : ∀ {ts : List TypeId} {vs : List Value} {ds : List (DataW H)} {ps : List MemPlace}, (∀ t ∈ ts, P.readableRec t = true ∧ t < P.types.size) →
    DataW.TrodAll enc P W 0 (fun _ => true) true ts vs ds ps → (∀ x ∈ ps, x.block < W.heap.size) → DataW.TrodAll enc P W' 0 (fun b => decide (b < W.heap.size)) true ts vs ds ps
  | [], [], [], _, _, h, _ => h
  | t :: _, _ :: _, _ :: _, _, ht, ⟨p, q, h1, h2, e⟩, hs =>
    ⟨p, q, Below.trod hl (ht t List.mem_cons_self).1 (ht t List.mem_cons_self).2 h1 hb (fun x hx => hs x (by rw [e]; exact List.mem_append_left _ hx)), trodAll_stays hl hb (fun u hu => ht u (List.mem_cons_of_mem _ hu)) h2 (fun x hx => hs x (by rw [e]; exact List.mem_append_right _ hx)), e⟩

/-- The law's end: it has returned true, and the arguments read as they did. -/
theorem law_post {f : Func} {s : ChangeSpec} {args : Array Value} {ds gs : List (DataW H)} {before : List MemPlace} {tb : TypeId} (hl : laidOutB P = true) (ht : f.params.toList.all (fun t => P.readableRec t && decide (t < P.types.size)) = true)
    (hW : DataW.Whole enc P f.params.toList s.vars false W args.toList ds gs before) (hv : s.vars = []) (hfn : s.fn H (ds ++ gs) = { results := [.lit (.bool true)], args := ds }) (hr : f.resultTypes = #[tb]) (htb : P.underlying tb = some .bool) (hb : Below W.heap.size W W') :
    s.post enc P f false true false false W args (.bool true) W' := by
  have hlt : ∀ x ∈ before, x.block < W.heap.size := fun x hx => hW.lt x hx
  have hW' := hW
  obtain ⟨p, q, hA, hV, he, _, _⟩ := hW'
  refine ⟨ds, gs, before, [], p, [], hW, ?_, ?_, ?_, hb.frame _, fun h => by cases h⟩
  · rw [hfn, hr]
    exact trodAll_mk1 (shut_bool htb _)
  · rw [hfn]
    exact trodAll_stays hl hb (fun t h => by have := List.all_eq_true.1 ht t h; simpa using this) hA (fun x hx => hlt x (by rw [he]; exact List.mem_append_left _ hx))
  · rw [hfn, hv]
    exact rfl
end
end Go.Proofs.YtnadipjlhlbfoaaGreatDoor
namespace Go.Proofs.YtnadipjlhlbfoaaGreatDoor
set_option linter.all false
open Go Go.RowKit Go.ChangeShapes Go.WideShapes
set_option maxRecDepth 100000
theorem c3 : Tryz.prog.cellsOf 3 = 1 := by kernel_rfl
theorem c9 : Tryz.prog.cellsOf 9 = 1 := by kernel_rfl
theorem cLL : Tryz.prog.cellsOf 23 = 1 := by kernel_rfl
theorem cS : Tryz.prog.cellsOf 25 = 3 := by kernel_rfl
theorem cN : Tryz.prog.cellsOf 77 = 3 := by kernel_rfl
theorem cU : Tryz.prog.cellsOf 106 = 1 := by kernel_rfl
theorem cR : Tryz.prog.cellsOf 131 = 64 := by kernel_rfl
theorem laidOut : laidOutB Tryz.prog = true := by kernel_rfl
theorem own : ownKnob Tryz.prog.godebug = none := by kernel_rfl
section
variable {H : Type} {enc : TypeId × Value → H} {w : World} {base : Nat} {spare : Nat → Bool} {held : Bool}
theorem open_slice {t e : TypeId} {fuel : Nat} {cs : List Value} {x : DataW H × List MemPlace} (ht : Tryz.prog.underlying t = some (.slice e)) (h : DataW.trod enc Tryz.prog w base spare held fuel t cs = some x) : ∃ (A : Option Addr) (len cap : Nat), cs = (Value.slice A len cap).cells.toList := by
  rcases DataW.trod_slice ht h with ⟨h0, _⟩ | ⟨a, len', cap', elems, rest, n, _, h1, _⟩
  · exact ⟨none, 0, 0, h0⟩
  · exact ⟨some a, len', cap', h1⟩
theorem field_slice {e : TypeId} {fs : Array Field} {cs : List Value} {xs : List (DataW H × List MemPlace)} {n i : Nat} {f : Field} (hx : ∀ (i : Nat) (f : Field), fs[i]? = some f → DataW.trod enc Tryz.prog w base spare held n f.type ((cs.drop f.offset).take (Tryz.prog.cellsOf f.type)) = xs[i]?)
    (hl : xs.length = fs.size) (hf : fs[i]? = some f) (ht : Tryz.prog.underlying f.type = some (.slice e)) (hc : Tryz.prog.cellsOf f.type = 1) : ∃ (A : Option Addr) (len cap : Nat) (y : DataW H × List MemPlace), cs[f.offset]? = some (.slice A len cap) ∧ DataW.trod enc Tryz.prog w base spare held n f.type (Value.slice A len cap).cells.toList = some y := by
  obtain ⟨y, h⟩ := field_at hx hl hf
  obtain ⟨A, len, cap, e1⟩ := open_slice ht h
  refine ⟨A, len, cap, y, ?_, by rw [← e1]; exact h⟩
  rw [hc] at e1
  have := congrArg (·[0]?) e1
  simpa [Value.cells] using this
theorem open_ln (n : Nat) (cs : List Value) (y : DataW H × List MemPlace) (h : DataW.trod enc Tryz.prog w base spare held n 77 cs = some y) : ∃ f : Ln, cs = (lnC f).toList ∧ True := by
  obtain ⟨xs, m, _, _, hlen, hxl, hx⟩ := DataW.trod_struct Tryz.underlying77 h
  rw [cN] at hlen
  obtain ⟨k0, e0, _⟩ := field_int (i := 0) hx hxl rfl Tryz.underlying3 c3
  obtain ⟨k1, e1, _⟩ := field_int (i := 1) hx hxl rfl Tryz.underlying3 c3
  obtain ⟨k2, e2, _⟩ := field_int (i := 2) hx hxl rfl Tryz.underlying3 c3
  refine ⟨⟨k0, k1, k2⟩, List.ext_getElem? fun i => ?_, trivial⟩
  match i with
  | 0 => exact e0.trans rfl
  | 1 => exact e1.trans rfl
  | 2 => exact e2.trans rfl
  | i + 3 => rw [List.getElem?_eq_none (by omega), List.getElem?_eq_none (by simp)]
/-- What is known of a statement that is read. -/
def Good (w : World) (x : SX) : Prop := Rd w x.1.1 3 (x.2.ls.map lnC) ∧ x.2.ls.length ≤ x.1.2 ∧ x.2.ls.length ≤ 9223372036854775807
theorem open_stm (n : Nat) (cs : List Value) (y : DataW H × List MemPlace) (h : DataW.trod enc Tryz.prog w base spare held n 25 cs = some y) : ∃ x : SX, cs = (stC x).toList ∧ Good w x := by
  obtain ⟨xs, m, _, _, hlen, hxl, hx⟩ := DataW.trod_struct Tryz.underlying25 h
  rw [cS] at hlen
  obtain ⟨k0, e0, _⟩ := field_int (i := 0) hx hxl rfl Tryz.underlying3 c3
  obtain ⟨k1, e1, _⟩ := field_int (i := 1) hx hxl rfl Tryz.underlying3 c3
  obtain ⟨A, len, cap, y2, e2, h2⟩ := field_slice (i := 2) hx hxl rfl Tryz.underlying23 cLL
  obtain ⟨ls, rfl, hr, _, hc, hm⟩ := open_rows (fun x : Ln => lnC x) (fun _ => True) ⟨0, 0, 0⟩ Tryz.underlying23 cN (fun _ => rfl) (by decide) (fun x u hu => by simp at hu; rcases hu with rfl | rfl | rfl <;> rfl) open_ln h2
  refine ⟨((A, cap), ⟨k0, k1, ls⟩), List.ext_getElem? fun i => ?_, hr, hc, Nat.le_trans hc (Nat.le_trans hm (by decide))⟩
  match i with
  | 0 => exact e0.trans rfl
  | 1 => exact e1.trans rfl
  | 2 => exact e2.trans rfl
  | i + 3 => rw [List.getElem?_eq_none (by omega), List.getElem?_eq_none (by simp)]
theorem open_stms {b0 : Nat} {v : Value} {d : DataW H} {ps : List MemPlace} (hv : Value.okWide Tryz.prog w .any b0 33 v) (h : DataW.Trod enc Tryz.prog w base spare held 33 v d ps) :
    ∃ (A : Option Addr) (cap : Nat) (X : List SX), v = .slice A X.length cap ∧ Rd w A 3 (X.map stC) ∧ (∀ x ∈ X, Rd w x.1.1 3 (x.2.ls.map lnC)) ∧ (∀ x ∈ X, x.2.ls.length ≤ x.1.2) ∧ X.length ≤ 9223372036854775807 ∧ ∀ x ∈ X, x.2.ls.length ≤ 9223372036854775807 := by
  obtain ⟨A, len, cap, rfl⟩ := okWide_slice Tryz.underlying33 hv
  obtain ⟨fuel, hf⟩ := h
  obtain ⟨X, rfl, hr, hg, h1, h2⟩ := open_rows (fun x : SX => stC x) (Good w) ((none, 0), ⟨0, 0, []⟩) Tryz.underlying33 cS (fun _ => rfl) (by decide) (fun x u hu => by simp at hu; rcases hu with rfl | rfl | rfl <;> rfl) open_stm hf
  exact ⟨A, cap, X, rfl, hr, fun x hx => (hg x hx).1, fun x hx => (hg x hx).2.1, Nat.le_trans h1 (Nat.le_trans h2 (by decide)), fun x hx => (hg x hx).2.2⟩
theorem open_one {b0 : Nat} {v : Value} {d : DataW H} {ps : List MemPlace} (hv : Value.okWide Tryz.prog w .any b0 25 v) (h : DataW.Trod enc Tryz.prog w base spare held 25 v d ps) :
    ∃ x : SX, v = .agg (stC x) ∧ Rd w x.1.1 3 (x.2.ls.map lnC) ∧ x.2.ls.length ≤ x.1.2 ∧ x.2.ls.length ≤ 9223372036854775807 := by
  obtain ⟨fuel, hf⟩ := h
  obtain ⟨x, e, hg⟩ := open_stm _ _ _ hf
  obtain ⟨cs, rfl, _⟩ := okWide_struct Tryz.underlying25 hv
  refine ⟨x, ?_, hg⟩
  have e' : cs.toList = (stC x).toList := by simpa [Value.cells] using e
  rw [Array.toList_inj.1 e']
theorem open_string {b0 : Nat} {v : Value} {d : DataW H} {ps : List MemPlace} (hv : Value.okWide Tryz.prog w .any b0 9 v) (h : DataW.Trod enc Tryz.prog w base spare held 9 v d ps) : ∃ s : ByteArray, v = .string s ∧ s.size ≤ 9223372036854775807 := by
  obtain ⟨fuel, hf⟩ := h
  obtain ⟨s, e, _, h3⟩ := DataW.trod_string Tryz.underlying9 hf
  have := okWide_string Tryz.underlying9 hv
  obtain ⟨s', rfl⟩ := this
  have e' : s' = s := by simpa [Value.cells] using e
  subst e'
  exact ⟨s', rfl, Nat.le_trans h3 (by decide)⟩
theorem cTL : Tryz.prog.cellsOf 33 = 1 := by kernel_rfl
theorem cTS : Tryz.prog.cellsOf 26 = 1 := by kernel_rfl
theorem cTP : Tryz.prog.cellsOf 28 = 7 := by kernel_rfl
theorem open_group (n : Nat) (cs : List Value) (y : DataW H × List MemPlace) (h : DataW.trod enc Tryz.prog w base spare held n 33 cs = some y) : ∃ g : GX, cs = (grC g).toList ∧ GrAt w g := by
  obtain ⟨A, len, cap, rfl⟩ := open_slice Tryz.underlying33 h
  obtain ⟨X, rfl, hr, hg, h1, h2⟩ := open_rows (fun x : SX => stC x) (Good w) ((none, 0), ⟨0, 0, []⟩) Tryz.underlying33 cS (fun _ => rfl) (by decide) (fun x u hu => by simp at hu; rcases hu with rfl | rfl | rfl <;> rfl) open_stm h
  exact ⟨((A, cap), X), rfl, hr, fun x hx => (hg x hx).1, fun x hx => (hg x hx).2.1, Nat.le_trans h1 (Nat.le_trans h2 (by decide)), fun x hx => (hg x hx).2.2⟩
theorem open_groups {b0 : Nat} {v : Value} {d : DataW H} {ps : List MemPlace} (hv : Value.okWide Tryz.prog w .any b0 22 v) (h : DataW.Trod enc Tryz.prog w base spare held 22 v d ps) :
    ∃ (A : Option Addr) (cap : Nat) (XS : List GX), v = .slice A XS.length cap ∧ Rd w A 1 (XS.map grC) ∧ (∀ g ∈ XS, GrAt w g) ∧ XS.length ≤ 9223372036854775807 := by
  obtain ⟨A, len, cap, rfl⟩ := okWide_slice Tryz.underlying22 hv
  obtain ⟨fuel, hf⟩ := h
  obtain ⟨XS, rfl, hr, hg, h1, h2⟩ := open_rows (fun g : GX => grC g) (GrAt w) ((none, 0), []) Tryz.underlying22 cTL (fun _ => rfl) (by decide) (fun g u hu => by simp at hu; subst hu; rfl) open_group hf
  exact ⟨A, cap, XS, rfl, hr, hg, Nat.le_trans h1 (Nat.le_trans h2 (by decide))⟩
theorem open_str (n : Nat) (cs : List Value) (y : DataW H × List MemPlace) (h : DataW.trod enc Tryz.prog w base spare held n 9 cs = some y) : ∃ s : ByteArray, cs = (strC s).toList ∧ True := by
  obtain ⟨s, e, _, _⟩ := DataW.trod_string Tryz.underlying9 h
  exact ⟨s, e, trivial⟩
theorem open_proof {b0 : Nat} {v : Value} {d : DataW H} {ps : List MemPlace} (hv : Value.okWide Tryz.prog w .any b0 28 v) (h : DataW.Trod enc Tryz.prog w base spare held 28 v d ps) :
    ∃ (s : Stm) (i n : Int) (salt : ByteArray) (path : List ByteArray) (z : LZ), v = .agg (prZ s i n salt path z) ∧ Rd w z.1.1 3 (s.ls.map lnC) ∧ s.ls.length ≤ z.1.2 ∧ s.ls.length ≤ 9223372036854775807 ∧ Rd w z.2.1 1 (path.map strC) ∧ path.length ≤ z.2.2 ∧ path.length ≤ 9223372036854775807 ∧ n ≤ 9223372036854775807 := by
  obtain ⟨fuel, hf⟩ := h
  obtain ⟨cs, rfl, _⟩ := okWide_struct Tryz.underlying28 hv
  obtain ⟨xs, m, _, _, hlen, hxl, hx⟩ := DataW.trod_struct Tryz.underlying28 hf
  rw [cTP] at hlen
  obtain ⟨y0, h0⟩ : ∃ y, DataW.trod enc Tryz.prog w base spare held m 25 (((Value.agg cs).cells.toList.drop 0).take (Tryz.prog.cellsOf 25)) = some y := field_at (i := 0) hx hxl rfl
  obtain ⟨x, ex, hg⟩ := open_stm _ _ _ h0
  obtain ⟨k1, e1, _⟩ := field_int (i := 1) hx hxl rfl Tryz.underlying3 c3
  obtain ⟨k2, e2, hk2⟩ := field_int (i := 2) hx hxl rfl Tryz.underlying3 c3
  obtain ⟨y3, h3⟩ : ∃ y, DataW.trod enc Tryz.prog w base spare held m 9 (((Value.agg cs).cells.toList.drop 5).take (Tryz.prog.cellsOf 9)) = some y := field_at (i := 3) hx hxl rfl
  obtain ⟨salt, es, _⟩ := open_str _ _ _ h3
  obtain ⟨A, len, cap, y4, e4, h4⟩ := field_slice (i := 4) hx hxl rfl Tryz.underlying26 cTS
  obtain ⟨path, rfl, hr, _, hc, hm⟩ := open_rows (fun s : ByteArray => strC s) (fun _ => True) .empty Tryz.underlying26 c9 (fun _ => rfl) (by decide) (fun s u hu => by simp at hu; subst hu; rfl) open_str h4
  rw [cS] at ex
  rw [c9] at es
  refine ⟨x.2, k1, k2, salt, path, (x.1, (A, cap)), ?_, hg.1, hg.2.1, hg.2.2, hr, hc, Nat.le_trans hc (Nat.le_trans hm (by decide)), hk2.2⟩
  have g0 := congrArg (·[0]?) ex
  have g1 := congrArg (·[1]?) ex
  have g2 := congrArg (·[2]?) ex
  have g5 := congrArg (·[0]?) es
  refine congrArg Value.agg (Array.toList_inj.1 (List.ext_getElem? fun i => ?_))
  match i with
  | 0 => simpa [List.getElem?_take, List.getElem?_drop, Value.cells] using g0
  | 1 => simpa [List.getElem?_take, List.getElem?_drop, Value.cells] using g1
  | 2 => simpa [List.getElem?_take, List.getElem?_drop, Value.cells] using g2
  | 3 => exact e1.trans rfl
  | 4 => exact e2.trans rfl
  | 5 => simpa [List.getElem?_take, List.getElem?_drop, Value.cells] using g5
  | 6 => exact e4.trans rfl
  | i + 7 => rw [List.getElem?_eq_none (by simp [Value.cells] at hlen ⊢; omega), List.getElem?_eq_none (by simp)]
end
def laid : List (String × DataW Unit) := [("royalty/digest.round", Rows.laid_royalty_digest_round)]
theorem gL : Tryz.prog.globalNamed "royalty/digest.round" = some 0 := by kernel_rfl
theorem tL : (Tryz.prog.globals[0]?).map (·.type) = some 131 := by kernel_rfl
theorem door_met (os : Os) (args : Array Value) : laidMetH Tryz.prog laid ((World.doorLaid Tryz.prog 400 os).forCall (fun _ _ => 0) ⟨#[], args, []⟩).memory :=
  laidMetH_of_parts3 (fuel := 8) (laidMet_of_run' 8 (by kernel_rfl) (by kernel_rfl)) (by kernel_rfl) (by kernel_rfl)
theorem laid_words {H : Type} : (Rows.laid_royalty_digest_round : DataW H) = .agg (roundsK.map fun x => .lit (.int .u32 ((x.toNat : Nat) : Int))) := rfl
theorem rounds_of_laid {W : World} (h : laidMetH Tryz.prog laid W) : Rounds W := by
  rw [MakeChecks.laidMetH_plain _ _ _ (by kernel_rfl)] at h
  obtain ⟨ps, ⟨g0, t0, cs0, f0, p0, q0, hg0, ht0, hv0, hd0, _, _⟩, _, _⟩ := h
  obtain rfl := Option.some.inj (gL.symm.trans hg0)
  obtain rfl := Option.some.inj (tL.symm.trans ht0)
  obtain ⟨xs, m1, _, hx1, hlen, hn, hel⟩ := DataW.trod_array Tryz.underlying131 hd0
  simp only [Prod.mk.injEq, laid_words, DataW.agg.injEq] at hx1
  intro k x hk
  rw [World.var?_cell hg0 hv0]
  have hkl := (List.getElem?_eq_some_iff.1 hk).1
  have hk' : k < xs.length := by rw [hn]; exact hkl
  have hek := hel k (by rw [← hn]; exact hk')
  rw [cU] at hek
  rw [List.getElem?_eq_getElem hk'] at hek
  obtain ⟨v, e1, e2, _⟩ := DataW.trod_int Tryz.underlying106 hek
  have hval : (xs.map (·.1))[k]? = some (.lit (.int .u32 v)) := by rw [List.getElem?_map, List.getElem?_eq_getElem hk', Option.map_some, e2]
  rw [← hx1.1, List.getElem?_map, hk] at hval
  simp only [Option.map_some, Option.some.injEq, DataW.lit.injEq, Lit.int.injEq, true_and] at hval
  have hc : cs0[k * 1]? = some (.int .u32 v) := by
    have := congrArg (·[0]?) e1
    simpa using this
  rw [Nat.mul_one] at hc
  rw [hc, ← hval]
end Go.Proofs.YtnadipjlhlbfoaaGreatDoor
