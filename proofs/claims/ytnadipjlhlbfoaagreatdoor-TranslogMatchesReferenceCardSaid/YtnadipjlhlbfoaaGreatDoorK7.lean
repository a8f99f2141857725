/- Walks, printed by a program. Numbers as bytes: the plain side of PutInt. Walks, printed by a program. Walks, printed by a program. Statements and their encodings: the plain side. Walks, printed by a program. -/
import Derived.Test.YtnadipjlhlbfoaaGreatDoorK6
import Derived.Test.YtnadipjlhlbfoaaGreatDoorK5
namespace Go.Proofs.YtnadipjlhlbfoaaGreatDoor
set_option linter.all false
open Go Go.RowKit
set_option maxRecDepth 100000
set_option maxRecDepth 100000 in
set_option maxHeartbeats 2000000 in
theorem w_verX {w : World} {A : Option Addr} {cap : Nat} (old : ByteArray) (m : Nat) (root : ByteArray) (n : Nat) (p : List ByteArray) (hG : Rounds w) (hr : Rd w A 1 (p.map strC)) (hcap : p.length ≤ cap) (hl : p.length ≤ 1099511627776) (hn : n ≤ 9223372036854775807) (hmn : m ≤ n) (hall : ∀ x ∈ p, x.size = 32) (ho : old.size = 32) (hro : root.size = 32) :
    Calls Tryz.prog 23 #[.string old, .int .i64 ((m : Nat) : Int), .string root, .int .i64 ((n : Nat) : Int), .slice A p.length cap] w (fun e w' => e = .returned (.bool (verX old m root n p)) ∧ SL w [] w' []) := by
 refine calls_of_CXM (O := []) (L := []) (args := [.string old, .int .i64 ((m : Nat) : Int), .string root, .int .i64 ((n : Nat) : Int), .slice A p.length cap]) Tryz.func23 rfl (by simp [Tryz.ntmps23]) (SL.refl w) ?_
 refine CX.sub (V' := [(0, .string old), (1, .int .i64 ((m : Nat) : Int)), (2, .string root), (3, .int .i64 ((n : Nat) : Int)), (4, .slice A p.length cap)]) ⟨rfl, rfl, rfl, rfl, rfl, trivial⟩ ?_
 refine CX.seq ?_
 refine CX.region ?_
 refine RX.cons rfl rfl (op_w (yw_assign rfl rfl) rfl rfl ?_)
 refine RX.nil (XX.next (V' := [(0, _), (1, _), (2, _), (3, _), (4, _), (10, .bool false)]) ⟨rfl, rfl, rfl, rfl, rfl, rfl, trivial⟩ ?_)
 refine CX.seq ?_
 refine CX.block ?_
 refine CX.seq ?_
 refine CX.region ?_
 refine RX.cons rfl rfl (op_w (yw_move rfl rfl) rfl rfl ?_)
 refine RX.cons rfl rfl (op_w (yw_lss rfl rfl rfl) rfl rfl ?_)
 refine RX.cons rfl rfl (op_w (yw_move rfl rfl) rfl rfl ?_)
 refine RX.splitD (t := 24) (p := ((m : Nat) : Int) < 0) rfl (fun d24 => ?_) (fun d24 => ?_)
 ·exfalso; omega
 ·refine RX.consG rfl rfl rfl rfl rfl (op_w (yw_move rfl rfl) rfl rfl ?_)
  refine RX.consG rfl rfl rfl rfl rfl (op_w (yw_move rfl rfl) rfl rfl ?_)
  refine RX.consG rfl rfl rfl rfl rfl (op_w (yw_gtr rfl rfl rfl) rfl rfl ?_)
  refine RX.cons rfl rfl (op_w (yw_pickF rfl rfl rfl) rfl rfl ?_)
  refine RX.cons rfl rfl (op_w (yw_move rfl rfl) rfl rfl ?_)
  refine RX.splitD (t := 29) (p := ((n : Nat) : Int) < ((m : Nat) : Int)) rfl (fun d29 => ?_) (fun d29 => ?_)
  ·exfalso; omega
  ·refine RX.consG rfl rfl rfl rfl rfl (op_w (yw_move rfl rfl) rfl rfl ?_)
   refine RX.consG rfl rfl rfl rfl rfl (op_callV (v := .bool (decide (∀ x ∈ p, ByteArray.size x = 32))) rfl rfl rfl rfl rfl ent_45 (fun w hw => w_all p (hw.rd hr (by simp)) (by omega)) ?_)
   refine RX.consG rfl rfl rfl rfl rfl (op_w (yw_notD rfl rfl) rfl rfl ?_)
   refine RX.cons rfl rfl (op_w (yw_pickF rfl rfl rfl) rfl rfl ?_)
   refine RX.cons rfl rfl (op_w (yw_move rfl rfl) rfl rfl ?_)
   refine RX.splitD (t := 34) (p := ¬ (∀ x ∈ p, ByteArray.size x = 32)) rfl (fun d34 => ?_) (fun d34 => ?_)
   ·exact absurd hall d34
   ·refine RX.consG rfl rfl rfl rfl rfl (op_w (yw_move rfl rfl) rfl rfl ?_)
    refine RX.consG rfl rfl rfl rfl rfl (op_callV (v := .bool (decide (((ByteArray.size old : Nat) : Int) = 32))) rfl rfl rfl rfl rfl ent_46 (fun w hw => w_isDigest old) ?_)
    refine RX.consG rfl rfl rfl rfl rfl (op_w (yw_notD rfl rfl) rfl rfl ?_)
    refine RX.cons rfl rfl (op_w (yw_pickF rfl rfl rfl) rfl rfl ?_)
    refine RX.cons rfl rfl (op_w (yw_move rfl rfl) rfl rfl ?_)
    refine RX.splitD (t := 39) (p := ¬ (((ByteArray.size old : Nat) : Int) = 32)) rfl (fun d39 => ?_) (fun d39 => ?_)
    ·exact absurd (by omega) d39
    ·refine RX.consG rfl rfl rfl rfl rfl (op_w (yw_move rfl rfl) rfl rfl ?_)
     refine RX.consG rfl rfl rfl rfl rfl (op_callV (v := .bool (decide (((ByteArray.size root : Nat) : Int) = 32))) rfl rfl rfl rfl rfl ent_46 (fun w hw => w_isDigest root) ?_)
     refine RX.consG rfl rfl rfl rfl rfl (op_w (yw_notD rfl rfl) rfl rfl ?_)
     refine RX.cons rfl rfl (op_w (yw_pickF rfl rfl rfl) rfl rfl ?_)
     refine RX.cons rfl rfl (op_w (yw_assign rfl rfl) rfl rfl ?_)
     refine RX.nil (XX.next (V' := [(0, _), (1, _), (2, _), (3, _), (4, _), (10, .bool false), (21, _), (22, _), (23, _), (24, _), (25, _), (26, _), (27, _), (28, _), (29, _), (30, _), (31, _), (32, _), (33, _), (34, _), (35, _), (36, _), (37, _), (38, _), (39, _), (40, _), (41, _), (42, _), (43, _)]) ⟨rfl, rfl, rfl, rfl, rfl, rfl, rfl, rfl, rfl, rfl, rfl, rfl, rfl, rfl, rfl, rfl, rfl, rfl, rfl, rfl, rfl, rfl, rfl, rfl, rfl, rfl, rfl, rfl, rfl, trivial⟩ ?_)
     refine CX.condD (p := ¬ (((ByteArray.size root : Nat) : Int) = 32)) rfl (fun c21 => ?_) (fun c21 => ?_)
     ·exact absurd (by omega) c21
     ·refine CX.seq ?_
      refine CX.region ?_
      refine RX.cons rfl rfl (op_w (yw_move rfl rfl) rfl rfl ?_)
      refine RX.cons rfl rfl (op_w (yw_eql rfl rfl rfl) rfl rfl ?_)
      refine RX.cons rfl rfl (op_w (yw_assign rfl rfl) rfl rfl ?_)
      refine RX.nil (XX.next (V' := [(0, _), (1, _), (2, _), (3, _), (4, _), (10, .bool false), (21, _), (22, _), (23, _), (24, _), (25, _), (26, _), (27, _), (28, _), (29, _), (30, _), (31, _), (32, _), (33, _), (34, _), (35, _), (36, _), (37, _), (38, _), (39, _), (40, _), (41, _), (42, _), (43, _), (44, _), (45, _), (46, _)]) ⟨rfl, rfl, rfl, rfl, rfl, rfl, rfl, rfl, rfl, rfl, rfl, rfl, rfl, rfl, rfl, rfl, rfl, rfl, rfl, rfl, rfl, rfl, rfl, rfl, rfl, rfl, rfl, rfl, rfl, rfl, rfl, rfl, trivial⟩ ?_)
      refine CX.condD (p := ((m : Nat) : Int) = 0) rfl (fun c44 => ?_) (fun c44 => ?_)
      ·refine CX.seq ?_
       refine CX.region ?_
       refine RX.cons rfl rfl (op_w (yw_move rfl rfl) rfl rfl ?_)
       refine RX.cons rfl rfl (op_w (yw_lenS rfl Tryz.underlying26 rfl) rfl rfl ?_)
       refine RX.cons rfl rfl (op_w (yw_eql rfl rfl rfl) rfl rfl ?_)
       refine RX.cons rfl rfl (op_w (yw_move rfl rfl) rfl rfl ?_)
       refine RX.splitD (t := 50) (p := ((p.length : Nat) : Int) = 0) rfl (fun d50 => ?_) (fun d50 => ?_)
       ·refine RX.consG rfl rfl rfl rfl rfl (op_w (yw_move rfl rfl) rfl rfl ?_)
        refine RX.consG rfl rfl rfl rfl rfl (op_callV (v := .string (sum .empty)) rfl rfl rfl rfl rfl ent_43 (fun w hw => w_sum .empty (hG.keep hw (by simp)) (by decide)) ?_)
        refine RX.consG rfl rfl rfl rfl rfl (op_w (yw_streq rfl rfl rfl) rfl rfl ?_)
        refine RX.cons rfl rfl (op_w (yw_pickT rfl rfl rfl) rfl rfl ?_)
        refine RX.cons rfl rfl (op_w (yw_assign rfl rfl) rfl rfl ?_)
        refine RX.nil (XX.next (V' := [(10, .bool (decide (ByteArray.toList old = ByteArray.toList (sum .empty))))]) ⟨rfl, trivial⟩ ?_)
        refine CX.ret ?_
        refine XX.block_ret ?_
        refine XX.then_ret ?_
        exact ret_tmpM0 rfl rfl fun w1 hw => ⟨by rw [verX, if_pos (by omega), decide_eq_true (show p.length = 0 by omega), Bool.true_and], hw.sub (List.nil_sublist _)⟩
       ·refine RX.skip rfl rfl rfl rfl rfl rfl rfl ?_
        refine RX.skip rfl rfl rfl rfl rfl rfl rfl ?_
        refine RX.skip rfl rfl rfl rfl rfl rfl rfl ?_
        refine RX.cons rfl rfl (op_w (yw_pickF rfl rfl rfl) rfl rfl ?_)
        refine RX.cons rfl rfl (op_w (yw_assign rfl rfl) rfl rfl ?_)
        refine RX.nil (XX.next (V' := [(10, .bool false)]) ⟨rfl, trivial⟩ ?_)
        refine CX.ret ?_
        refine XX.block_ret ?_
        refine XX.then_ret ?_
        exact ret_tmpM0 rfl rfl fun w1 hw => ⟨by rw [verX, if_pos (by omega), decide_eq_false (show ¬ p.length = 0 by omega), Bool.false_and], hw.sub (List.nil_sublist _)⟩
      ·refine CX.seq ?_
       refine CX.region ?_
       refine RX.cons rfl rfl (op_w (yw_move rfl rfl) rfl rfl ?_)
       refine RX.cons rfl rfl (op_w (yw_move rfl rfl) rfl rfl ?_)
       refine RX.cons rfl rfl (op_w (yw_eql rfl rfl rfl) rfl rfl ?_)
       refine RX.cons rfl rfl (op_w (yw_assign rfl rfl) rfl rfl ?_)
       refine RX.nil (XX.next (V' := [(0, _), (1, _), (2, _), (3, _), (4, _), (10, .bool false), (21, _), (22, _), (23, _), (24, _), (25, _), (26, _), (27, _), (28, _), (29, _), (30, _), (31, _), (32, _), (33, _), (34, _), (35, _), (36, _), (37, _), (38, _), (39, _), (40, _), (41, _), (42, _), (43, _), (44, _), (45, _), (46, _), (55, _), (56, _), (57, _), (58, _)]) ⟨rfl, rfl, rfl, rfl, rfl, rfl, rfl, rfl, rfl, rfl, rfl, rfl, rfl, rfl, rfl, rfl, rfl, rfl, rfl, rfl, rfl, rfl, rfl, rfl, rfl, rfl, rfl, rfl, rfl, rfl, rfl, rfl, rfl, rfl, rfl, rfl, trivial⟩ ?_)
       refine CX.condD (p := ((m : Nat) : Int) = ((n : Nat) : Int)) rfl (fun c55 => ?_) (fun c55 => ?_)
       ·refine CX.seq ?_
        refine CX.region ?_
        refine RX.cons rfl rfl (op_w (yw_move rfl rfl) rfl rfl ?_)
        refine RX.cons rfl rfl (op_w (yw_lenS rfl Tryz.underlying26 rfl) rfl rfl ?_)
        refine RX.cons rfl rfl (op_w (yw_eql rfl rfl rfl) rfl rfl ?_)
        refine RX.cons rfl rfl (op_w (yw_move rfl rfl) rfl rfl ?_)
        refine RX.splitD (t := 62) (p := ((p.length : Nat) : Int) = 0) rfl (fun d62 => ?_) (fun d62 => ?_)
        ·refine RX.consG rfl rfl rfl rfl rfl (op_w (yw_move rfl rfl) rfl rfl ?_)
         refine RX.consG rfl rfl rfl rfl rfl (op_w (yw_move rfl rfl) rfl rfl ?_)
         refine RX.consG rfl rfl rfl rfl rfl (op_w (yw_streq rfl rfl rfl) rfl rfl ?_)
         refine RX.cons rfl rfl (op_w (yw_pickT rfl rfl rfl) rfl rfl ?_)
         refine RX.cons rfl rfl (op_w (yw_assign rfl rfl) rfl rfl ?_)
         refine RX.nil (XX.next (V' := [(10, .bool (decide (ByteArray.toList old = ByteArray.toList root)))]) ⟨rfl, trivial⟩ ?_)
         refine CX.ret ?_
         refine XX.block_ret ?_
         refine XX.then_ret ?_
         exact ret_tmpM0 rfl rfl fun w1 hw => ⟨by rw [verX, if_neg (by omega), if_pos (by omega), decide_eq_true (show p.length = 0 by omega), Bool.true_and], hw.sub (List.nil_sublist _)⟩
        ·refine RX.skip rfl rfl rfl rfl rfl rfl rfl ?_
         refine RX.skip rfl rfl rfl rfl rfl rfl rfl ?_
         refine RX.skip rfl rfl rfl rfl rfl rfl rfl ?_
         refine RX.cons rfl rfl (op_w (yw_pickF rfl rfl rfl) rfl rfl ?_)
         refine RX.cons rfl rfl (op_w (yw_assign rfl rfl) rfl rfl ?_)
         refine RX.nil (XX.next (V' := [(10, .bool false)]) ⟨rfl, trivial⟩ ?_)
         refine CX.ret ?_
         refine XX.block_ret ?_
         refine XX.then_ret ?_
         exact ret_tmpM0 rfl rfl fun w1 hw => ⟨by rw [verX, if_neg (by omega), if_pos (by omega), decide_eq_false (show ¬ p.length = 0 by omega), Bool.false_and], hw.sub (List.nil_sublist _)⟩
       ·have hm0 : m ≠ 0 := by omega
        have hmn2 : m ≠ n := by omega
        refine CX.skip (XX.inBlock (V' := [(0, _), (1, _), (2, _), (3, _), (4, _), (10, .bool false), (21, _), (22, _), (23, _), (24, _), (25, _), (26, _), (27, _), (28, _), (29, _), (30, _), (31, _), (32, _), (33, _), (34, _), (35, _), (36, _), (37, _), (38, _), (39, _), (40, _), (41, _), (42, _), (43, _), (44, _), (45, _), (46, _), (55, _), (56, _), (57, _), (58, _)]) ⟨rfl, rfl, rfl, rfl, rfl, rfl, rfl, rfl, rfl, rfl, rfl, rfl, rfl, rfl, rfl, rfl, rfl, rfl, rfl, rfl, rfl, rfl, rfl, rfl, rfl, rfl, rfl, rfl, rfl, rfl, rfl, rfl, rfl, rfl, rfl, rfl, trivial⟩ ?_)
        refine XX.next (V' := [(0, _), (1, _), (2, _), (3, _), (4, _), (10, .bool false), (21, _), (22, _), (23, _), (24, _), (25, _), (26, _), (27, _), (28, _), (29, _), (30, _), (31, _), (32, _), (33, _), (34, _), (35, _), (36, _), (37, _), (38, _), (39, _), (40, _), (41, _), (42, _), (43, _), (44, _), (45, _), (46, _), (55, _), (56, _), (57, _), (58, _)]) ⟨rfl, rfl, rfl, rfl, rfl, rfl, rfl, rfl, rfl, rfl, rfl, rfl, rfl, rfl, rfl, rfl, rfl, rfl, rfl, rfl, rfl, rfl, rfl, rfl, rfl, rfl, rfl, rfl, rfl, rfl, rfl, rfl, rfl, rfl, rfl, rfl, trivial⟩ ?_
        refine CX.seq ?_
        refine CX.region ?_
        refine RX.cons rfl rfl (op_w (yw_assign rfl rfl) rfl rfl ?_)
        refine RX.nil (XX.next (V' := [(0, _), (1, _), (2, _), (3, _), (4, _), (10, .bool false), (11, _), (21, _), (22, _), (23, _), (24, _), (25, _), (26, _), (27, _), (28, _), (29, _), (30, _), (31, _), (32, _), (33, _), (34, _), (35, _), (36, _), (37, _), (38, _), (39, _), (40, _), (41, _), (42, _), (43, _), (44, _), (45, _), (46, _), (55, _), (56, _), (57, _), (58, _)]) ⟨rfl, rfl, rfl, rfl, rfl, rfl, rfl, rfl, rfl, rfl, rfl, rfl, rfl, rfl, rfl, rfl, rfl, rfl, rfl, rfl, rfl, rfl, rfl, rfl, rfl, rfl, rfl, rfl, rfl, rfl, rfl, rfl, rfl, rfl, rfl, rfl, rfl, trivial⟩ ?_)
        refine CX.seq ?_
        refine CX.region ?_
        refine RX.cons rfl rfl (op_w (yw_assign rfl rfl) rfl rfl ?_)
        refine RX.nil (XX.next (V' := [(0, _), (1, _), (2, _), (3, _), (4, _), (10, .bool false), (11, _), (12, _), (21, _), (22, _), (23, _), (24, _), (25, _), (26, _), (27, _), (28, _), (29, _), (30, _), (31, _), (32, _), (33, _), (34, _), (35, _), (36, _), (37, _), (38, _), (39, _), (40, _), (41, _), (42, _), (43, _), (44, _), (45, _), (46, _), (55, _), (56, _), (57, _), (58, _)]) ⟨rfl, rfl, rfl, rfl, rfl, rfl, rfl, rfl, rfl, rfl, rfl, rfl, rfl, rfl, rfl, rfl, rfl, rfl, rfl, rfl, rfl, rfl, rfl, rfl, rfl, rfl, rfl, rfl, rfl, rfl, rfl, rfl, rfl, rfl, rfl, rfl, rfl, rfl, trivial⟩ ?_)
        refine CX.seq ?_
        refine CX.block ?_
        refine CX.rowNil 85 2 ?_
        refine CX.loop (σ := (List ByteArray × Nat × Nat × Bool) × (Option Addr × Nat) × List (ByteArray × Bool)) (fun z => [(0, .string old), (1, .int .i64 ((z.1.2.1 : Nat) : Int)), (2, .string root), (3, .int .i64 ((z.1.2.2.1 : Nat) : Int)), (4, .slice A z.1.1.length cap), (10, .bool false), (11, .slice z.2.1.1 (List.length (z.2.2 : List (ByteArray × Bool))) z.2.1.2), (12, .bool z.1.2.2.2), (21, .bool (decide (¬ (((ByteArray.size root : Nat) : Int) = 32)))), (22, .int .i64 ((m : Nat) : Int)), (23, .bool (decide (((m : Nat) : Int) < 0))), (24, .bool false), (25, .int .i64 ((m : Nat) : Int)), (26, .int .i64 ((n : Nat) : Int)), (27, .bool (decide (((n : Nat) : Int) < ((m : Nat) : Int)))), (28, .bool (decide (((n : Nat) : Int) < ((m : Nat) : Int)))), (29, .bool false), (30, .slice A p.length cap), (31, .bool (decide (∀ x ∈ p, ByteArray.size x = 32))), (32, .bool (decide (¬ (∀ x ∈ p, ByteArray.size x = 32)))), (33, .bool (decide (¬ (∀ x ∈ p, ByteArray.size x = 32)))), (34, .bool false), (35, .string old), (36, .bool (decide (((ByteArray.size old : Nat) : Int) = 32))), (37, .bool (decide (¬ (((ByteArray.size old : Nat) : Int) = 32)))), (38, .bool (decide (¬ (((ByteArray.size old : Nat) : Int) = 32)))), (39, .bool false), (40, .string root), (41, .bool (decide (((ByteArray.size root : Nat) : Int) = 32))), (42, .bool (decide (¬ (((ByteArray.size root : Nat) : Int) = 32)))), (43, .bool (decide (¬ (((ByteArray.size root : Nat) : Int) = 32)))), (44, .bool (decide (((m : Nat) : Int) = 0))), (45, .int .i64 ((m : Nat) : Int)), (46, .bool (decide (((m : Nat) : Int) = 0))), (55, .bool (decide (((m : Nat) : Int) = ((n : Nat) : Int)))), (56, .int .i64 ((m : Nat) : Int)), (57, .int .i64 ((n : Nat) : Int)), (58, .bool (decide (((m : Nat) : Int) = ((n : Nat) : Int))))]) (fun z => [.row z.2.1.1 z.2.1.2 85 2 (List.map sideC z.2.2)]) (fun z => Rd w A 1 (z.1.1.map strC) ∧ z.1.1.length ≤ cap ∧ z.1.1.length + z.2.2.length = p.length ∧ (1 ≤ z.1.2.1 ∧ z.1.2.1 ≤ z.1.2.2.1) ∧ z.1.2.2.1 ≤ n ∧ (∀ x ∈ z.1.1, x.size = 32) ∧ (∀ x ∈ z.2.2, x.1.size = 32) ∧ both sum old p.reverse m n true = (both sum old z.1.1.reverse z.1.2.1 z.1.2.2.1 z.1.2.2.2).map (foldX z.2.2)) (fun z => z.1.2.2.1) ((p, m, n, true), (none, 0), []) ⟨hr, hcap, by simp, ⟨by dsimp only; omega, hmn⟩, Nat.le_refl _, hall, by simp, by cases both sum old p.reverse m n true <;> rfl⟩ ⟨rfl, rfl, rfl, rfl, rfl, rfl, rfl, rfl, rfl, rfl, rfl, rfl, rfl, rfl, rfl, rfl, rfl, rfl, rfl, rfl, rfl, rfl, rfl, rfl, rfl, rfl, rfl, rfl, rfl, rfl, rfl, rfl, rfl, rfl, rfl, rfl, rfl, rfl, trivial⟩ rfl (fun z hI => ?_)
        obtain ⟨⟨ps, j, k, wh⟩, ⟨B1, d1⟩, way⟩ := z
        dsimp only at hI ⊢
        obtain ⟨hR, hpc, hpw, ⟨hj1, hj⟩, hkn, hps2, hway, hval⟩ := hI
        refine CX.seq ?_
        refine CX.seq ?_
        refine CX.region ?_
        refine RX.cons rfl rfl (op_w (yw_move rfl rfl) rfl rfl ?_)
        refine RX.cons rfl rfl (op_w (yw_move rfl rfl) rfl rfl ?_)
        refine RX.cons rfl rfl (op_w (yw_lss rfl rfl rfl) rfl rfl ?_)
        refine RX.nil (XX.next (V' := [(0, _), (1, _), (2, _), (3, _), (4, _), (10, .bool false), (11, _), (12, _), (21, _), (22, _), (23, _), (24, _), (25, _), (26, _), (27, _), (28, _), (29, _), (30, _), (31, _), (32, _), (33, _), (34, _), (35, _), (36, _), (37, _), (38, _), (39, _), (40, _), (41, _), (42, _), (43, _), (44, _), (45, _), (46, _), (55, _), (56, _), (57, _), (58, _), (67, _), (68, _), (69, _)]) ⟨rfl, rfl, rfl, rfl, rfl, rfl, rfl, rfl, rfl, rfl, rfl, rfl, rfl, rfl, rfl, rfl, rfl, rfl, rfl, rfl, rfl, rfl, rfl, rfl, rfl, rfl, rfl, rfl, rfl, rfl, rfl, rfl, rfl, rfl, rfl, rfl, rfl, rfl, rfl, rfl, rfl, trivial⟩ ?_)
        refine CX.condD (p := ((j : Nat) : Int) < ((k : Nat) : Int)) rfl (fun c69 => ?_) (fun c69 => ?_)
        ·refine CX.skip (XX.next (V' := [(0, _), (1, _), (2, _), (3, _), (4, _), (10, .bool false), (11, _), (12, _), (21, _), (22, _), (23, _), (24, _), (25, _), (26, _), (27, _), (28, _), (29, _), (30, _), (31, _), (32, _), (33, _), (34, _), (35, _), (36, _), (37, _), (38, _), (39, _), (40, _), (41, _), (42, _), (43, _), (44, _), (45, _), (46, _), (55, _), (56, _), (57, _), (58, _)]) ⟨rfl, rfl, rfl, rfl, rfl, rfl, rfl, rfl, rfl, rfl, rfl, rfl, rfl, rfl, rfl, rfl, rfl, rfl, rfl, rfl, rfl, rfl, rfl, rfl, rfl, rfl, rfl, rfl, rfl, rfl, rfl, rfl, rfl, rfl, rfl, rfl, rfl, rfl, trivial⟩ ?_)
         refine CX.block ?_
         refine CX.seq ?_
         rcases nil_or ps with hps | ⟨x0, hx0, hpl⟩
         ·refine CX.region ?_
          refine RX.cons rfl rfl (op_w (yw_move rfl rfl) rfl rfl ?_)
          refine RX.know (t := 71) (u := .slice A 0 cap) rfl (congrArg (fun n => Value.slice A n cap) (by rw [hps]; rfl)) ?_
          refine RX.cons rfl rfl (op_callV (v := .tuple #[.string .empty, .slice none 0 0, .bool false]) rfl rfl rfl rfl rfl ent_47 (fun w hw => w_take0) ?_)
          refine RX.cons rfl rfl (op_w (yw_move rfl rfl) rfl rfl ?_)
          refine RX.cons rfl rfl (op_w (yw_extract rfl rfl rfl) rfl rfl ?_)
          refine RX.cons rfl rfl (op_w (yw_extract rfl rfl rfl) rfl rfl ?_)
          refine RX.cons rfl rfl (op_w (yw_extract rfl rfl rfl) rfl rfl ?_)
          refine RX.cons rfl rfl (op_w (yw_assign rfl rfl) rfl rfl ?_)
          refine RX.cons rfl rfl (op_w (yw_assign rfl rfl) rfl rfl ?_)
          refine RX.cons rfl rfl (op_w (yw_assign rfl rfl) rfl rfl ?_)
          refine RX.nil (XX.next (V' := [(0, _), (1, _), (2, _), (3, _), (10, .bool false), (11, _), (12, _), (13, _), (14, _), (15, _), (21, _), (22, _), (23, _), (24, _), (25, _), (26, _), (27, _), (28, _), (29, _), (30, _), (31, _), (32, _), (33, _), (34, _), (35, _), (36, _), (37, _), (38, _), (39, _), (40, _), (41, _), (42, _), (43, _), (44, _), (45, _), (46, _), (55, _), (56, _), (57, _), (58, _), (70, _), (71, _), (72, _), (73, _), (74, _), (75, _)]) ⟨rfl, rfl, rfl, rfl, rfl, rfl, rfl, rfl, rfl, rfl, rfl, rfl, rfl, rfl, rfl, rfl, rfl, rfl, rfl, rfl, rfl, rfl, rfl, rfl, rfl, rfl, rfl, rfl, rfl, rfl, rfl, rfl, rfl, rfl, rfl, rfl, rfl, rfl, rfl, rfl, rfl, rfl, rfl, rfl, rfl, rfl, trivial⟩ ?_)
          refine CX.seq ?_
          refine CX.seq ?_
          refine CX.region ?_
          refine RX.cons rfl rfl (op_w (yw_move rfl rfl) rfl rfl ?_)
          refine RX.cons rfl rfl (op_w (yw_not rfl rfl) rfl rfl ?_)
          refine RX.nil (XX.next (V' := [(0, _), (1, _), (2, _), (3, _), (10, .bool false), (11, _), (12, _), (13, _), (14, _), (15, _), (21, _), (22, _), (23, _), (24, _), (25, _), (26, _), (27, _), (28, _), (29, _), (30, _), (31, _), (32, _), (33, _), (34, _), (35, _), (36, _), (37, _), (38, _), (39, _), (40, _), (41, _), (42, _), (43, _), (44, _), (45, _), (46, _), (55, _), (56, _), (57, _), (58, _), (70, _), (71, _), (72, _), (73, _), (74, _), (75, _), (76, _), (77, _)]) ⟨rfl, rfl, rfl, rfl, rfl, rfl, rfl, rfl, rfl, rfl, rfl, rfl, rfl, rfl, rfl, rfl, rfl, rfl, rfl, rfl, rfl, rfl, rfl, rfl, rfl, rfl, rfl, rfl, rfl, rfl, rfl, rfl, rfl, rfl, rfl, rfl, rfl, rfl, rfl, rfl, rfl, rfl, rfl, rfl, rfl, rfl, rfl, rfl, trivial⟩ ?_)
          refine CX.condT rfl ?_
          refine CX.seq ?_
          refine CX.region ?_
          refine RX.cons rfl rfl (op_w (yw_assign rfl rfl) rfl rfl ?_)
          refine RX.nil (XX.next (V' := [(10, .bool false)]) ⟨rfl, trivial⟩ ?_)
          refine CX.ret ?_
          refine XX.then_ret ?_
          refine XX.block_ret ?_
          refine XX.then_ret ?_
          refine XX.block_ret ?_
          refine XX.then_ret ?_
          exact ret_tmpM0 rfl rfl fun w1 hw => ⟨by rw [verX_none hm0 hmn2 (by rw [hval, hps, List.reverse_nil, both_out _ (by omega)]; rfl)], hw.sub (List.nil_sublist _)⟩
         ·refine CX.region ?_
          refine RX.cons rfl rfl (op_w (yw_move rfl rfl) rfl rfl ?_)
          refine RX.cons rfl rfl (op_callV (v := .tuple #[.string x0, .slice A (List.length ps - 1) cap, .bool true]) rfl rfl rfl rfl rfl ent_47 (fun w hw => w_take ps (hw.rd hR (by simp)) x0 hx0 hpl hpc (by omega)) ?_)
          refine RX.cons rfl rfl (op_w (yw_move rfl rfl) rfl rfl ?_)
          refine RX.cons rfl rfl (op_w (yw_extract rfl rfl rfl) rfl rfl ?_)
          refine RX.cons rfl rfl (op_w (yw_extract rfl rfl rfl) rfl rfl ?_)
          refine RX.know (t := 74) (u := .slice A ((List.take (ps.length - 1) ps).length) cap) rfl (congrArg (fun n => Value.slice A n cap) (by simp)) ?_
          refine RX.cons rfl rfl (op_w (yw_extract rfl rfl rfl) rfl rfl ?_)
          refine RX.cons rfl rfl (op_w (yw_assign rfl rfl) rfl rfl ?_)
          refine RX.cons rfl rfl (op_w (yw_assign rfl rfl) rfl rfl ?_)
          refine RX.cons rfl rfl (op_w (yw_assign rfl rfl) rfl rfl ?_)
          refine RX.nil (XX.next (V' := [(0, _), (1, _), (2, _), (3, _), (10, .bool false), (11, _), (12, _), (13, _), (14, _), (15, _), (21, _), (22, _), (23, _), (24, _), (25, _), (26, _), (27, _), (28, _), (29, _), (30, _), (31, _), (32, _), (33, _), (34, _), (35, _), (36, _), (37, _), (38, _), (39, _), (40, _), (41, _), (42, _), (43, _), (44, _), (45, _), (46, _), (55, _), (56, _), (57, _), (58, _), (70, _), (71, _), (72, _), (73, _), (74, _), (75, _)]) ⟨rfl, rfl, rfl, rfl, rfl, rfl, rfl, rfl, rfl, rfl, rfl, rfl, rfl, rfl, rfl, rfl, rfl, rfl, rfl, rfl, rfl, rfl, rfl, rfl, rfl, rfl, rfl, rfl, rfl, rfl, rfl, rfl, rfl, rfl, rfl, rfl, rfl, rfl, rfl, rfl, rfl, rfl, rfl, rfl, rfl, rfl, trivial⟩ ?_)
          refine CX.seq ?_
          refine CX.seq ?_
          refine CX.region ?_
          refine RX.cons rfl rfl (op_w (yw_move rfl rfl) rfl rfl ?_)
          refine RX.cons rfl rfl (op_w (yw_not rfl rfl) rfl rfl ?_)
          refine RX.nil (XX.next (V' := [(0, _), (1, _), (2, _), (3, _), (10, .bool false), (11, _), (12, _), (13, _), (14, _), (15, _), (21, _), (22, _), (23, _), (24, _), (25, _), (26, _), (27, _), (28, _), (29, _), (30, _), (31, _), (32, _), (33, _), (34, _), (35, _), (36, _), (37, _), (38, _), (39, _), (40, _), (41, _), (42, _), (43, _), (44, _), (45, _), (46, _), (55, _), (56, _), (57, _), (58, _), (70, _), (71, _), (72, _), (73, _), (74, _), (75, _), (76, _), (77, _)]) ⟨rfl, rfl, rfl, rfl, rfl, rfl, rfl, rfl, rfl, rfl, rfl, rfl, rfl, rfl, rfl, rfl, rfl, rfl, rfl, rfl, rfl, rfl, rfl, rfl, rfl, rfl, rfl, rfl, rfl, rfl, rfl, rfl, rfl, rfl, rfl, rfl, rfl, rfl, rfl, rfl, rfl, rfl, rfl, rfl, rfl, rfl, rfl, rfl, trivial⟩ ?_)
          refine CX.condF rfl ?_
          refine CX.skip (XX.next (V' := [(0, _), (1, _), (2, _), (3, _), (10, .bool false), (11, _), (12, _), (13, _), (14, _), (15, _), (21, _), (22, _), (23, _), (24, _), (25, _), (26, _), (27, _), (28, _), (29, _), (30, _), (31, _), (32, _), (33, _), (34, _), (35, _), (36, _), (37, _), (38, _), (39, _), (40, _), (41, _), (42, _), (43, _), (44, _), (45, _), (46, _), (55, _), (56, _), (57, _), (58, _), (70, _), (71, _), (72, _), (73, _), (74, _), (75, _), (76, _), (77, _)]) ⟨rfl, rfl, rfl, rfl, rfl, rfl, rfl, rfl, rfl, rfl, rfl, rfl, rfl, rfl, rfl, rfl, rfl, rfl, rfl, rfl, rfl, rfl, rfl, rfl, rfl, rfl, rfl, rfl, rfl, rfl, rfl, rfl, rfl, rfl, rfl, rfl, rfl, rfl, rfl, rfl, rfl, rfl, rfl, rfl, rfl, rfl, rfl, rfl, trivial⟩ ?_)
          refine CX.seq ?_
          have hps' := last_split hx0
          have hrev : ps.reverse = x0 :: (List.take (ps.length - 1) ps).reverse := by rw [congrArg List.reverse hps', List.reverse_append]; rfl
          have hx32 : x0.size = 32 := hps2 x0 (List.mem_of_getElem? hx0)
          have hq1 := lft_pos k
          have hq2 := lft_lt (n := k) (by omega)
          have hq3 := lft_ge (n := k) (by omega)
          refine CX.region ?_
          refine RX.cons rfl rfl (op_w (yw_move rfl rfl) rfl rfl ?_)
          refine RX.cons rfl rfl (op_w (yw_assign rfl rfl) rfl rfl ?_)
          refine RX.nil (XX.next (V' := [(0, _), (1, _), (2, _), (3, _), (4, _), (10, .bool false), (11, _), (12, _), (13, _), (14, _), (15, _), (21, _), (22, _), (23, _), (24, _), (25, _), (26, _), (27, _), (28, _), (29, _), (30, _), (31, _), (32, _), (33, _), (34, _), (35, _), (36, _), (37, _), (38, _), (39, _), (40, _), (41, _), (42, _), (43, _), (44, _), (45, _), (46, _), (55, _), (56, _), (57, _), (58, _), (70, _), (71, _), (72, _), (73, _), (74, _), (75, _), (76, _), (77, _), (78, _)]) ⟨rfl, rfl, rfl, rfl, rfl, rfl, rfl, rfl, rfl, rfl, rfl, rfl, rfl, rfl, rfl, rfl, rfl, rfl, rfl, rfl, rfl, rfl, rfl, rfl, rfl, rfl, rfl, rfl, rfl, rfl, rfl, rfl, rfl, rfl, rfl, rfl, rfl, rfl, rfl, rfl, rfl, rfl, rfl, rfl, rfl, rfl, rfl, rfl, rfl, rfl, trivial⟩ ?_)
          refine CX.seq ?_
          refine CX.region ?_
          refine RX.cons rfl rfl (op_w (yw_move rfl rfl) rfl rfl ?_)
          refine RX.cons rfl rfl (op_callV (v := .int .i64 ((lft k : Nat) : Int)) rfl rfl rfl rfl rfl ent_48 (fun w hw => w_left k (by omega) (by omega)) ?_)
          refine RX.cons rfl rfl (op_w (yw_assign rfl rfl) rfl rfl ?_)
          refine RX.nil (XX.next (V' := [(0, _), (1, _), (2, _), (3, _), (4, _), (10, .bool false), (11, _), (12, _), (13, _), (14, _), (15, _), (16, _), (21, _), (22, _), (23, _), (24, _), (25, _), (26, _), (27, _), (28, _), (29, _), (30, _), (31, _), (32, _), (33, _), (34, _), (35, _), (36, _), (37, _), (38, _), (39, _), (40, _), (41, _), (42, _), (43, _), (44, _), (45, _), (46, _), (55, _), (56, _), (57, _), (58, _), (70, _), (71, _), (72, _), (73, _), (74, _), (75, _), (76, _), (77, _), (78, _), (79, _), (80, _)]) ⟨rfl, rfl, rfl, rfl, rfl, rfl, rfl, rfl, rfl, rfl, rfl, rfl, rfl, rfl, rfl, rfl, rfl, rfl, rfl, rfl, rfl, rfl, rfl, rfl, rfl, rfl, rfl, rfl, rfl, rfl, rfl, rfl, rfl, rfl, rfl, rfl, rfl, rfl, rfl, rfl, rfl, rfl, rfl, rfl, rfl, rfl, rfl, rfl, rfl, rfl, rfl, rfl, rfl, trivial⟩ ?_)
          refine CX.seq ?_
          refine CX.region ?_
          refine RX.cons rfl rfl (op_w (yw_move rfl rfl) rfl rfl ?_)
          refine RX.cons rfl rfl (op_w (yw_move rfl rfl) rfl rfl ?_)
          refine RX.cons rfl rfl (op_w (yw_move rfl rfl) rfl rfl ?_)
          refine RX.cons rfl rfl (op_w (yw_move rfl rfl) rfl rfl ?_)
          refine RX.cons rfl rfl (op_w (yw_gtr rfl rfl rfl) rfl rfl ?_)
          refine RX.cons rfl rfl (op_w (yw_build (v := .agg (#[.string x0, .bool (decide (((lft k : Nat) : Int) < ((j : Nat) : Int)))])) rfl rfl (fun _ => by kernel_rfl)) rfl rfl ?_)
          refine RX.cons rfl rfl (op_buildSlice rfl rfl rfl slb_80 rfl rfl (by intro v hv; simp only [List.mem_cons, List.not_mem_nil, or_false] at hv; subst hv; exact ⟨rfl, (plain_of rfl)⟩) (by decide) fun g1 => ?_)
          refine RX.cons rfl rfl (op_appendM sideC (i := 1) (j := 0) (xs := way) ([(x0, decide (((lft k : Nat) : Int) < ((j : Nat) : Int)))]) rfl rfl rfl slb_80 rfl rfl rfl rfl rfl rfl (by simp only [List.length_singleton]; omega) (by simp only [List.length_singleton]; omega) fun B2 d2 => ?_)
          refine RX.cons rfl rfl (op_w (yw_assign rfl rfl) rfl rfl ?_)
          refine RX.nil (XX.next (V' := [(0, _), (1, _), (2, _), (3, _), (4, _), (10, .bool false), (11, _), (12, _), (13, _), (14, _), (15, _), (16, _), (21, _), (22, _), (23, _), (24, _), (25, _), (26, _), (27, _), (28, _), (29, _), (30, _), (31, _), (32, _), (33, _), (34, _), (35, _), (36, _), (37, _), (38, _), (39, _), (40, _), (41, _), (42, _), (43, _), (44, _), (45, _), (46, _), (55, _), (56, _), (57, _), (58, _), (70, _), (71, _), (72, _), (73, _), (74, _), (75, _), (76, _), (77, _), (78, _), (79, _), (80, _), (81, _), (82, _), (83, _), (84, _), (85, _), (86, _), (87, _), (88, _)]) ⟨rfl, rfl, rfl, rfl, rfl, rfl, rfl, rfl, rfl, rfl, rfl, rfl, rfl, rfl, rfl, rfl, rfl, rfl, rfl, rfl, rfl, rfl, rfl, rfl, rfl, rfl, rfl, rfl, rfl, rfl, rfl, rfl, rfl, rfl, rfl, rfl, rfl, rfl, rfl, rfl, rfl, rfl, rfl, rfl, rfl, rfl, rfl, rfl, rfl, rfl, rfl, rfl, rfl, rfl, rfl, rfl, rfl, rfl, rfl, rfl, rfl, trivial⟩ ?_)
          refine CX.seq ?_
          refine CX.region ?_
          refine RX.cons rfl rfl (op_w (yw_move rfl rfl) rfl rfl ?_)
          refine RX.cons rfl rfl (op_w (yw_move rfl rfl) rfl rfl ?_)
          refine RX.cons rfl rfl (op_w (yw_gtr rfl rfl rfl) rfl rfl ?_)
          refine RX.nil (XX.next (V' := [(0, _), (1, _), (2, _), (3, _), (4, _), (10, .bool false), (11, _), (12, _), (13, _), (14, _), (15, _), (16, _), (21, _), (22, _), (23, _), (24, _), (25, _), (26, _), (27, _), (28, _), (29, _), (30, _), (31, _), (32, _), (33, _), (34, _), (35, _), (36, _), (37, _), (38, _), (39, _), (40, _), (41, _), (42, _), (43, _), (44, _), (45, _), (46, _), (55, _), (56, _), (57, _), (58, _), (70, _), (71, _), (72, _), (73, _), (74, _), (75, _), (76, _), (77, _), (78, _), (79, _), (80, _), (81, _), (82, _), (83, _), (84, _), (85, _), (86, _), (87, _), (88, _), (89, _), (90, _), (91, _)]) ⟨rfl, rfl, rfl, rfl, rfl, rfl, rfl, rfl, rfl, rfl, rfl, rfl, rfl, rfl, rfl, rfl, rfl, rfl, rfl, rfl, rfl, rfl, rfl, rfl, rfl, rfl, rfl, rfl, rfl, rfl, rfl, rfl, rfl, rfl, rfl, rfl, rfl, rfl, rfl, rfl, rfl, rfl, rfl, rfl, rfl, rfl, rfl, rfl, rfl, rfl, rfl, rfl, rfl, rfl, rfl, rfl, rfl, rfl, rfl, rfl, rfl, rfl, rfl, rfl, trivial⟩ ?_)
          refine CX.condD (p := ((lft k : Nat) : Int) < ((j : Nat) : Int)) rfl (fun c91 => ?_) (fun c91 => ?_)
          ·refine CX.region ?_
           refine RX.cons rfl rfl (op_w (yw_move rfl rfl) rfl rfl ?_)
           refine RX.cons rfl rfl (op_w (yw_move rfl rfl) rfl rfl ?_)
           refine RX.cons rfl rfl (op_w (yw_sub rfl rfl rfl (by omega) (by omega)) rfl rfl ?_)
           refine RX.know (t := 94) (u := .int .i64 ((j - lft k : Nat) : Int)) rfl (congrArg (Value.int .i64) (by omega)) ?_
           refine RX.cons rfl rfl (op_w (yw_move rfl rfl) rfl rfl ?_)
           refine RX.cons rfl rfl (op_w (yw_move rfl rfl) rfl rfl ?_)
           refine RX.cons rfl rfl (op_w (yw_sub rfl rfl rfl (by omega) (by omega)) rfl rfl ?_)
           refine RX.know (t := 97) (u := .int .i64 ((k - lft k : Nat) : Int)) rfl (congrArg (Value.int .i64) (by omega)) ?_
           refine RX.cons rfl rfl (op_w (yw_assign rfl rfl) rfl rfl ?_)
           refine RX.cons rfl rfl (op_w (yw_assign rfl rfl) rfl rfl ?_)
           refine RX.cons rfl rfl (op_w (yw_assign rfl rfl) rfl rfl ?_)
           refine RX.nil (XX.inBlock (V' := [(0, _), (1, _), (2, _), (3, _), (4, _), (10, .bool false), (11, _), (12, _), (13, _), (14, _), (15, _), (16, _), (21, _), (22, _), (23, _), (24, _), (25, _), (26, _), (27, _), (28, _), (29, _), (30, _), (31, _), (32, _), (33, _), (34, _), (35, _), (36, _), (37, _), (38, _), (39, _), (40, _), (41, _), (42, _), (43, _), (44, _), (45, _), (46, _), (55, _), (56, _), (57, _), (58, _), (70, _), (71, _), (72, _), (73, _), (74, _), (75, _), (76, _), (77, _), (78, _), (79, _), (80, _), (81, _), (82, _), (83, _), (84, _), (85, _), (86, _), (87, _), (88, _), (89, _), (90, _), (91, _), (92, _), (93, _), (94, _), (95, _), (96, _), (97, _)]) ⟨rfl, rfl, rfl, rfl, rfl, rfl, rfl, rfl, rfl, rfl, rfl, rfl, rfl, rfl, rfl, rfl, rfl, rfl, rfl, rfl, rfl, rfl, rfl, rfl, rfl, rfl, rfl, rfl, rfl, rfl, rfl, rfl, rfl, rfl, rfl, rfl, rfl, rfl, rfl, rfl, rfl, rfl, rfl, rfl, rfl, rfl, rfl, rfl, rfl, rfl, rfl, rfl, rfl, rfl, rfl, rfl, rfl, rfl, rfl, rfl, rfl, rfl, rfl, rfl, rfl, rfl, rfl, rfl, rfl, rfl, trivial⟩ ?_)
           refine XX.againP ([.row (some ⟨g1, 0, none⟩) 1 85 2 (List.map sideC ([(x0, decide (((lft k : Nat) : Int) < ((j : Nat) : Int)))]))]) ((List.take (ps.length - 1) ps, j - lft k, k - lft k, false), (B2, d2), way ++ [(x0, decide (((lft k : Nat) : Int) < ((j : Nat) : Int)))]) (by dsimp only; omega) ⟨hR.takeM _, by simp; omega, by simp; omega, by dsimp only; omega, by dsimp only; omega, fun x hx => hps2 x (List.mem_of_mem_take hx), way_snoc hway hx32, by dsimp only; rw [hval, hrev, both_gt _ x0 _ (by omega) (by omega), Option.map_map, decide_eq_true c91]; congr 1; funext v; rw [foldX_snoc]; rfl⟩ ⟨rfl, rfl, rfl, rfl, rfl, rfl, rfl, rfl, rfl, rfl, rfl, rfl, rfl, rfl, rfl, rfl, rfl, rfl, rfl, rfl, rfl, rfl, rfl, rfl, rfl, rfl, rfl, rfl, rfl, rfl, rfl, rfl, rfl, rfl, rfl, rfl, rfl, rfl, trivial⟩ ((perm_pick 1 rfl).trans (List.Perm.cons _ (List.Perm.refl _)))
          ·refine CX.region ?_
           refine RX.cons rfl rfl (op_w (yw_move rfl rfl) rfl rfl ?_)
           refine RX.cons rfl rfl (op_w (yw_assign rfl rfl) rfl rfl ?_)
           refine RX.nil (XX.inBlock (V' := [(0, _), (1, _), (2, _), (3, _), (4, _), (10, .bool false), (11, _), (12, _), (13, _), (14, _), (15, _), (16, _), (21, _), (22, _), (23, _), (24, _), (25, _), (26, _), (27, _), (28, _), (29, _), (30, _), (31, _), (32, _), (33, _), (34, _), (35, _), (36, _), (37, _), (38, _), (39, _), (40, _), (41, _), (42, _), (43, _), (44, _), (45, _), (46, _), (55, _), (56, _), (57, _), (58, _), (70, _), (71, _), (72, _), (73, _), (74, _), (75, _), (76, _), (77, _), (78, _), (79, _), (80, _), (81, _), (82, _), (83, _), (84, _), (85, _), (86, _), (87, _), (88, _), (89, _), (90, _), (91, _), (98, _)]) ⟨rfl, rfl, rfl, rfl, rfl, rfl, rfl, rfl, rfl, rfl, rfl, rfl, rfl, rfl, rfl, rfl, rfl, rfl, rfl, rfl, rfl, rfl, rfl, rfl, rfl, rfl, rfl, rfl, rfl, rfl, rfl, rfl, rfl, rfl, rfl, rfl, rfl, rfl, rfl, rfl, rfl, rfl, rfl, rfl, rfl, rfl, rfl, rfl, rfl, rfl, rfl, rfl, rfl, rfl, rfl, rfl, rfl, rfl, rfl, rfl, rfl, rfl, rfl, rfl, rfl, trivial⟩ ?_)
           refine XX.againP ([.row (some ⟨g1, 0, none⟩) 1 85 2 (List.map sideC ([(x0, decide (((lft k : Nat) : Int) < ((j : Nat) : Int)))]))]) ((List.take (ps.length - 1) ps, j, lft k, wh), (B2, d2), way ++ [(x0, decide (((lft k : Nat) : Int) < ((j : Nat) : Int)))]) (by dsimp only; omega) ⟨hR.takeM _, by simp; omega, by simp; omega, by dsimp only; omega, by dsimp only; omega, fun x hx => hps2 x (List.mem_of_mem_take hx), way_snoc hway hx32, by dsimp only; rw [hval, hrev, both_le _ x0 _ (by omega) (by omega), Option.map_map, decide_eq_false c91]; congr 1; funext v; rw [foldX_snoc]; rfl⟩ ⟨rfl, rfl, rfl, rfl, rfl, rfl, rfl, rfl, rfl, rfl, rfl, rfl, rfl, rfl, rfl, rfl, rfl, rfl, rfl, rfl, rfl, rfl, rfl, rfl, rfl, rfl, rfl, rfl, rfl, rfl, rfl, rfl, rfl, rfl, rfl, rfl, rfl, rfl, trivial⟩ ((perm_pick 1 rfl).trans (List.Perm.cons _ (List.Perm.refl _)))
        ·refine CX.exit ?_
         refine XX.then_exit ?_
         refine XX.then_exit ?_
         refine XX.block_exit ?_
         refine XX.next (V' := [(0, _), (1, _), (2, _), (3, _), (4, _), (10, .bool false), (11, _), (12, _), (21, _), (22, _), (23, _), (24, _), (25, _), (26, _), (27, _), (28, _), (29, _), (30, _), (31, _), (32, _), (33, _), (34, _), (35, _), (36, _), (37, _), (38, _), (39, _), (40, _), (41, _), (42, _), (43, _), (44, _), (45, _), (46, _), (55, _), (56, _), (57, _), (58, _), (67, _), (68, _), (69, _)]) ⟨rfl, rfl, rfl, rfl, rfl, rfl, rfl, rfl, rfl, rfl, rfl, rfl, rfl, rfl, rfl, rfl, rfl, rfl, rfl, rfl, rfl, rfl, rfl, rfl, rfl, rfl, rfl, rfl, rfl, rfl, rfl, rfl, rfl, rfl, rfl, rfl, rfl, rfl, rfl, rfl, rfl, trivial⟩ ?_
         refine CX.seq ?_
         refine CX.region ?_
         refine RX.cons rfl rfl (op_w (yw_move rfl rfl) rfl rfl ?_)
         refine RX.cons rfl rfl (op_w (yw_move rfl rfl) rfl rfl ?_)
         refine RX.cons rfl rfl (op_alloc rfl rfl rfl zero_9 fun g17 => ?_)
         refine RX.cons rfl rfl (op_alloc rfl rfl rfl zero_9 fun g18 => ?_)
         refine RX.cons rfl rfl (op_storeAll (i := 1) rfl rfl rfl rfl szt_9 rfl (plain_of rfl) rfl rfl ?_)
         refine RX.cons rfl rfl (op_storeAll (i := 0) rfl rfl rfl rfl szt_9 rfl (plain_of rfl) rfl rfl ?_)
         refine RX.nil (XX.next (V' := [(0, _), (1, _), (2, _), (3, _), (4, _), (10, .bool false), (11, _), (12, _), (17, _), (18, _), (21, _), (22, _), (23, _), (24, _), (25, _), (26, _), (27, _), (28, _), (29, _), (30, _), (31, _), (32, _), (33, _), (34, _), (35, _), (36, _), (37, _), (38, _), (39, _), (40, _), (41, _), (42, _), (43, _), (44, _), (45, _), (46, _), (55, _), (56, _), (57, _), (58, _), (67, _), (68, _), (69, _), (99, _), (100, _)]) ⟨rfl, rfl, rfl, rfl, rfl, rfl, rfl, rfl, rfl, rfl, rfl, rfl, rfl, rfl, rfl, rfl, rfl, rfl, rfl, rfl, rfl, rfl, rfl, rfl, rfl, rfl, rfl, rfl, rfl, rfl, rfl, rfl, rfl, rfl, rfl, rfl, rfl, rfl, rfl, rfl, rfl, rfl, rfl, rfl, rfl, trivial⟩ ?_)
         refine CX.seq ?_
         refine CX.seq ?_
         refine CX.region ?_
         refine RX.cons rfl rfl (op_w (yw_move rfl rfl) rfl rfl ?_)
         refine RX.cons rfl rfl (op_w (yw_not rfl rfl) rfl rfl ?_)
         refine RX.nil (XX.next (V' := [(0, _), (1, _), (2, _), (3, _), (4, _), (10, .bool false), (11, _), (12, _), (17, _), (18, _), (21, _), (22, _), (23, _), (24, _), (25, _), (26, _), (27, _), (28, _), (29, _), (30, _), (31, _), (32, _), (33, _), (34, _), (35, _), (36, _), (37, _), (38, _), (39, _), (40, _), (41, _), (42, _), (43, _), (44, _), (45, _), (46, _), (55, _), (56, _), (57, _), (58, _), (67, _), (68, _), (69, _), (99, _), (100, _), (101, _), (102, _)]) ⟨rfl, rfl, rfl, rfl, rfl, rfl, rfl, rfl, rfl, rfl, rfl, rfl, rfl, rfl, rfl, rfl, rfl, rfl, rfl, rfl, rfl, rfl, rfl, rfl, rfl, rfl, rfl, rfl, rfl, rfl, rfl, rfl, rfl, rfl, rfl, rfl, rfl, rfl, rfl, rfl, rfl, rfl, rfl, rfl, rfl, rfl, rfl, trivial⟩ ?_)
         refine CX.cond (b := !wh) rfl (fun c102 => ?_) (fun c102 => ?_)
         ·refine CX.seq ?_
          refine CX.seq ?_
          refine CX.region ?_
          refine RX.cons rfl rfl (op_w (yw_move rfl rfl) rfl rfl ?_)
          refine RX.cons rfl rfl (op_w (yw_lenS rfl Tryz.underlying26 rfl) rfl rfl ?_)
          refine RX.cons rfl rfl (op_w (yw_neq rfl rfl rfl) rfl rfl ?_)
          refine RX.nil (XX.next (V' := [(0, _), (1, _), (2, _), (3, _), (4, _), (10, .bool false), (11, _), (12, _), (17, _), (18, _), (21, _), (22, _), (23, _), (24, _), (25, _), (26, _), (27, _), (28, _), (29, _), (30, _), (31, _), (32, _), (33, _), (34, _), (35, _), (36, _), (37, _), (38, _), (39, _), (40, _), (41, _), (42, _), (43, _), (44, _), (45, _), (46, _), (55, _), (56, _), (57, _), (58, _), (67, _), (68, _), (69, _), (99, _), (100, _), (101, _), (102, _), (103, _), (104, _), (105, _)]) ⟨rfl, rfl, rfl, rfl, rfl, rfl, rfl, rfl, rfl, rfl, rfl, rfl, rfl, rfl, rfl, rfl, rfl, rfl, rfl, rfl, rfl, rfl, rfl, rfl, rfl, rfl, rfl, rfl, rfl, rfl, rfl, rfl, rfl, rfl, rfl, rfl, rfl, rfl, rfl, rfl, rfl, rfl, rfl, rfl, rfl, rfl, rfl, rfl, rfl, rfl, trivial⟩ ?_)
          refine CX.condD (p := ((ps.length : Nat) : Int) ≠ 1) rfl (fun c105 => ?_) (fun c105 => ?_)
          ·refine CX.seq ?_
           refine CX.region ?_
           refine RX.cons rfl rfl (op_w (yw_assign rfl rfl) rfl rfl ?_)
           refine RX.nil (XX.next (V' := [(10, .bool false)]) ⟨rfl, trivial⟩ ?_)
           refine CX.ret ?_
           refine XX.then_ret ?_
           refine XX.then_ret ?_
           exact ret_tmpM0 rfl rfl fun w1 hw => ⟨by rw [verX_none hm0 hmn2 (by rw [hval, show wh = false from by simpa using c102, both_odd _ (by omega) _ (by rw [List.length_reverse]; omega)]; rfl)], hw.sub (List.nil_sublist _)⟩
          ·obtain ⟨x1, hx1⟩ : ∃ x, ps = [x] := List.length_eq_one_iff.1 (by omega)
           have hx1g : ps[0]? = some x1 := by rw [hx1]; rfl
           have hx1s : x1.size = 32 := hps2 x1 (List.mem_of_getElem? hx1g)
           have hbf : both sum old ps.reverse j k wh = some (x1, x1) := by rw [show wh = false from by simpa using c102, hx1]; exact both_one _ _ (by omega)
           have hA : ∃ b j, A = some ⟨b, j, none⟩ := hR.some (k := 0) (by simp; omega)
           refine CX.skip (XX.next (V' := [(0, _), (1, _), (2, _), (3, _), (4, _), (10, .bool false), (11, _), (12, _), (17, _), (18, _), (21, _), (22, _), (23, _), (24, _), (25, _), (26, _), (27, _), (28, _), (29, _), (30, _), (31, _), (32, _), (33, _), (34, _), (35, _), (36, _), (37, _), (38, _), (39, _), (40, _), (41, _), (42, _), (43, _), (44, _), (45, _), (46, _), (55, _), (56, _), (57, _), (58, _), (67, _), (68, _), (69, _), (99, _), (100, _), (101, _), (102, _), (103, _), (104, _), (105, _)]) ⟨rfl, rfl, rfl, rfl, rfl, rfl, rfl, rfl, rfl, rfl, rfl, rfl, rfl, rfl, rfl, rfl, rfl, rfl, rfl, rfl, rfl, rfl, rfl, rfl, rfl, rfl, rfl, rfl, rfl, rfl, rfl, rfl, rfl, rfl, rfl, rfl, rfl, rfl, rfl, rfl, rfl, rfl, rfl, rfl, rfl, rfl, rfl, rfl, rfl, rfl, trivial⟩ ?_)
           refine CX.drawL 9 ([]) [(0, 16, 81129638414606681695789005144064), (1, 81129638414606681695789005144064, 162259276829213363391578010288128), (2, 162259276829213363391578010288128, 324518553658426726783156020576256), (0, 16, 649037107316853453566312041152512), (8, 649037107316853453566312041152512, 1298074214633706907132624082305024), (16, 1298074214633706907132624082305024, 2596148429267413814265248164610048), (7, 324518553658426726783156020707328, 0), (127, 2596148429267413814265248164872192, 0), (255, 0, 16)] (by kernel_rfl) (by kernel_rfl) (by kernel_rfl) ?_
           refine DX.takeW 0 1 (by kernel_rfl) rfl rfl rfl rfl rfl (yw_move rfl rfl) ?_
           refine DX.takeW 1 3 (by kernel_rfl) rfl rfl rfl rfl rfl (yw_index (k := 0) rfl slt_26 rfl rfl rfl (by omega) hA) ?_
           refine DX.take 2 7 (by kernel_rfl) rfl rfl rfl rfl rfl (List.nil_sublist _) (y_elem1 rfl rfl one_9 hR (by simp) (map_get hx1g)) ?_
           refine DX.takeW 3 15 (by kernel_rfl) rfl rfl rfl rfl rfl (yw_move rfl rfl) ?_
           refine DX.takeW 4 31 (by kernel_rfl) rfl rfl rfl rfl rfl (yw_index (k := 0) rfl slt_26 rfl rfl rfl (by omega) hA) ?_
           refine DX.take 5 63 (by kernel_rfl) rfl rfl rfl rfl rfl (List.nil_sublist _) (y_elem1 rfl rfl one_9 hR (by simp) (map_get hx1g)) ?_
           refine DX.step 6 127 (by kernel_rfl) rfl rfl rfl (op_storeAll (i := 1) rfl rfl rfl rfl szt_9 rfl (plain_of rfl) rfl rfl (DXs.mk (List.nil_sublist _) ?_))
           refine DX.step 7 255 (by kernel_rfl) rfl rfl rfl (op_storeAll (i := 0) rfl rfl rfl rfl szt_9 rfl (plain_of rfl) rfl rfl (DXs.mk (List.nil_sublist _) ?_))
           refine DX.takeW 8 511 (by kernel_rfl) rfl rfl rfl rfl rfl (yw_assign rfl rfl) ?_
           refine DX.done (by kernel_rfl) (XX.next (V' := [(0, _), (1, _), (2, _), (3, _), (4, _), (10, .bool false), (11, _), (12, _), (17, _), (18, _), (21, _), (22, _), (23, _), (24, _), (25, _), (26, _), (27, _), (28, _), (29, _), (30, _), (31, _), (32, _), (33, _), (34, _), (35, _), (36, _), (37, _), (38, _), (39, _), (40, _), (41, _), (42, _), (43, _), (44, _), (45, _), (46, _), (55, _), (56, _), (57, _), (58, _), (67, _), (68, _), (69, _), (99, _), (100, _), (101, _), (102, _), (103, _), (104, _), (105, _), (106, _), (107, _), (108, _), (109, _), (110, _), (111, _)]) ⟨rfl, rfl, rfl, rfl, rfl, rfl, rfl, rfl, rfl, rfl, rfl, rfl, rfl, rfl, rfl, rfl, rfl, rfl, rfl, rfl, rfl, rfl, rfl, rfl, rfl, rfl, rfl, rfl, rfl, rfl, rfl, rfl, rfl, rfl, rfl, rfl, rfl, rfl, rfl, rfl, rfl, rfl, rfl, rfl, rfl, rfl, rfl, rfl, rfl, rfl, rfl, rfl, rfl, rfl, rfl, rfl, trivial⟩ ?_)
           refine CX.seq ?_
           refine CX.seq ?_
           refine CX.region ?_
           refine RX.cons rfl rfl (op_w (yw_move rfl rfl) rfl rfl ?_)
           refine RX.cons rfl rfl (op_callE rfl rfl rfl rfl rfl ent_49 (fun w _ => w_backD B1 (List.length (way : List (ByteArray × Bool))) d1) (fun zbbackD _ => ?_))
           refine RX.nil (XX.next (V' := [(0, _), (1, _), (2, _), (3, _), (4, _), (10, .bool false), (11, _), (12, _), (17, _), (18, _), (21, _), (22, _), (23, _), (24, _), (25, _), (26, _), (27, _), (28, _), (29, _), (30, _), (31, _), (32, _), (33, _), (34, _), (35, _), (36, _), (37, _), (38, _), (39, _), (40, _), (41, _), (42, _), (43, _), (44, _), (45, _), (46, _), (55, _), (56, _), (57, _), (58, _), (67, _), (68, _), (69, _), (99, _), (100, _), (101, _), (102, _), (103, _), (104, _), (105, _), (106, _), (107, _), (108, _), (109, _), (110, _), (111, _), (112, _), (113, _)]) ⟨rfl, rfl, rfl, rfl, rfl, rfl, rfl, rfl, rfl, rfl, rfl, rfl, rfl, rfl, rfl, rfl, rfl, rfl, rfl, rfl, rfl, rfl, rfl, rfl, rfl, rfl, rfl, rfl, rfl, rfl, rfl, rfl, rfl, rfl, rfl, rfl, rfl, rfl, rfl, rfl, rfl, rfl, rfl, rfl, rfl, rfl, rfl, rfl, rfl, rfl, rfl, rfl, rfl, rfl, rfl, rfl, rfl, rfl, trivial⟩ ?_)
           refine CX.block ?_
           refine CX.rangeFunc (σ := (D32 × D32)) (LL := fun h => [.blk g17 (.cells (#[.string (Subtype.val (Prod.fst h))]) 9 (0, 0)), .blk g18 (.cells (#[.string (Subtype.val (Prod.snd h))]) 9 (0, 0))]) (post := fun h => h = (List.foldr (fun a s => stepX s a) ((⟨x1, hx1s⟩, ⟨x1, hx1s⟩) : D32 × D32) way)) [.blk g17 (.cells (#[.string x1]) 9 (0, 0)), .blk g18 (.cells (#[.string x1]) 9 (0, 0))] [.blk zbbackD (.cells (#[.slice B1 (List.length (way : List (ByteArray × Bool))) d1]) 80 (0, 0)), .row B1 d1 85 2 (List.map sideC way)] ((perm_pick 2 rfl).trans (List.Perm.cons _ ((perm_pick 1 rfl).trans (List.Perm.cons _ (List.Perm.refl _))))) rfl ent_77 ?_ ?_
           ·intro l Dk fn a w1 ha hw hs
            have hM : SL w [] w1 ((RB l Dk (mkRec fn a.tmps _ _ _ Dk) ++ (fun h : (D32 × D32) => [.blk g17 (.cells (#[.string (Subtype.val (Prod.fst h))]) 9 (0, 0)), .blk g18 (.cells (#[.string (Subtype.val (Prod.snd h))]) 9 (0, 0))]) ((⟨x1, hx1s⟩, ⟨x1, hx1s⟩) : D32 × D32)) ++ [.blk zbbackD (.cells (#[.slice B1 (List.length (way : List (ByteArray × Bool))) d1]) 80 (0, 0)), .row B1 d1 85 2 (List.map sideC way)]) := hw
            have hO0 := hM.fresh (List.subset_append_left _ _) (World.block_lt_of_cell? w _ (hG 0 _ rfl))
            have hGw : Rounds w1 := hG.keep hw (by simp)
            refine (w_backD1 (l := l) (Dk := Dk) (St := (fun h : (D32 × D32) => [.blk g17 (.cells (#[.string (Subtype.val (Prod.fst h))]) 9 (0, 0)), .blk g18 (.cells (#[.string (Subtype.val (Prod.snd h))]) 9 (0, 0))])) (Rl := (fun (h : (D32 × D32)) (x : List Value) (h' : (D32 × D32)) => ∀ q a0, way[List.length way - 1 - q]? = some a0 → x = [.int .i64 ((List.length way - 1 - q : Nat) : Int), .agg (sideC a0)] → h' = stepX h a0)) (ok := (fun x => ∃ q a0, way[List.length way - 1 - q]? = some a0 ∧ x = [.int .i64 ((List.length way - 1 - q : Nat) : Int), .agg (sideC a0)])) ((⟨x1, hx1s⟩, ⟨x1, hx1s⟩) : D32 × D32) ?_ way (Ent.rd (hM.ents _ (List.mem_of_getElem? (i := 5) rfl))) (hM.apartA hO0 1 rfl) (hM.cellOf (i := 4) rfl (by rfl)) (hM.apart 0 rfl (by simp [Ent.blocks])) (by omega) (fun q hq => by obtain ⟨a0, ha0⟩ := get_some (l := way) (k := List.length way - 1 - q) (by omega); exact ⟨q, a0, ha0, backI_at ha0⟩) hs).mono ?_
            ·rintro h x w2 ⟨q, a0, ha0, rfl⟩ hag hs2
             have ha32 := hway a0 (List.mem_of_getElem? ha0)
             have hh32 := h.1.2
             have hh33 := h.2.2
             have hO3 := hO0
             simp [Ent.blocks, mrow] at hO3
             have hnd := hs2.nodup
             simp [Ent.blocks, mrow] at hnd
             have hG2 : Rounds w2 := fun p y hp => by
                            have h0 := hGw p y hp
                            rw [← h0]
                            exact World.cell?_of_block (hag 0 (World.block_lt_of_cell? w1 _ h0) hO0)
             refine round_of_CX2 (n := Tryz.f23.ntmps) (V0 := [(115, .agg (sideC a0)), (114, .int .i64 ((List.length way - 1 - q : Nat) : Int)), (17, .pointer (some ⟨g17, 0, none⟩)), (18, .pointer (some ⟨g18, 0, none⟩))]) (σ := Nat) (τ := (D32 × D32)) (M := [.blk g17 (.cells (#[.string (Subtype.val (Prod.fst h))]) 9 (0, 0)), .blk g18 (.cells (#[.string (Subtype.val (Prod.snd h))]) 9 (0, 0))]) (fun gx => [(17, .pointer (some ⟨g17, 0, none⟩)), (18, .pointer (some ⟨g18, 0, none⟩)), (20, .pointer (some ⟨gx, 0, none⟩))]) (fun gx => [.blk gx (.cells (sideC a0) 85 (0, 0)), .blk g17 (.cells (#[.string (Subtype.val (Prod.fst h))]) 9 (0, 0)), .blk g18 (.cells (#[.string (Subtype.val (Prod.snd h))]) 9 (0, 0))]) (fun _ => True) (LL := (fun h : (D32 × D32) => [.blk g17 (.cells (#[.string (Subtype.val (Prod.fst h))]) 9 (0, 0)), .blk g18 (.cells (#[.string (Subtype.val (Prod.snd h))]) 9 (0, 0))])) (post := fun h' => ∀ q' a', way[List.length way - 1 - q']? = some a' → [Value.int .i64 ((List.length way - 1 - q : Nat) : Int), .agg (sideC a0)] = [.int .i64 ((List.length way - 1 - q' : Nat) : Int), .agg (sideC a')] → h' = stepX h a') rfl rfl rfl ?_ ?_ ?_ hs2
             ·exact ((ha.sub (V' := [(17, .pointer (some ⟨g17, 0, none⟩)), (18, .pointer (some ⟨g18, 0, none⟩))]) ⟨rfl, rfl, trivial⟩).round 114 rfl _).round 115 rfl _
             ·refine CX.region ?_
              refine RX.cons rfl rfl (op_alloc rfl rfl rfl zero_85 fun gx => ?_)
              refine RX.cons rfl rfl (op_storeAll (i := 0) rfl rfl rfl rfl szt_85 rfl (plain_of rfl) rfl rfl ?_)
              refine RX.nil (XX.meetP ([]) gx trivial ⟨rfl, rfl, rfl, trivial⟩ ((perm_pick 1 rfl).trans (List.Perm.cons _ ((perm_pick 1 rfl).trans (List.Perm.cons _ ((perm_pick 0 rfl).trans (List.Perm.cons _ ((perm_pick 0 rfl).trans (List.Perm.cons _ ((perm_pick 0 rfl).trans (List.Perm.cons _ (List.Perm.refl _))))))))))))
             ·intro gx _
              refine CX.block ?_
              refine CX.seq ?_
              refine CX.seq ?_
              refine CX.region ?_
              refine RX.cons rfl rfl (op_w (yw_fieldAddr rfl fld_85_1 rfl) rfl rfl ?_)
              refine RX.cons rfl rfl (op_yld (y_load (i := 2) rfl rfl one_4 rfl rfl) rfl rfl ?_)
              refine RX.nil (XX.next (V' := [(17, _), (18, _), (20, _), (117, _)]) ⟨rfl, rfl, rfl, rfl, trivial⟩ ?_)
              refine CX.cond (b := a0.2) rfl (fun c117 => ?_) (fun c117 => ?_)
              ·refine CX.region ?_
               refine RX.cons rfl rfl (op_yld (y_loadA (i := 2) rfl rfl agg_85 rfl rfl) rfl rfl ?_)
               refine RX.cons rfl rfl (op_yld (y_load (i := 3) rfl rfl one_9 rfl rfl) rfl rfl ?_)
               refine RX.cons rfl rfl (op_callV (v := .string (joinS sum a0 (Subtype.val (Prod.fst h)))) rfl rfl rfl rfl rfl ent_50 (fun w hw => w_joinS a0.1 (Subtype.val (Prod.fst h)) a0.2 (hG2.keep hw hO0) (by omega) (by omega)) ?_)
               refine RX.cons rfl rfl (op_storeAll (i := 3) rfl rfl rfl rfl szt_9 rfl (plain_of rfl) rfl rfl ?_)
               refine RX.nil (XX.next (V' := [(18, _), (20, _)]) ⟨rfl, rfl, trivial⟩ ?_)
               refine CX.region ?_
               refine RX.cons rfl rfl (op_yld (y_loadA (i := 2) rfl rfl agg_85 rfl rfl) rfl rfl ?_)
               refine RX.cons rfl rfl (op_yld (y_load (i := 4) rfl rfl one_9 rfl rfl) rfl rfl ?_)
               refine RX.cons rfl rfl (op_callV (v := .string (joinS sum a0 (Subtype.val (Prod.snd h)))) rfl rfl rfl rfl rfl ent_50 (fun w hw => w_joinS a0.1 (Subtype.val (Prod.snd h)) a0.2 (hG2.keep hw hO0) (by omega) (by omega)) ?_)
               refine RX.cons rfl rfl (op_storeAll (i := 4) rfl rfl rfl rfl szt_9 rfl (plain_of rfl) rfl rfl ?_)
               refine RX.nil (XX.inBlock (V' := []) trivial ?_)
               refine XX.meetP ([.blk gx (.cells (sideC a0) 85 (0, 0))]) ((stepJ h.1 a0, stepJ h.2 a0) : D32 × D32) (fun q' a' _ he => by rw [← side_inj he]; simp [stepX, c117]) trivial ((perm_pick 0 rfl).trans (List.Perm.cons _ ((perm_pick 0 rfl).trans (List.Perm.cons _ ((perm_pick 1 rfl).trans (List.Perm.cons _ ((perm_pick 1 rfl).trans (List.Perm.cons _ (List.Perm.refl _)))))))))
              ·refine CX.skip (XX.next (V' := [(18, _), (20, _)]) ⟨rfl, rfl, trivial⟩ ?_)
               refine CX.region ?_
               refine RX.cons rfl rfl (op_yld (y_loadA (i := 2) rfl rfl agg_85 rfl rfl) rfl rfl ?_)
               refine RX.cons rfl rfl (op_yld (y_load (i := 4) rfl rfl one_9 rfl rfl) rfl rfl ?_)
               refine RX.cons rfl rfl (op_callV (v := .string (joinS sum a0 (Subtype.val (Prod.snd h)))) rfl rfl rfl rfl rfl ent_50 (fun w hw => w_joinS a0.1 (Subtype.val (Prod.snd h)) a0.2 (hG2.keep hw hO0) (by omega) (by omega)) ?_)
               refine RX.cons rfl rfl (op_storeAll (i := 4) rfl rfl rfl rfl szt_9 rfl (plain_of rfl) rfl rfl ?_)
               refine RX.nil (XX.inBlock (V' := []) trivial ?_)
               refine XX.meetP ([.blk gx (.cells (sideC a0) 85 (0, 0))]) ((h.1, stepJ h.2 a0) : D32 × D32) (fun q' a' _ he => by rw [← side_inj he]; simp [stepX, c117]) trivial ((perm_pick 0 rfl).trans (List.Perm.cons _ ((perm_pick 0 rfl).trans (List.Perm.cons _ ((perm_pick 1 rfl).trans (List.Perm.cons _ ((perm_pick 1 rfl).trans (List.Perm.cons _ (List.Perm.refl _)))))))))
            ·exact fun e w' ⟨h, hst, he, hz⟩ => ⟨h, Steps.backAll (f := sideV) (step := fun (h : (D32 × D32)) (a : (ByteArray × Bool)) => stepX h a) way (fun s q a0 s' h0 hr => hr q a0 h0 (backI_at h0)) hst, ⟨_, he⟩, hz⟩
           ·intro h l Dk ob hh
            have hhv : (h.1.1, h.2.1) = foldX way (x1, x1) := by rw [hh, stepX_fold]
            refine XX.inBlock (V' := [(0, _), (2, _), (4, _), (17, _), (18, _)]) ⟨rfl, rfl, rfl, rfl, rfl, trivial⟩ ?_
            refine XX.next (V' := [(0, _), (2, _), (4, _), (17, _), (18, _)]) ⟨rfl, rfl, rfl, rfl, rfl, trivial⟩ ?_
            refine CX.seq ?_
            refine CX.region ?_
            refine RX.cons rfl rfl (op_w (yw_move rfl rfl) rfl rfl ?_)
            refine RX.cons rfl rfl (op_w (yw_lenS rfl Tryz.underlying26 rfl) rfl rfl ?_)
            refine RX.cons rfl rfl (op_w (yw_eql rfl rfl rfl) rfl rfl ?_)
            refine RX.cons rfl rfl (op_w (yw_move rfl rfl) rfl rfl ?_)
            refine RX.splitD (t := 127) (p := ((0 : Nat) : Int) = 0) rfl (fun d127 => ?_) (fun d127 => ?_)
            ·refine RX.consG rfl rfl rfl rfl rfl (op_yld (y_load (i := 2) rfl rfl one_9 rfl rfl) rfl rfl ?_)
             refine RX.consG rfl rfl rfl rfl rfl (op_w (yw_move rfl rfl) rfl rfl ?_)
             refine RX.consG rfl rfl rfl rfl rfl (op_w (yw_streq rfl rfl rfl) rfl rfl ?_)
             refine RX.cons rfl rfl (op_w (yw_pickT rfl rfl rfl) rfl rfl ?_)
             refine RX.cons rfl rfl (op_w (yw_move rfl rfl) rfl rfl ?_)
             refine RX.splitD (t := 132) (p := ByteArray.toList (Subtype.val (Prod.fst h)) = ByteArray.toList old) rfl (fun d132 => ?_) (fun d132 => ?_)
             ·refine RX.consG rfl rfl rfl rfl rfl (op_yld (y_load (i := 3) rfl rfl one_9 rfl rfl) rfl rfl ?_)
              refine RX.consG rfl rfl rfl rfl rfl (op_w (yw_move rfl rfl) rfl rfl ?_)
              refine RX.consG rfl rfl rfl rfl rfl (op_w (yw_streq rfl rfl rfl) rfl rfl ?_)
              refine RX.cons rfl rfl (op_w (yw_pickT rfl rfl rfl) rfl rfl ?_)
              refine RX.cons rfl rfl (op_w (yw_assign rfl rfl) rfl rfl ?_)
              refine RX.nil (XX.next (V' := [(10, .bool (decide (ByteArray.toList (Subtype.val (Prod.snd h)) = ByteArray.toList root)))]) ⟨rfl, trivial⟩ ?_)
              refine CX.ret ?_
              exact ret_tmpM (k := 1) rfl rfl rfl fun w1 hw => ⟨by rw [verX_some hm0 hmn2 (f := h.1.1) (s := h.2.1) (by rw [hval, hbf, hhv]; rfl)]; simp [d132], hw.sub (List.nil_sublist _)⟩
             ·refine RX.skip rfl rfl rfl rfl rfl rfl rfl ?_
              refine RX.skip rfl rfl rfl rfl rfl rfl rfl ?_
              refine RX.skip rfl rfl rfl rfl rfl rfl rfl ?_
              refine RX.cons rfl rfl (op_w (yw_pickF rfl rfl rfl) rfl rfl ?_)
              refine RX.cons rfl rfl (op_w (yw_assign rfl rfl) rfl rfl ?_)
              refine RX.nil (XX.next (V' := [(10, .bool false)]) ⟨rfl, trivial⟩ ?_)
              refine CX.ret ?_
              exact ret_tmpM (k := 1) rfl rfl rfl fun w1 hw => ⟨by rw [verX_some hm0 hmn2 (f := h.1.1) (s := h.2.1) (by rw [hval, hbf, hhv]; rfl)]; simp [d132], hw.sub (List.nil_sublist _)⟩
            ·refine RX.skip rfl rfl rfl rfl rfl rfl rfl ?_
             refine RX.skip rfl rfl rfl rfl rfl rfl rfl ?_
             refine RX.skip rfl rfl rfl rfl rfl rfl rfl ?_
             refine RX.cons rfl rfl (op_w (yw_pickF rfl rfl rfl) rfl rfl ?_)
             refine RX.cons rfl rfl (op_w (yw_move rfl rfl) rfl rfl ?_)
             refine RX.skip rfl rfl rfl rfl rfl rfl rfl ?_
             refine RX.skip rfl rfl rfl rfl rfl rfl rfl ?_
             refine RX.skip rfl rfl rfl rfl rfl rfl rfl ?_
             refine RX.cons rfl rfl (op_w (yw_pickF rfl rfl rfl) rfl rfl ?_)
             refine RX.cons rfl rfl (op_w (yw_assign rfl rfl) rfl rfl ?_)
             refine RX.nil (XX.next (V' := [(10, .bool false)]) ⟨rfl, trivial⟩ ?_)
             refine CX.ret ?_
             exact absurd (by decide) d127
         ·have hwh : wh = true := by simpa using c102
          have hbt : both sum old ps.reverse j k wh = if ps.length = 0 then some (old, old) else none := by rw [hwh, both_true _ (by omega)]; simp [List.reverse_eq_nil_iff]
          refine CX.skip (XX.next (V' := [(0, _), (1, _), (2, _), (3, _), (4, _), (10, .bool false), (11, _), (12, _), (17, _), (18, _), (21, _), (22, _), (23, _), (24, _), (25, _), (26, _), (27, _), (28, _), (29, _), (30, _), (31, _), (32, _), (33, _), (34, _), (35, _), (36, _), (37, _), (38, _), (39, _), (40, _), (41, _), (42, _), (43, _), (44, _), (45, _), (46, _), (55, _), (56, _), (57, _), (58, _), (67, _), (68, _), (69, _), (99, _), (100, _), (101, _), (102, _)]) ⟨rfl, rfl, rfl, rfl, rfl, rfl, rfl, rfl, rfl, rfl, rfl, rfl, rfl, rfl, rfl, rfl, rfl, rfl, rfl, rfl, rfl, rfl, rfl, rfl, rfl, rfl, rfl, rfl, rfl, rfl, rfl, rfl, rfl, rfl, rfl, rfl, rfl, rfl, rfl, rfl, rfl, rfl, rfl, rfl, rfl, rfl, rfl, trivial⟩ ?_)
          refine CX.seq ?_
          refine CX.seq ?_
          refine CX.region ?_
          refine RX.cons rfl rfl (op_w (yw_move rfl rfl) rfl rfl ?_)
          refine RX.cons rfl rfl (op_callE rfl rfl rfl rfl rfl ent_49 (fun w _ => w_backD B1 (List.length (way : List (ByteArray × Bool))) d1) (fun zbbackD _ => ?_))
          refine RX.nil (XX.next (V' := [(0, _), (1, _), (2, _), (3, _), (4, _), (10, .bool false), (11, _), (12, _), (17, _), (18, _), (21, _), (22, _), (23, _), (24, _), (25, _), (26, _), (27, _), (28, _), (29, _), (30, _), (31, _), (32, _), (33, _), (34, _), (35, _), (36, _), (37, _), (38, _), (39, _), (40, _), (41, _), (42, _), (43, _), (44, _), (45, _), (46, _), (55, _), (56, _), (57, _), (58, _), (67, _), (68, _), (69, _), (99, _), (100, _), (101, _), (102, _), (112, _), (113, _)]) ⟨rfl, rfl, rfl, rfl, rfl, rfl, rfl, rfl, rfl, rfl, rfl, rfl, rfl, rfl, rfl, rfl, rfl, rfl, rfl, rfl, rfl, rfl, rfl, rfl, rfl, rfl, rfl, rfl, rfl, rfl, rfl, rfl, rfl, rfl, rfl, rfl, rfl, rfl, rfl, rfl, rfl, rfl, rfl, rfl, rfl, rfl, rfl, rfl, rfl, trivial⟩ ?_)
          refine CX.block ?_
          refine CX.rangeFunc (σ := (D32 × D32)) (LL := fun h => [.blk g17 (.cells (#[.string (Subtype.val (Prod.fst h))]) 9 (0, 0)), .blk g18 (.cells (#[.string (Subtype.val (Prod.snd h))]) 9 (0, 0))]) (post := fun h => h = (List.foldr (fun a s => stepX s a) ((⟨old, ho⟩, ⟨old, ho⟩) : D32 × D32) way)) [.blk g17 (.cells (#[.string old]) 9 (0, 0)), .blk g18 (.cells (#[.string old]) 9 (0, 0))] [.blk zbbackD (.cells (#[.slice B1 (List.length (way : List (ByteArray × Bool))) d1]) 80 (0, 0)), .row B1 d1 85 2 (List.map sideC way)] ((perm_pick 2 rfl).trans (List.Perm.cons _ ((perm_pick 1 rfl).trans (List.Perm.cons _ (List.Perm.refl _))))) rfl ent_77 ?_ ?_
          ·intro l Dk fn a w1 ha hw hs
           have hM : SL w [] w1 ((RB l Dk (mkRec fn a.tmps _ _ _ Dk) ++ (fun h : (D32 × D32) => [.blk g17 (.cells (#[.string (Subtype.val (Prod.fst h))]) 9 (0, 0)), .blk g18 (.cells (#[.string (Subtype.val (Prod.snd h))]) 9 (0, 0))]) ((⟨old, ho⟩, ⟨old, ho⟩) : D32 × D32)) ++ [.blk zbbackD (.cells (#[.slice B1 (List.length (way : List (ByteArray × Bool))) d1]) 80 (0, 0)), .row B1 d1 85 2 (List.map sideC way)]) := hw
           have hO0 := hM.fresh (List.subset_append_left _ _) (World.block_lt_of_cell? w _ (hG 0 _ rfl))
           have hGw : Rounds w1 := hG.keep hw (by simp)
           refine (w_backD1 (l := l) (Dk := Dk) (St := (fun h : (D32 × D32) => [.blk g17 (.cells (#[.string (Subtype.val (Prod.fst h))]) 9 (0, 0)), .blk g18 (.cells (#[.string (Subtype.val (Prod.snd h))]) 9 (0, 0))])) (Rl := (fun (h : (D32 × D32)) (x : List Value) (h' : (D32 × D32)) => ∀ q a0, way[List.length way - 1 - q]? = some a0 → x = [.int .i64 ((List.length way - 1 - q : Nat) : Int), .agg (sideC a0)] → h' = stepX h a0)) (ok := (fun x => ∃ q a0, way[List.length way - 1 - q]? = some a0 ∧ x = [.int .i64 ((List.length way - 1 - q : Nat) : Int), .agg (sideC a0)])) ((⟨old, ho⟩, ⟨old, ho⟩) : D32 × D32) ?_ way (Ent.rd (hM.ents _ (List.mem_of_getElem? (i := 5) rfl))) (hM.apartA hO0 1 rfl) (hM.cellOf (i := 4) rfl (by rfl)) (hM.apart 0 rfl (by simp [Ent.blocks])) (by omega) (fun q hq => by obtain ⟨a0, ha0⟩ := get_some (l := way) (k := List.length way - 1 - q) (by omega); exact ⟨q, a0, ha0, backI_at ha0⟩) hs).mono ?_
           ·rintro h x w2 ⟨q, a0, ha0, rfl⟩ hag hs2
            have ha32 := hway a0 (List.mem_of_getElem? ha0)
            have hh32 := h.1.2
            have hh33 := h.2.2
            have hO3 := hO0
            simp [Ent.blocks, mrow] at hO3
            have hnd := hs2.nodup
            simp [Ent.blocks, mrow] at hnd
            have hG2 : Rounds w2 := fun p y hp => by
                          have h0 := hGw p y hp
                          rw [← h0]
                          exact World.cell?_of_block (hag 0 (World.block_lt_of_cell? w1 _ h0) hO0)
            refine round_of_CX2 (n := Tryz.f23.ntmps) (V0 := [(115, .agg (sideC a0)), (114, .int .i64 ((List.length way - 1 - q : Nat) : Int)), (17, .pointer (some ⟨g17, 0, none⟩)), (18, .pointer (some ⟨g18, 0, none⟩))]) (σ := Nat) (τ := (D32 × D32)) (M := [.blk g17 (.cells (#[.string (Subtype.val (Prod.fst h))]) 9 (0, 0)), .blk g18 (.cells (#[.string (Subtype.val (Prod.snd h))]) 9 (0, 0))]) (fun gx => [(17, .pointer (some ⟨g17, 0, none⟩)), (18, .pointer (some ⟨g18, 0, none⟩)), (20, .pointer (some ⟨gx, 0, none⟩))]) (fun gx => [.blk gx (.cells (sideC a0) 85 (0, 0)), .blk g17 (.cells (#[.string (Subtype.val (Prod.fst h))]) 9 (0, 0)), .blk g18 (.cells (#[.string (Subtype.val (Prod.snd h))]) 9 (0, 0))]) (fun _ => True) (LL := (fun h : (D32 × D32) => [.blk g17 (.cells (#[.string (Subtype.val (Prod.fst h))]) 9 (0, 0)), .blk g18 (.cells (#[.string (Subtype.val (Prod.snd h))]) 9 (0, 0))])) (post := fun h' => ∀ q' a', way[List.length way - 1 - q']? = some a' → [Value.int .i64 ((List.length way - 1 - q : Nat) : Int), .agg (sideC a0)] = [.int .i64 ((List.length way - 1 - q' : Nat) : Int), .agg (sideC a')] → h' = stepX h a') rfl rfl rfl ?_ ?_ ?_ hs2
            ·exact ((ha.sub (V' := [(17, .pointer (some ⟨g17, 0, none⟩)), (18, .pointer (some ⟨g18, 0, none⟩))]) ⟨rfl, rfl, trivial⟩).round 114 rfl _).round 115 rfl _
            ·refine CX.region ?_
             refine RX.cons rfl rfl (op_alloc rfl rfl rfl zero_85 fun gx => ?_)
             refine RX.cons rfl rfl (op_storeAll (i := 0) rfl rfl rfl rfl szt_85 rfl (plain_of rfl) rfl rfl ?_)
             refine RX.nil (XX.meetP ([]) gx trivial ⟨rfl, rfl, rfl, trivial⟩ ((perm_pick 1 rfl).trans (List.Perm.cons _ ((perm_pick 1 rfl).trans (List.Perm.cons _ ((perm_pick 0 rfl).trans (List.Perm.cons _ ((perm_pick 0 rfl).trans (List.Perm.cons _ ((perm_pick 0 rfl).trans (List.Perm.cons _ (List.Perm.refl _))))))))))))
            ·intro gx _
             refine CX.block ?_
             refine CX.seq ?_
             refine CX.seq ?_
             refine CX.region ?_
             refine RX.cons rfl rfl (op_w (yw_fieldAddr rfl fld_85_1 rfl) rfl rfl ?_)
             refine RX.cons rfl rfl (op_yld (y_load (i := 2) rfl rfl one_4 rfl rfl) rfl rfl ?_)
             refine RX.nil (XX.next (V' := [(17, _), (18, _), (20, _), (117, _)]) ⟨rfl, rfl, rfl, rfl, trivial⟩ ?_)
             refine CX.cond (b := a0.2) rfl (fun c117 => ?_) (fun c117 => ?_)
             ·refine CX.region ?_
              refine RX.cons rfl rfl (op_yld (y_loadA (i := 2) rfl rfl agg_85 rfl rfl) rfl rfl ?_)
              refine RX.cons rfl rfl (op_yld (y_load (i := 3) rfl rfl one_9 rfl rfl) rfl rfl ?_)
              refine RX.cons rfl rfl (op_callV (v := .string (joinS sum a0 (Subtype.val (Prod.fst h)))) rfl rfl rfl rfl rfl ent_50 (fun w hw => w_joinS a0.1 (Subtype.val (Prod.fst h)) a0.2 (hG2.keep hw hO0) (by omega) (by omega)) ?_)
              refine RX.cons rfl rfl (op_storeAll (i := 3) rfl rfl rfl rfl szt_9 rfl (plain_of rfl) rfl rfl ?_)
              refine RX.nil (XX.next (V' := [(18, _), (20, _)]) ⟨rfl, rfl, trivial⟩ ?_)
              refine CX.region ?_
              refine RX.cons rfl rfl (op_yld (y_loadA (i := 2) rfl rfl agg_85 rfl rfl) rfl rfl ?_)
              refine RX.cons rfl rfl (op_yld (y_load (i := 4) rfl rfl one_9 rfl rfl) rfl rfl ?_)
              refine RX.cons rfl rfl (op_callV (v := .string (joinS sum a0 (Subtype.val (Prod.snd h)))) rfl rfl rfl rfl rfl ent_50 (fun w hw => w_joinS a0.1 (Subtype.val (Prod.snd h)) a0.2 (hG2.keep hw hO0) (by omega) (by omega)) ?_)
              refine RX.cons rfl rfl (op_storeAll (i := 4) rfl rfl rfl rfl szt_9 rfl (plain_of rfl) rfl rfl ?_)
              refine RX.nil (XX.inBlock (V' := []) trivial ?_)
              refine XX.meetP ([.blk gx (.cells (sideC a0) 85 (0, 0))]) ((stepJ h.1 a0, stepJ h.2 a0) : D32 × D32) (fun q' a' _ he => by rw [← side_inj he]; simp [stepX, c117]) trivial ((perm_pick 0 rfl).trans (List.Perm.cons _ ((perm_pick 0 rfl).trans (List.Perm.cons _ ((perm_pick 1 rfl).trans (List.Perm.cons _ ((perm_pick 1 rfl).trans (List.Perm.cons _ (List.Perm.refl _)))))))))
             ·refine CX.skip (XX.next (V' := [(18, _), (20, _)]) ⟨rfl, rfl, trivial⟩ ?_)
              refine CX.region ?_
              refine RX.cons rfl rfl (op_yld (y_loadA (i := 2) rfl rfl agg_85 rfl rfl) rfl rfl ?_)
              refine RX.cons rfl rfl (op_yld (y_load (i := 4) rfl rfl one_9 rfl rfl) rfl rfl ?_)
              refine RX.cons rfl rfl (op_callV (v := .string (joinS sum a0 (Subtype.val (Prod.snd h)))) rfl rfl rfl rfl rfl ent_50 (fun w hw => w_joinS a0.1 (Subtype.val (Prod.snd h)) a0.2 (hG2.keep hw hO0) (by omega) (by omega)) ?_)
              refine RX.cons rfl rfl (op_storeAll (i := 4) rfl rfl rfl rfl szt_9 rfl (plain_of rfl) rfl rfl ?_)
              refine RX.nil (XX.inBlock (V' := []) trivial ?_)
              refine XX.meetP ([.blk gx (.cells (sideC a0) 85 (0, 0))]) ((h.1, stepJ h.2 a0) : D32 × D32) (fun q' a' _ he => by rw [← side_inj he]; simp [stepX, c117]) trivial ((perm_pick 0 rfl).trans (List.Perm.cons _ ((perm_pick 0 rfl).trans (List.Perm.cons _ ((perm_pick 1 rfl).trans (List.Perm.cons _ ((perm_pick 1 rfl).trans (List.Perm.cons _ (List.Perm.refl _)))))))))
           ·exact fun e w' ⟨h, hst, he, hz⟩ => ⟨h, Steps.backAll (f := sideV) (step := fun (h : (D32 × D32)) (a : (ByteArray × Bool)) => stepX h a) way (fun s q a0 s' h0 hr => hr q a0 h0 (backI_at h0)) hst, ⟨_, he⟩, hz⟩
          ·intro h l Dk ob hh
           have hhv : (h.1.1, h.2.1) = foldX way (old, old) := by rw [hh, stepX_fold]
           refine XX.inBlock (V' := [(0, _), (2, _), (4, _), (17, _), (18, _)]) ⟨rfl, rfl, rfl, rfl, rfl, trivial⟩ ?_
           refine XX.next (V' := [(0, _), (2, _), (4, _), (17, _), (18, _)]) ⟨rfl, rfl, rfl, rfl, rfl, trivial⟩ ?_
           refine CX.seq ?_
           refine CX.region ?_
           refine RX.cons rfl rfl (op_w (yw_move rfl rfl) rfl rfl ?_)
           refine RX.cons rfl rfl (op_w (yw_lenS rfl Tryz.underlying26 rfl) rfl rfl ?_)
           refine RX.cons rfl rfl (op_w (yw_eql rfl rfl rfl) rfl rfl ?_)
           refine RX.cons rfl rfl (op_w (yw_move rfl rfl) rfl rfl ?_)
           refine RX.splitD (t := 127) (p := ((ps.length : Nat) : Int) = 0) rfl (fun d127 => ?_) (fun d127 => ?_)
           ·refine RX.consG rfl rfl rfl rfl rfl (op_yld (y_load (i := 2) rfl rfl one_9 rfl rfl) rfl rfl ?_)
            refine RX.consG rfl rfl rfl rfl rfl (op_w (yw_move rfl rfl) rfl rfl ?_)
            refine RX.consG rfl rfl rfl rfl rfl (op_w (yw_streq rfl rfl rfl) rfl rfl ?_)
            refine RX.cons rfl rfl (op_w (yw_pickT rfl rfl rfl) rfl rfl ?_)
            refine RX.cons rfl rfl (op_w (yw_move rfl rfl) rfl rfl ?_)
            refine RX.splitD (t := 132) (p := ByteArray.toList (Subtype.val (Prod.fst h)) = ByteArray.toList old) rfl (fun d132 => ?_) (fun d132 => ?_)
            ·refine RX.consG rfl rfl rfl rfl rfl (op_yld (y_load (i := 3) rfl rfl one_9 rfl rfl) rfl rfl ?_)
             refine RX.consG rfl rfl rfl rfl rfl (op_w (yw_move rfl rfl) rfl rfl ?_)
             refine RX.consG rfl rfl rfl rfl rfl (op_w (yw_streq rfl rfl rfl) rfl rfl ?_)
             refine RX.cons rfl rfl (op_w (yw_pickT rfl rfl rfl) rfl rfl ?_)
             refine RX.cons rfl rfl (op_w (yw_assign rfl rfl) rfl rfl ?_)
             refine RX.nil (XX.next (V' := [(10, .bool (decide (ByteArray.toList (Subtype.val (Prod.snd h)) = ByteArray.toList root)))]) ⟨rfl, trivial⟩ ?_)
             refine CX.ret ?_
             exact ret_tmpM (k := 1) rfl rfl rfl fun w1 hw => ⟨by rw [verX_some hm0 hmn2 (f := h.1.1) (s := h.2.1) (by rw [hval, hbt, if_pos (by omega), hhv]; rfl)]; simp [d132], hw.sub (List.nil_sublist _)⟩
            ·refine RX.skip rfl rfl rfl rfl rfl rfl rfl ?_
             refine RX.skip rfl rfl rfl rfl rfl rfl rfl ?_
             refine RX.skip rfl rfl rfl rfl rfl rfl rfl ?_
             refine RX.cons rfl rfl (op_w (yw_pickF rfl rfl rfl) rfl rfl ?_)
             refine RX.cons rfl rfl (op_w (yw_assign rfl rfl) rfl rfl ?_)
             refine RX.nil (XX.next (V' := [(10, .bool false)]) ⟨rfl, trivial⟩ ?_)
             refine CX.ret ?_
             exact ret_tmpM (k := 1) rfl rfl rfl fun w1 hw => ⟨by rw [verX_some hm0 hmn2 (f := h.1.1) (s := h.2.1) (by rw [hval, hbt, if_pos (by omega), hhv]; rfl)]; simp [d132], hw.sub (List.nil_sublist _)⟩
           ·refine RX.skip rfl rfl rfl rfl rfl rfl rfl ?_
            refine RX.skip rfl rfl rfl rfl rfl rfl rfl ?_
            refine RX.skip rfl rfl rfl rfl rfl rfl rfl ?_
            refine RX.cons rfl rfl (op_w (yw_pickF rfl rfl rfl) rfl rfl ?_)
            refine RX.cons rfl rfl (op_w (yw_move rfl rfl) rfl rfl ?_)
            refine RX.skip rfl rfl rfl rfl rfl rfl rfl ?_
            refine RX.skip rfl rfl rfl rfl rfl rfl rfl ?_
            refine RX.skip rfl rfl rfl rfl rfl rfl rfl ?_
            refine RX.cons rfl rfl (op_w (yw_pickF rfl rfl rfl) rfl rfl ?_)
            refine RX.cons rfl rfl (op_w (yw_assign rfl rfl) rfl rfl ?_)
            refine RX.nil (XX.next (V' := [(10, .bool false)]) ⟨rfl, trivial⟩ ?_)
            refine CX.ret ?_
            exact ret_tmpM (k := 1) rfl rfl rfl fun w1 hw => ⟨by rw [verX_none hm0 hmn2 (by rw [hval, hbt, if_neg (by omega)]; rfl)], hw.sub (List.nil_sublist _)⟩

end Go.Proofs.YtnadipjlhlbfoaaGreatDoor
namespace Go.Proofs.YtnadipjlhlbfoaaGreatDoor
set_option linter.all false
open Go Go.RowKit
/-- The groups of seven bits, and whether each is the last. -/
def putW : Nat → BitVec 64 → List (BitVec 8 × Bool)
  | 0, _ => []
  | f + 1, z => if z.toNat < 128 then [((z &&& 127#64).setWidth 8, true)] else ((z &&& 127#64).setWidth 8, false) :: putW f (z >>> 7)
theorem putW_last {f : Nat} {z : BitVec 64} (h : z.toNat < 128) : putW (f + 1) z = [((z &&& 127#64).setWidth 8, true)] := if_pos h
theorem putW_more {f : Nat} {z : BitVec 64} (h : ¬ z.toNat < 128) : putW (f + 1) z = ((z &&& 127#64).setWidth 8, false) :: putW f (z >>> 7) := if_neg h
def grpV (x : BitVec 8 × Bool) : List Value := [.int .u8 (wi x.1), .bool x.2]
def grpB (x : BitVec 8 × Bool) : UInt8 := UInt8.ofBitVec (if x.2 then x.1 else x.1 ||| 128#8)
theorem grp_lt {n f : Nat} (h : n < 2 ^ (7 * (f + 1))) : n / 2 ^ 7 < 2 ^ (7 * f) := by
  rw [Nat.div_lt_iff_lt_mul (by decide), ← Nat.pow_add]
  exact h
/-- A number's encoding. -/
def encI (n : Nat) : List UInt8 := (putW 10 (BitVec.ofNat 64 (2 * n))).map grpB
theorem grp_inj {a b : BitVec 8 × Bool} (h : grpV a = grpV b) : a = b := by
  unfold grpV at h
  injection h with h1 h2
  injection h2 with h2 _
  injection h1 with _ h1
  injection h2 with h2
  refine Prod.ext ?_ h2
  apply BitVec.eq_of_toNat_eq
  have : ((a.1.toNat : Nat) : Int) = ((b.1.toNat : Nat) : Int) := h1
  omega
theorem Steps.foldG {σ τ : Type} (π : σ → τ) {Rl : σ → List Value → σ → Prop} {step : τ → (BitVec 8 × Bool) → τ} {s0 : σ} (h : ∀ s x s', Rl s (grpV x) s' → π s' = step (π s) x) : ∀ (n : Nat) (l : List (BitVec 8 × Bool)), l.length = n → ∀ s', Steps Rl s0 (l.map grpV) s' → π s' = l.foldl step (π s0) := by
  intro n
  induction n with
  | zero =>
    intro l hl s' hs
    obtain rfl := List.eq_nil_of_length_eq_zero hl
    generalize hx : List.map grpV [] = X at hs
    cases hs with
    | nil => rfl
    | snoc h1 h2 => simp at hx
  | succ n ih =>
    intro l hl s' hs
    rcases List.eq_nil_or_concat l with rfl | ⟨l', a, rfl⟩
    · simp at hl
    · rw [List.concat_eq_append] at *
      generalize hx : List.map grpV (l' ++ [a]) = X at hs
      cases hs with
      | nil => simp at hx
      | snoc h1 h2 =>
        rw [List.map_append] at hx
        obtain ⟨e1, e2⟩ := List.append_inj' hx (by simp)
        subst e1
        simp only [List.map_cons, List.map_nil, List.cons.injEq, and_true] at e2
        subst e2
        rw [List.foldl_append, ← ih l' (by simp at hl; omega) _ h1]
        exact h _ _ _ h2
theorem foldl_grp (l : List (BitVec 8 × Bool)) (bs : List UInt8) : l.foldl (fun bs x => bs ++ [grpB x]) bs = bs ++ l.map grpB := by
  induction l generalizing bs with
  | nil => simp
  | cons x l ih => rw [List.foldl_cons, ih, List.append_assoc]; rfl
/-- The bytes that the rounds of PutInt gather. -/
theorem Steps.put {σ : Type} (π : σ → List UInt8) {Rl : σ → List Value → σ → Prop} {s0 : σ} (h : ∀ s x s', Rl s (grpV x) s' → π s' = π s ++ [grpB x]) (l : List (BitVec 8 × Bool)) (s' : σ) (hs : Steps Rl s0 (l.map grpV) s') : π s' = π s0 ++ l.map grpB := by
  rw [← foldl_grp]
  exact Steps.foldG π h l.length l rfl s' hs
theorem zig (n : Nat) (hn : n ≤ 4611686018427387903) : (BitVec.ofInt 64 ((n : Nat) : Int) <<< 1) ^^^ BitVec.ofInt 64 (((n : Nat) : Int) / 2 ^ 63) = BitVec.ofNat 64 (2 * n) := by
  have e1 : ((n : Nat) : Int) / 2 ^ 63 = 0 := by omega
  rw [e1]
  have e2 : BitVec.ofInt 64 0 = 0#64 := rfl
  rw [e2, BitVec.xor_zero]
  apply BitVec.eq_of_toNat_eq
  rw [BitVec.toNat_shiftLeft, BitVec.toNat_ofInt, BitVec.toNat_ofNat, Nat.shiftLeft_eq]
  omega
theorem encI_pos (n : Nat) : 0 < (encI n).length := by
  unfold encI
  rw [List.length_map]
  by_cases h : (BitVec.ofNat 64 (2 * n)).toNat < 128
  · rw [putW_last h]; simp
  · rw [putW_more h]; simp
theorem putW_length : ∀ (f : Nat) (z : BitVec 64), (putW f z).length ≤ f
  | 0, _ => Nat.le_refl _
  | f + 1, z => by
    by_cases h : z.toNat < 128
    · rw [putW_last h]; simp
    · rw [putW_more h]; simp [putW_length f]
theorem encI_le (n : Nat) : (encI n).length ≤ 10 := by unfold encI; rw [List.length_map]; exact putW_length 10 _
theorem put_more {x : BitVec 8} {b : Bool} {bs : List UInt8} (h : b = false) : bs ++ [UInt8.ofBitVec (x ||| 128#8)] = bs ++ [grpB (x, b)] := by subst h; rfl
theorem put_last {x : BitVec 8} {b : Bool} {bs : List UInt8} (h : b = true) : bs ++ [UInt8.ofBitVec x] = bs ++ [grpB (x, b)] := by subst h; rfl
end Go.Proofs.YtnadipjlhlbfoaaGreatDoor
namespace Go.Proofs.YtnadipjlhlbfoaaGreatDoor
set_option linter.all false
open Go Go.RowKit
set_option maxRecDepth 100000
theorem one_122 : One Tryz.prog 122 := ⟨_, Tryz.underlying122, rfl⟩
theorem szt_122 : SzT Tryz.prog 122 1 := ⟨(Tryz.prog.info? 122).get!, by kernel_rfl, by kernel_rfl⟩
set_option maxRecDepth 100000 in
theorem w_groups1 {w : World} {l Dk : Nat} {rec : Loop} {σ : Type} {St : σ → List Ent} {Rl : σ → List Value → σ → Prop} {ok : σ → List Value → Prop} {g1 : Nat} (z0 : BitVec 64) (s0 : σ) (hy : YieldS Tryz.prog w ((RB l Dk rec ++ ([Ent.blk g1 (.cells #[.int .u64 (wi z0)] 122 (0, 0))] ++ St s0)).flatMap Ent.blocks) l Dk rec St Rl ok) (hok : ∀ (pre : List (BitVec 8 × Bool)) s x b, Steps Rl s0 (pre.map grpV) s → pre.length < 10 → ok s (grpV (x, b))) (hs : SL w ((RB l Dk rec ++ ([Ent.blk g1 (.cells #[.int .u64 (wi z0)] 122 (0, 0))] ++ St s0)).flatMap Ent.blocks) w (RB l Dk rec ++ ([Ent.blk g1 (.cells #[.int .u64 (wi z0)] 122 (0, 0))] ++ St s0))) :
    Calls Tryz.prog 95 #[.func (.yield l) #[] #[], .pointer (some ⟨g1, 0, none⟩)] w (fun e w' => ∃ y : σ × BitVec 64, Steps Rl s0 ((putW 10 z0).map grpV) y.1 ∧ e = .returned (.tuple #[]) ∧ SL w ((RB l Dk rec ++ ([Ent.blk g1 (.cells #[.int .u64 (wi z0)] 122 (0, 0))] ++ St s0)).flatMap Ent.blocks) w' (RB l Dk rec ++ ([Ent.blk g1 (.cells #[.int .u64 (wi y.2)] 122 (0, 0))] ++ St y.1))) := by
 refine calls_of_CX (O := ((RB l Dk rec ++ ([Ent.blk g1 (.cells #[.int .u64 (wi z0)] 122 (0, 0))] ++ St s0)).flatMap Ent.blocks)) (L := ([.blk l (.loop rec), .blk Dk (.deferred (some [])), .blk g1 (.cells (#[.int .u64 (wi z0)]) 122 (0, 0))] ++ (St s0))) (args := [.func (.yield l) #[] #[], .pointer (some ⟨g1, 0, none⟩)]) Tryz.func95 rfl (by simp [Tryz.ntmps95]) hs ?_
 refine CX.sub (V' := [(0, .func (.yield l) #[] #[]), (1, .pointer (some ⟨g1, 0, none⟩))]) ⟨rfl, rfl, trivial⟩ ?_
 refine CX.block ?_
 refine CX.loop (σ := Nat × BitVec 64 × List (BitVec 8 × Bool) × σ) (fun y => [(0, .func (.yield l) #[] #[]), (1, .pointer (some ⟨g1, 0, none⟩))]) (fun y => ([.blk l (.loop rec), .blk Dk (.deferred (some [])), .blk g1 (.cells (#[.int .u64 (wi y.2.1)]) 122 (0, 0))] ++ (St y.2.2.2))) (fun y => 1 ≤ y.1 ∧ y.2.1.toNat < 2 ^ (7 * y.1) ∧ y.2.2.1.length + y.1 = 10 ∧ y.2.2.1 ++ putW y.1 y.2.1 = putW 10 z0 ∧ Steps Rl s0 (y.2.2.1.map grpV) y.2.2.2) (fun y => y.1) (10, z0, [], s0) ⟨Nat.le_of_ble_eq_true rfl, Nat.lt_trans z0.isLt (show 2 ^ 64 < 2 ^ (7 * 10) by decide), rfl, rfl, .nil s0⟩ ⟨rfl, rfl, trivial⟩ rfl (fun y hI => ?_)
 obtain ⟨f, z, pre, s⟩ := y
 dsimp only at hI ⊢
 obtain ⟨hf, hz, hpl, hp, hst⟩ := hI
 obtain ⟨f, rfl⟩ : ∃ k, f = k + 1 := ⟨f - 1, by omega⟩
 have hwi : wi z = ((z.toNat : Nat) : Int) := rfl
 refine CX.block ?_
 refine CX.seq ?_
 refine CX.region ?_
 refine RX.cons rfl rfl (op_yld (y_load (i := 2) rfl rfl one_122 rfl rfl) rfl rfl ?_)
 refine RX.cons rfl rfl (op_w (yw_lss rfl rfl rfl) rfl rfl ?_)
 refine RX.cons rfl rfl (op_w (yw_assign rfl rfl) rfl rfl ?_)
 refine RX.nil (XX.next (V' := [(0, _), (1, _), (3, _)]) ⟨rfl, rfl, rfl, trivial⟩ ?_)
 refine CX.seq ?_
 refine CX.seq ?_
 refine CX.region ?_
 refine RX.cons rfl rfl (op_w (yw_move rfl rfl) rfl rfl ?_)
 refine RX.cons rfl rfl (op_yld (y_load (i := 2) rfl rfl one_122 rfl rfl) rfl rfl ?_)
 refine RX.cons rfl rfl (op_w (yw_bvAnd (a := z) (b := 127#64) UK.u64 rfl rfl rfl) rfl rfl ?_)
 refine RX.cons rfl rfl (op_w (yw_bvConv (a := z &&& (127#64)) UK.u8 rfl rfl Tryz.underlying122 Tryz.underlying5) rfl rfl ?_)
 refine RX.cons rfl rfl (op_w (yw_move rfl rfl) rfl rfl ?_)
 refine RX.cons rfl rfl (op_yieldGR s [.blk g1 (.cells (#[.int .u64 (wi z)]) 122 (0, 0))] hy rfl rfl rfl rfl rfl (hok pre s _ _ hst (by omega)) rfl (fun s' hs' => ?_))
 refine RX.cons rfl rfl (op_w (yw_not rfl rfl) rfl rfl ?_)
 refine RX.cons rfl rfl (op_w (yw_move rfl rfl) rfl rfl ?_)
 refine RX.consG rfl rfl rfl rfl rfl (op_w (yw_move rfl rfl) rfl rfl ?_)
 refine RX.cons rfl rfl (op_w (yw_pickF rfl rfl rfl) rfl rfl ?_)
 refine RX.nil (XX.next (V' := [(0, _), (1, _), (15, _)]) ⟨rfl, rfl, rfl, trivial⟩ ?_)
 refine CX.condD (p := wi z < 128) rfl (fun c15 => ?_) (fun c15 => ?_)
 ·refine CX.ret ?_
  refine XX.then_ret ?_
  refine XX.block_ret ?_
  refine XX.then_ret ?_
  refine XX.block_ret ?_
  exact ret_none rfl fun w1 hw => ⟨(s', z), by rw [← hp, putW_last (by omega), List.map_append]; rw [decide_eq_true c15] at hs'; exact .snoc hst hs', rfl, hw⟩
 ·refine CX.skip (XX.next (V' := [(0, _), (1, _)]) ⟨rfl, rfl, trivial⟩ ?_)
  refine CX.region ?_
  refine RX.cons rfl rfl (op_yld (y_load (i := 2) rfl rfl one_122 rfl rfl) rfl rfl ?_)
  refine RX.cons rfl rfl (op_w (yw_bvShr (a := z) 7 UK.u64 rfl rfl rfl rfl) rfl rfl ?_)
  refine RX.cons rfl rfl (op_storeAll (i := 2) rfl rfl rfl rfl szt_122 rfl (plain_of rfl) rfl rfl ?_)
  refine RX.nil (XX.inBlock (V' := [(0, _), (1, _)]) ⟨rfl, rfl, trivial⟩ ?_)
  refine XX.againP ([]) (f, z >>> 7, pre ++ [((z &&& 127#64).setWidth 8, decide (wi z < 128))], s') (by dsimp only; omega) ⟨by dsimp only; exact Nat.one_le_iff_ne_zero.2 (by rintro rfl; simp at hz; omega), by dsimp only; rw [shr_toNat]; exact grp_lt hz, by simp; omega, by dsimp only; rw [← hp, putW_more (by omega), decide_eq_false c15, List.append_assoc]; rfl, by dsimp only; rw [List.map_append]; exact .snoc hst hs'⟩ ⟨rfl, rfl, trivial⟩ (perm_nil _)

end Go.Proofs.YtnadipjlhlbfoaaGreatDoor
namespace Go.Proofs.YtnadipjlhlbfoaaGreatDoor
set_option linter.all false
open Go Go.RowKit
set_option maxRecDepth 100000
theorem zero_54 : Zero Tryz.prog 54 (.slice none 0 0) := ⟨(Tryz.prog.info? 54).get!, by kernel_rfl, by kernel_rfl⟩
theorem ent_79 : ∀ args w, (callFunc 79 args).run Tryz.prog w = .ok (.enter 79 args) w := enters_of Tryz.func79 (by kernel_rfl) rfl
theorem ent_95 : ∀ args w, (callFunc 95 args).run Tryz.prog w = .ok (.enter 95 args) w := enters_of Tryz.func95 (by kernel_rfl) rfl
set_option maxRecDepth 100000 in
theorem w_groups {w : World} (z : BitVec 64) :
    Calls Tryz.prog 79 #[.int .u64 (wi z)] w (fun e w' => ∃ g : Nat, True ∧ e = .returned (.func (.func 95) #[] #[.pointer (some ⟨g, 0, none⟩)]) ∧ SL w [] w' [.blk g (.cells #[.int .u64 (wi z)] 122 (0, 0))]) := by
 refine calls_of_CX (O := []) (L := []) (args := [.int .u64 (wi z)]) Tryz.func79 rfl (by simp [Tryz.ntmps79]) (SL.refl w) ?_
 refine CX.sub (V' := [(0, .int .u64 (wi z))]) ⟨rfl, trivial⟩ ?_
 refine CX.seq ?_
 refine CX.region ?_
 refine RX.cons rfl rfl (op_box rfl rfl rfl rfl fun gm => ?_)
 refine RX.cons rfl rfl (op_w (yw_assign rfl rfl) rfl rfl ?_)
 refine RX.nil (XX.next (V' := [(1, _)]) ⟨rfl, trivial⟩ ?_)
 refine CX.seq ?_
 refine CX.region ?_
 refine RX.cons rfl rfl (op_w (yw_makeFunc rfl rfl rfl) rfl rfl ?_)
 refine RX.cons rfl rfl (op_w (yw_assign rfl rfl) rfl rfl ?_)
 refine RX.nil (XX.next (V' := [(2, .func (.func 95) #[] #[.pointer (some ⟨gm, 0, none⟩)])]) ⟨rfl, trivial⟩ ?_)
 refine CX.ret ?_
 exact ret_tmp rfl rfl fun w1 hw => ⟨gm, trivial, rfl, hw⟩

set_option maxRecDepth 100000 in
theorem w_putInt {w : World} (n : Nat) (hn : n ≤ 4611686018427387903) :
    Calls Tryz.prog 53 #[.int .i64 ((n : Nat) : Int)] w (fun e w' => e = .returned (.tuple #[.string (⟨(encI n).toArray⟩), .int .i64 0]) ∧ SL w [] w' []) := by
 refine calls_of_CXM (O := []) (L := []) (args := [.int .i64 ((n : Nat) : Int)]) Tryz.func53 rfl (by simp [Tryz.ntmps53]) (SL.refl w) ?_
 refine CX.sub (V' := [(0, .int .i64 ((n : Nat) : Int))]) ⟨rfl, trivial⟩ ?_
 refine CX.seq ?_
 refine CX.region ?_
 refine RX.cons rfl rfl (op_w (yw_assign rfl rfl) rfl rfl ?_)
 refine RX.cons rfl rfl (op_w (yw_assign rfl rfl) rfl rfl ?_)
 refine RX.nil (XX.next (V' := [(0, _), (2, .string .empty), (3, .int .i64 0)]) ⟨rfl, rfl, rfl, trivial⟩ ?_)
 refine CX.seq ?_
 refine CX.seq ?_
 refine CX.region ?_
 refine RX.cons rfl rfl (op_w (yw_move rfl rfl) rfl rfl ?_)
 refine RX.cons rfl rfl (op_w (yw_lss rfl rfl rfl) rfl rfl ?_)
 refine RX.cons rfl rfl (op_w (yw_move rfl rfl) rfl rfl ?_)
 refine RX.splitD (t := 9) (p := ((n : Nat) : Int) < (-4611686018427387903)) rfl (fun d9 => ?_) (fun d9 => ?_)
 ·exfalso; omega
 ·refine RX.consG rfl rfl rfl rfl rfl (op_w (yw_move rfl rfl) rfl rfl ?_)
  refine RX.consG rfl rfl rfl rfl rfl (op_w (yw_gtr rfl rfl rfl) rfl rfl ?_)
  refine RX.cons rfl rfl (op_w (yw_pickF rfl rfl rfl) rfl rfl ?_)
  refine RX.nil (XX.next (V' := [(0, _), (2, .string .empty), (3, .int .i64 0), (7, _), (8, _), (9, _), (10, _), (11, _), (12, _)]) ⟨rfl, rfl, rfl, rfl, rfl, rfl, rfl, rfl, rfl, trivial⟩ ?_)
  refine CX.condD (p := 4611686018427387903 < ((n : Nat) : Int)) rfl (fun c12 => ?_) (fun c12 => ?_)
  ·exfalso; omega
  ·refine CX.skip (XX.next (V' := [(0, _), (2, .string .empty), (3, .int .i64 0), (7, _), (8, _), (9, _), (10, _), (11, _), (12, _)]) ⟨rfl, rfl, rfl, rfl, rfl, rfl, rfl, rfl, rfl, trivial⟩ ?_)
   refine CX.seq ?_
   refine CX.region ?_
   refine RX.cons rfl rfl (op_alloc rfl rfl rfl zero_54 fun g4 => ?_)
   refine RX.nil (XX.next (V' := [(0, _), (2, .string .empty), (3, .int .i64 0), (4, _), (7, _), (8, _), (9, _), (10, _), (11, _), (12, _)]) ⟨rfl, rfl, rfl, rfl, rfl, rfl, rfl, rfl, rfl, rfl, trivial⟩ ?_)
   refine CX.seq ?_
   refine CX.seq ?_
   refine CX.region ?_
   refine RX.cons rfl rfl (op_w (yw_move rfl rfl) rfl rfl ?_)
   refine RX.cons rfl rfl (op_w (yw_bvOf UK.u64 rfl rfl Tryz.underlying3 Tryz.underlying122) rfl rfl ?_)
   refine RX.cons rfl rfl (op_w (yw_bvShl (a := BitVec.ofInt 64 ((n : Nat) : Int)) 1 UK.u64 rfl rfl rfl rfl) rfl rfl ?_)
   refine RX.cons rfl rfl (op_w (yw_move rfl rfl) rfl rfl ?_)
   refine RX.cons rfl rfl (op_w (yw_shr_i 63 rfl rfl rfl rfl (by omega)) rfl rfl ?_)
   refine RX.cons rfl rfl (op_w (yw_bvOf UK.u64 rfl rfl Tryz.underlying3 Tryz.underlying122) rfl rfl ?_)
   refine RX.cons rfl rfl (op_w (yw_bvXor (a := (BitVec.ofInt 64 ((n : Nat) : Int)) <<< 1) (b := BitVec.ofInt 64 (((n : Nat) : Int) / 2 ^ 63)) UK.u64 rfl rfl rfl) rfl rfl ?_)
   refine RX.cons rfl rfl (op_callE rfl rfl rfl rfl rfl ent_79 (fun w _ => w_groups (((BitVec.ofInt 64 ((n : Nat) : Int)) <<< 1) ^^^ (BitVec.ofInt 64 (((n : Nat) : Int) / 2 ^ 63)))) (fun zgr _ => ?_))
   refine RX.nil (XX.next (V' := [(0, _), (2, .string .empty), (3, .int .i64 0), (4, _), (7, _), (8, _), (9, _), (10, _), (11, _), (12, _), (13, _), (14, _), (15, _), (16, _), (17, _), (18, _), (19, _), (20, _)]) ⟨rfl, rfl, rfl, rfl, rfl, rfl, rfl, rfl, rfl, rfl, rfl, rfl, rfl, rfl, rfl, rfl, rfl, rfl, trivial⟩ ?_)
   refine CX.block ?_
   refine CX.rowNil 5 1 ?_
   refine CX.rangeFunc (σ := (Option Addr × Nat × List UInt8) × BitVec 64) (LL := fun h => [.blk zgr (.cells (#[.int .u64 (wi (h.2 : BitVec 64))]) 122 (0, 0)), .blk g4 (.cells (#[.slice h.1.1 (List.length (h.1.2.2 : List UInt8)) h.1.2.1]) 54 (0, 0)), .row h.1.1 h.1.2.1 5 1 (List.map u8c h.1.2.2)]) (post := fun h => h.1.2.2 = (putW 10 (((BitVec.ofInt 64 ((n : Nat) : Int)) <<< 1) ^^^ (BitVec.ofInt 64 (((n : Nat) : Int) / 2 ^ 63)))).map grpB) [.blk zgr (.cells (#[.int .u64 (wi (((BitVec.ofInt 64 ((n : Nat) : Int)) <<< 1) ^^^ (BitVec.ofInt 64 (((n : Nat) : Int) / 2 ^ 63))))]) 122 (0, 0)), .blk g4 (.cells (#[.slice none 0 0]) 54 (0, 0)), .row none 0 5 1 (List.map u8c ([]))] [] ((perm_pick 1 rfl).trans (List.Perm.cons _ ((perm_pick 1 rfl).trans (List.Perm.cons _ ((perm_pick 0 rfl).trans (List.Perm.cons _ (List.Perm.refl _))))))) rfl ent_95 ?_ ?_
   ·intro l Dk fn a w1 ha hw hs
    have hRl : ∀ (s : Option Addr × Nat × List UInt8) (y : BitVec 8 × Bool) (s' : Option Addr × Nat × List UInt8), (fun (s : Option Addr × Nat × List UInt8) (x : List Value) (s' : Option Addr × Nat × List UInt8) => ∀ y, x = grpV y → s'.2.2 = s.2.2 ++ [grpB y]) s (grpV y) s' → s'.2.2 = s.2.2 ++ [grpB y] := fun s y s' h => h y rfl
    refine (w_groups1 (l := l) (Dk := Dk) (St := (fun s : Option Addr × Nat × List UInt8 => [.blk g4 (.cells (#[.slice s.1 (List.length (s.2.2 : List UInt8)) s.2.1]) 54 (0, 0)), .row s.1 s.2.1 5 1 (List.map u8c s.2.2)])) (Rl := (fun (s : Option Addr × Nat × List UInt8) (x : List Value) (s' : Option Addr × Nat × List UInt8) => ∀ y, x = grpV y → s'.2.2 = s.2.2 ++ [grpB y])) (ok := (fun (s : Option Addr × Nat × List UInt8) x => s.2.2.length ≤ 9 ∧ ∃ y, x = grpV y)) (g1 := zgr) (((BitVec.ofInt 64 ((n : Nat) : Int)) <<< 1) ^^^ (BitVec.ofInt 64 (((n : Nat) : Int) / 2 ^ 63))) ((none, 0, []) : Option Addr × Nat × List UInt8) ?_ (fun pre s x b hst hl => ⟨by have := Steps.put (fun s : Option Addr × Nat × List UInt8 => s.2.2) hRl pre s hst; rw [this]; simp; omega, (x, b), rfl⟩) hs).mono ?_
    ·rintro ⟨A2, c2, bs⟩ x w2 ⟨hb9, ⟨x8, b0⟩, rfl⟩ hag hs2
     dsimp only at hb9
     refine round_of_CX2 (n := Tryz.f53.ntmps) (V0 := [(22, .bool b0), (21, .int .u8 (wi x8)), (4, .pointer (some ⟨g4, 0, none⟩))]) (σ := Unit) (τ := Option Addr × Nat × List UInt8) (M := [.blk g4 (.cells (#[.slice A2 (List.length (bs : List UInt8)) c2]) 54 (0, 0)), .row A2 c2 5 1 (List.map u8c bs)]) (fun _ => [(4, .pointer (some ⟨g4, 0, none⟩)), (5, .int .u8 (wi x8)), (6, .bool b0)]) (fun _ => [.blk g4 (.cells (#[.slice A2 (List.length (bs : List UInt8)) c2]) 54 (0, 0)), .row A2 c2 5 1 (List.map u8c bs)]) (fun _ => True) (LL := (fun s : Option Addr × Nat × List UInt8 => [.blk g4 (.cells (#[.slice s.1 (List.length (s.2.2 : List UInt8)) s.2.1]) 54 (0, 0)), .row s.1 s.2.1 5 1 (List.map u8c s.2.2)])) (post := fun s' => ∀ y, grpV (x8, b0) = grpV y → s'.2.2 = bs ++ [grpB y]) rfl rfl rfl ?_ ?_ ?_ hs2
     ·exact ((ha.sub (V' := [(4, .pointer (some ⟨g4, 0, none⟩))]) ⟨rfl, trivial⟩).round 21 rfl _).round 22 rfl _
     ·refine CX.seq ?_
      refine CX.region ?_
      refine RX.cons rfl rfl (op_w (yw_assign rfl rfl) rfl rfl ?_)
      refine RX.nil (XX.next (V' := [(4, _), (5, _), (22, _)]) ⟨rfl, rfl, rfl, trivial⟩ ?_)
      refine CX.region ?_
      refine RX.cons rfl rfl (op_w (yw_assign rfl rfl) rfl rfl ?_)
      refine RX.nil (XX.meetP ([]) () trivial ⟨rfl, rfl, rfl, trivial⟩ ((perm_pick 0 rfl).trans (List.Perm.cons _ ((perm_pick 0 rfl).trans (List.Perm.cons _ ((perm_pick 0 rfl).trans (List.Perm.cons _ ((perm_pick 0 rfl).trans (List.Perm.cons _ (List.Perm.refl _))))))))))
     ·intro _ _
      refine CX.block ?_
      refine CX.seq ?_
      refine CX.seq ?_
      refine CX.region ?_
      refine RX.cons rfl rfl (op_w (yw_move rfl rfl) rfl rfl ?_)
      refine RX.cons rfl rfl (op_w (yw_not rfl rfl) rfl rfl ?_)
      refine RX.nil (XX.next (V' := [(4, _), (5, _), (24, _)]) ⟨rfl, rfl, rfl, trivial⟩ ?_)
      refine CX.cond (b := !b0) rfl (fun c24 => ?_) (fun c24 => ?_)
      ·refine CX.region ?_
       refine RX.cons rfl rfl (op_w (yw_move rfl rfl) rfl rfl ?_)
       refine RX.cons rfl rfl (op_w (yw_bvOr (a := x8) (b := 128#8) UK.u8 rfl rfl rfl) rfl rfl ?_)
       refine RX.cons rfl rfl (op_w (yw_assign rfl rfl) rfl rfl ?_)
       refine RX.nil (XX.next (V' := [(4, _), (5, _)]) ⟨rfl, rfl, trivial⟩ ?_)
       refine CX.region ?_
       refine RX.cons rfl rfl (op_yld (y_load (i := 2) rfl rfl one_54 rfl rfl) rfl rfl ?_)
       refine RX.cons rfl rfl (op_w (yw_move rfl rfl) rfl rfl ?_)
       refine RX.cons rfl rfl (op_buildSlice rfl rfl rfl slb_54 rfl rfl (by intro v hv; simp only [List.mem_cons, List.not_mem_nil, or_false] at hv; subst hv; exact ⟨rfl, (plain_of rfl)⟩) (by decide) fun g9 => ?_)
       refine RX.cons rfl rfl (op_appendM u8c (i := 4) (j := 0) (xs := bs) ([UInt8.ofBitVec (x8 ||| (128#8))]) rfl rfl rfl slb_54 rfl rfl rfl rfl rfl rfl (by simp only [List.length_singleton]; omega) (by simp only [List.length_singleton]; omega) fun A3 c3 => ?_)
       refine RX.cons rfl rfl (op_storeAll (i := 3) rfl rfl rfl rfl szt_54 rfl (plain_of rfl) rfl rfl ?_)
       refine RX.nil (XX.inBlock (V' := []) trivial ?_)
       refine XX.meetP ([.row (some ⟨g9, 0, none⟩) 1 5 1 (List.map u8c ([UInt8.ofBitVec (x8 ||| (128#8))]))]) ((A3, c3, bs ++ [UInt8.ofBitVec (x8 ||| 128#8)]) : Option Addr × Nat × List UInt8) (fun y he => by rw [← grp_inj he]; exact put_more (by simpa using c24)) trivial ((perm_pick 1 rfl).trans (List.Perm.cons _ ((perm_pick 1 rfl).trans (List.Perm.cons _ ((perm_pick 1 rfl).trans (List.Perm.cons _ ((perm_pick 1 rfl).trans (List.Perm.cons _ (List.Perm.refl _)))))))))
      ·refine CX.skip (XX.next (V' := [(4, _), (5, _)]) ⟨rfl, rfl, trivial⟩ ?_)
       refine CX.region ?_
       refine RX.cons rfl rfl (op_yld (y_load (i := 2) rfl rfl one_54 rfl rfl) rfl rfl ?_)
       refine RX.cons rfl rfl (op_w (yw_move rfl rfl) rfl rfl ?_)
       refine RX.cons rfl rfl (op_buildSlice rfl rfl rfl slb_54 rfl rfl (by intro v hv; simp only [List.mem_cons, List.not_mem_nil, or_false] at hv; subst hv; exact ⟨rfl, (plain_of rfl)⟩) (by decide) fun g9 => ?_)
       refine RX.cons rfl rfl (op_appendM u8c (i := 4) (j := 0) (xs := bs) ([UInt8.ofBitVec (x8)]) rfl rfl rfl slb_54 rfl rfl rfl rfl rfl rfl (by simp only [List.length_singleton]; omega) (by simp only [List.length_singleton]; omega) fun A3 c3 => ?_)
       refine RX.cons rfl rfl (op_storeAll (i := 3) rfl rfl rfl rfl szt_54 rfl (plain_of rfl) rfl rfl ?_)
       refine RX.nil (XX.inBlock (V' := []) trivial ?_)
       refine XX.meetP ([.row (some ⟨g9, 0, none⟩) 1 5 1 (List.map u8c ([UInt8.ofBitVec (x8)]))]) ((A3, c3, bs ++ [UInt8.ofBitVec (x8)]) : Option Addr × Nat × List UInt8) (fun y he => by rw [← grp_inj he]; exact put_last (by simpa using c24)) trivial ((perm_pick 1 rfl).trans (List.Perm.cons _ ((perm_pick 1 rfl).trans (List.Perm.cons _ ((perm_pick 1 rfl).trans (List.Perm.cons _ ((perm_pick 1 rfl).trans (List.Perm.cons _ (List.Perm.refl _)))))))))
    ·exact fun e w' ⟨y, hst, he, hz⟩ => ⟨y, (Steps.put (fun s : Option Addr × Nat × List UInt8 => s.2.2) hRl _ y.1 hst).trans (List.nil_append _), ⟨_, he⟩, hz⟩
   ·intro h l Dk ob hh
    obtain ⟨⟨A5, c5, bs⟩, z5⟩ := h
    dsimp only at hh ⊢
    rw [zig n hn] at hh
    refine XX.inBlock (V' := [(4, _)]) ⟨rfl, trivial⟩ ?_
    refine XX.next (V' := [(4, _)]) ⟨rfl, trivial⟩ ?_
    refine CX.seq ?_
    refine CX.region ?_
    refine RX.cons rfl rfl (op_yld (y_load (i := 3) rfl rfl one_54 rfl rfl) rfl rfl ?_)
    refine RX.cons rfl rfl (op_yld (y_bytesRow (i := 4) (l := bs) rfl rfl Tryz.underlying54 Tryz.underlying5 Tryz.underlying9 rfl (by rw [hh]; exact encI_pos n)) rfl rfl ?_)
    refine RX.cons rfl rfl (op_w (yw_assign rfl rfl) rfl rfl ?_)
    refine RX.cons rfl rfl (op_w (yw_assign rfl rfl) rfl rfl ?_)
    refine RX.nil (XX.next (V' := [(2, .string (⟨List.toArray bs⟩)), (3, .int .i64 0)]) ⟨rfl, rfl, trivial⟩ ?_)
    refine CX.ret ?_
    exact ret_tmp2M (k := 1) rfl rfl rfl rfl fun w1 hw => ⟨by rw [hh]; rfl, hw.sub (List.nil_sublist _)⟩

end Go.Proofs.YtnadipjlhlbfoaaGreatDoor
namespace Go.Proofs.YtnadipjlhlbfoaaGreatDoor
set_option linter.all false
open Go Go.RowKit
abbrev iC (n : Int) : Array Value := #[.int .i64 n]
/-- An amount. -/
def okM (n : Int) : Bool := decide (0 ≤ n ∧ n ≤ 1000000000000000)
theorem okM_iff {n : Int} : okM n = true ↔ 0 ≤ n ∧ n ≤ 1000000000000000 := decide_eq_true_iff
theorem okM_neg {n : Int} (h : n < 0) : (!okM n) = true := by simp [okM]; omega
theorem okM_big {n : Int} (h : ¬ n < 0) : decide (1000000000000000 < n) = !okM n := by
  unfold okM
  rw [← decide_not]
  exact decide_eq_decide.2 (by omega)
/-- The place of the first one that is none, or -1. -/
def oddG {α : Type} (p : α → Bool) (xs : List α) : Int := if xs.all p then -1 else ((xs.findIdx fun x => !p x : Nat) : Int)
theorem oddG_none {α : Type} {p : α → Bool} {xs : List α} (h : ∀ x ∈ xs, p x = true) : oddG p xs = -1 := if_pos (List.all_eq_true.2 h)
theorem oddG_at {α : Type} {p : α → Bool} {xs : List α} {i : Nat} {s : α} (hs : xs[i]? = some s) (hn : p s = false) (h : ∀ x ∈ xs.take i, p x = true) : oddG p xs = ((i : Nat) : Int) := by
  have hm := List.mem_of_getElem? hs
  have hi := (List.getElem?_eq_some_iff.1 hs).1
  rw [oddG, if_neg (fun hall => by rw [List.all_eq_true.1 hall s hm] at hn; cases hn)]
  congr 1
  rw [List.findIdx_eq hi]
  refine ⟨by rw [List.getElem?_eq_getElem hi, Option.some.injEq] at hs; rw [hs, hn]; rfl, fun j hj => ?_⟩
  have : xs[j]'(by omega) ∈ xs.take i := by
    rw [List.mem_take_iff_getElem]
    exact ⟨j, by omega, rfl⟩
  rw [h _ this]; rfl
theorem oddG_dec {α : Type} (p : α → Bool) (xs : List α) : (!decide (0 ≤ oddG p xs)) = xs.all p := by
  unfold oddG
  split <;> rename_i h
  · rw [h]; rfl
  · have : xs.all p = false := by simpa using h
    rw [this, decide_eq_true (by omega)]; rfl
theorem all_snocG {α : Type} {p : α → Bool} {xs : List α} {i : Nat} {s : α} (hs : xs[i]? = some s) (hn : p s = true) (h : ∀ x ∈ xs.take i, p x = true) : ∀ x ∈ xs.take (i + 1), p x = true := by
  rw [take_succ hs]
  intro x hx
  rcases List.mem_append.1 hx with hx | hx
  · exact h x hx
  · simp at hx; rw [hx]; exact hn

/-! ### Statements -/
structure Ln where
  p : Int
  b : Int
  a : Int
deriving DecidableEq
structure Stm where
  h : Int
  c : Int
  ls : List Ln
deriving DecidableEq
abbrev lnC (x : Ln) : Array Value := #[.int .i64 x.p, .int .i64 x.b, .int .i64 x.a]
/-- One line behind a period. -/
def okL (last : Int) (x : Ln) : Bool := decide (last < x.p) && decide (x.p < 1200) && okM x.b && okM x.a && decide (x.b ≠ x.a)
def okLs : Int → List Ln → Bool
  | _, [] => true
  | last, x :: r => okL last x && okLs x.p r
/-- A valid statement. -/
def okS (s : Stm) : Bool := okLs (-1) s.ls && decide (1 ≤ s.h) && decide (s.h ≤ 1000000) && decide (0 ≤ s.c) && decide (s.c < 1200) && decide (1 ≤ s.ls.length)
def numsL (ls : List Ln) : List Int := ls.flatMap fun x => [x.p, x.b, x.a]
def putL (ns : List Int) : List UInt8 := ns.flatMap fun n => encI n.toNat
/-- A statement's encoding. -/
def encL (s : Stm) : List UInt8 := putL [s.h, s.c, (s.ls.length : Int)] ++ putL (numsL s.ls)
def encS (s : Stm) : ByteArray := ⟨(encL s).toArray⟩
theorem putL_append (a b : List Int) : putL (a ++ b) = putL a ++ putL b := by simp [putL]
theorem putL_snoc (a : List Int) (n : Int) : putL (a ++ [n]) = putL a ++ encI n.toNat := by simp [putL]
theorem putL_le (a : List Int) : (putL a).length ≤ 10 * a.length := by
  induction a with
  | nil => simp [putL]
  | cons x a ih =>
    have := encI_le x.toNat
    simp only [putL, List.flatMap_cons, List.length_append, List.length_cons] at ih ⊢
    omega
theorem okLs_cons {last : Int} {x : Ln} {r : List Ln} : okLs last (x :: r) = (okL last x && okLs x.p r) := rfl
theorem okL_all {ls : List Ln} : ∀ {last : Int}, okLs last ls = true → ∀ x ∈ ls, last < x.p ∧ x.p < 1200 ∧ (0 ≤ x.b ∧ x.b ≤ 1000000000000000) ∧ (0 ≤ x.a ∧ x.a ≤ 1000000000000000) ∧ x.b ≠ x.a := by
  induction ls with
  | nil => intro _ _ x hx; simp at hx
  | cons y r ih =>
    intro last h x hx
    rw [okLs_cons, Bool.and_eq_true] at h
    have hy : last < y.p ∧ y.p < 1200 ∧ (0 ≤ y.b ∧ y.b ≤ 1000000000000000) ∧ (0 ≤ y.a ∧ y.a ≤ 1000000000000000) ∧ y.b ≠ y.a := by
      have := h.1
      simp only [okL, Bool.and_eq_true, decide_eq_true_iff, okM_iff] at this
      obtain ⟨⟨⟨⟨h1, h2⟩, h3⟩, h4⟩, h5⟩ := this
      exact ⟨h1, h2, h3, h4, h5⟩
    rcases List.mem_cons.1 hx with rfl | hx
    · exact hy
    · obtain ⟨h1, h2⟩ := ih h.2 x hx
      exact ⟨by omega, h2⟩
theorem okS_parts {s : Stm} (h : okS s = true) : okLs (-1) s.ls = true ∧ 1 ≤ s.h ∧ s.h ≤ 1000000 ∧ 0 ≤ s.c ∧ s.c < 1200 ∧ 1 ≤ s.ls.length := by
  simp only [okS, Bool.and_eq_true, decide_eq_true_iff] at h
  obtain ⟨⟨⟨⟨⟨h1, h2⟩, h3⟩, h4⟩, h5⟩, h6⟩ := h
  exact ⟨h1, h2, h3, h4, h5, h6⟩
theorem drop_cons {α : Type} {l : List α} {i : Nat} {x : α} (h : l[i]? = some x) : l.drop i = x :: l.drop (i + 1) := by
  have hi := (List.getElem?_eq_some_iff.1 h).1
  rw [List.drop_eq_getElem_cons hi]
  rw [List.getElem?_eq_getElem hi, Option.some.injEq] at h
  rw [h]
theorem okL_false {last : Int} {x : Ln} (h : x.p ≤ last ∨ 1200 ≤ x.p ∨ [x.b, x.a].all okM = false ∨ x.b = x.a) : okL last x = false := by
  have h2 : [x.b, x.a].all okM = (okM x.b && okM x.a) := by simp
  rw [h2] at h
  unfold okL
  rcases h with h | h | h | h
  · rw [decide_eq_false (by omega)]; rfl
  · rw [decide_eq_false (p := x.p < 1200) (by omega)]; simp
  · rw [Bool.and_assoc (decide (last < x.p) && _), h]; simp
  · rw [decide_eq_false (p := x.b ≠ x.a) (by simpa using h)]; simp
theorem okL_true {last : Int} {x : Ln} (h1 : ¬ x.p ≤ last) (h2 : ¬ 1200 ≤ x.p) (h3 : ¬ (!([x.b, x.a].all okM)) = true) (h4 : ¬ x.b = x.a) : okL last x = true := by
  have h5 : (okM x.b && okM x.a) = true := by simpa using h3
  rw [Bool.and_eq_true] at h5
  simp only [okL, Bool.and_eq_true, decide_eq_true_iff]
  exact ⟨⟨⟨⟨by omega, by omega⟩, h5.1⟩, h5.2⟩, h4⟩
theorem okS_bad {s : Stm} (h : okLs (-1) s.ls = false) : okS s = false := by simp [okS, h]
theorem okS_end {s : Stm} (h : okLs (-1) s.ls = true) : okS s = (decide (1 ≤ s.h) && decide (s.h ≤ 1000000) && decide (0 ≤ s.c) && decide (s.c < 1200) && decide (1 ≤ ((s.ls.length : Nat) : Int))) := by
  have e : decide (1 ≤ ((s.ls.length : Nat) : Int)) = decide (1 ≤ s.ls.length) := decide_eq_decide.2 (by omega)
  rw [e, okS, h, Bool.true_and]
theorem numsL_succ {ls : List Ln} {i : Nat} {x : Ln} (h : ls[i]? = some x) : numsL (ls.take (i + 1)) = numsL (ls.take i) ++ [x.p, x.b, x.a] := by
  rw [take_succ h]; simp [numsL]
theorem numsL_length (ls : List Ln) : (numsL ls).length = 3 * ls.length := by
  induction ls with
  | nil => rfl
  | cons x l ih => simp only [numsL, List.flatMap_cons, List.length_append, List.length_cons, List.length_nil] at ih ⊢; omega
theorem not_tt {b : Bool} (h : (!b) = true) : b = false := by cases b; rfl; cases h
end Go.Proofs.YtnadipjlhlbfoaaGreatDoor
namespace Go.Proofs.YtnadipjlhlbfoaaGreatDoor
set_option linter.all false
open Go Go.RowKit
set_option maxRecDepth 100000
theorem ent_94 : ∀ args w, (callFunc 94 args).run Tryz.prog w = .ok (.enter 94 args) w := enters_of Tryz.func94 (by kernel_rfl) rfl
theorem ent_101 : ∀ args w, (callFunc 101 args).run Tryz.prog w = .ok (.enter 101 args) w := enters_of Tryz.func101 (by kernel_rfl) rfl
theorem ent_93 : ∀ args w, (callFunc 93 args).run Tryz.prog w = .ok (.enter 93 args) w := enters_of Tryz.func93 (by kernel_rfl) rfl
set_option maxRecDepth 100000 in
theorem w_money1 {w : World} (n : Int) :
    Calls Tryz.prog 94 #[.int .i64 n] w (fun e w' => e = .returned (.bool (!okM n)) ∧ SL w [] w' []) := by
 refine calls_of_CX (O := []) (L := []) (args := [.int .i64 n]) Tryz.func94 rfl (by simp [Tryz.ntmps94]) (SL.refl w) ?_
 refine CX.sub (V' := [(0, .int .i64 n)]) ⟨rfl, trivial⟩ ?_
 refine CX.seq ?_
 refine CX.region ?_
 refine RX.cons rfl rfl (op_w (yw_assign rfl rfl) rfl rfl ?_)
 refine RX.nil (XX.next (V' := [(0, _)]) ⟨rfl, trivial⟩ ?_)
 refine CX.seq ?_
 refine CX.region ?_
 refine RX.cons rfl rfl (op_w (yw_move rfl rfl) rfl rfl ?_)
 refine RX.cons rfl rfl (op_w (yw_lss rfl rfl rfl) rfl rfl ?_)
 refine RX.cons rfl rfl (op_w (yw_move rfl rfl) rfl rfl ?_)
 refine RX.splitD (t := 5) (p := n < 0) rfl (fun d5 => ?_) (fun d5 => ?_)
 ·refine RX.skip rfl rfl rfl rfl rfl rfl rfl ?_
  refine RX.skip rfl rfl rfl rfl rfl rfl rfl ?_
  refine RX.cons rfl rfl (op_w (yw_pickT rfl rfl rfl) rfl rfl ?_)
  refine RX.cons rfl rfl (op_w (yw_assign rfl rfl) rfl rfl ?_)
  refine RX.nil (XX.next (V' := [(2, .bool true)]) ⟨rfl, trivial⟩ ?_)
  refine CX.ret ?_
  exact ret_tmp rfl rfl fun w1 hw => ⟨by rw [okM_neg d5], hw.sub (List.nil_sublist _)⟩
 ·refine RX.consG rfl rfl rfl rfl rfl (op_w (yw_move rfl rfl) rfl rfl ?_)
  refine RX.consG rfl rfl rfl rfl rfl (op_w (yw_gtr rfl rfl rfl) rfl rfl ?_)
  refine RX.cons rfl rfl (op_w (yw_pickF rfl rfl rfl) rfl rfl ?_)
  refine RX.cons rfl rfl (op_w (yw_assign rfl rfl) rfl rfl ?_)
  refine RX.nil (XX.next (V' := [(2, .bool (decide (1000000000000000 < n)))]) ⟨rfl, trivial⟩ ?_)
  refine CX.ret ?_
  exact ret_tmp rfl rfl fun w1 hw => ⟨by rw [← okM_big d5], hw.sub (List.nil_sublist _)⟩

set_option maxRecDepth 100000 in
theorem w_indexM {w : World} {A : Option Addr} {cap : Nat} (xs : List Int) (hr : Rd w A 1 (xs.map iC)) (hl : xs.length ≤ 281474976710656) :
    Calls Tryz.prog 101 #[.slice A xs.length cap, .func (.func 94) #[] #[]] w (fun e w' => e = .returned (.int .i64 (oddG okM xs)) ∧ SL w [] w' []) := by
 refine calls_of_CX (O := []) (L := []) (args := [.slice A xs.length cap, .func (.func 94) #[] #[]]) Tryz.func101 rfl (by simp [Tryz.ntmps101]) (SL.refl w) ?_
 refine CX.sub (V' := [(0, .slice A xs.length cap), (1, .func (.func 94) #[] #[])]) ⟨rfl, rfl, trivial⟩ ?_
 refine CX.seq ?_
 refine CX.region ?_
 refine RX.cons rfl rfl (op_w (yw_assign rfl rfl) rfl rfl ?_)
 refine RX.nil (XX.next (V' := [(0, _), (1, _)]) ⟨rfl, rfl, trivial⟩ ?_)
 refine CX.seq ?_
 refine CX.seq ?_
 refine CX.region ?_
 refine RX.cons rfl rfl (op_w (yw_move rfl rfl) rfl rfl ?_)
 refine RX.cons rfl rfl (op_w (yw_lenS rfl Tryz.underlying43 rfl) rfl rfl ?_)
 refine RX.cons rfl rfl (op_w (yw_move rfl rfl) rfl rfl ?_)
 refine RX.nil (XX.next (V' := [(0, _), (1, _), (7, _), (8, _)]) ⟨rfl, rfl, rfl, rfl, trivial⟩ ?_)
 refine CX.block ?_
 refine CX.loop (σ := Nat) (fun i => [(0, .slice A xs.length cap), (1, .func (.func 94) #[] #[]), (7, .int .i64 ((xs.length : Nat) : Int)), (8, .int .i64 ((i : Nat) : Int))]) (fun i => []) (fun i => i ≤ xs.length ∧ ∀ x ∈ xs.take i, okM x = true) (fun i => xs.length - i) 0 ⟨Nat.zero_le _, by simp⟩ ⟨rfl, rfl, rfl, rfl, trivial⟩ rfl (fun i hI => ?_)
 obtain ⟨hi, hall⟩ := hI
 refine CX.seq ?_
 refine CX.region ?_
 refine RX.cons rfl rfl (op_w (yw_lss rfl rfl rfl) rfl rfl ?_)
 refine RX.nil (XX.next (V' := [(0, _), (1, _), (7, _), (8, _), (9, _)]) ⟨rfl, rfl, rfl, rfl, rfl, trivial⟩ ?_)
 refine CX.seq ?_
 refine CX.condD (p := ((i : Nat) : Int) < ((xs.length : Nat) : Int)) rfl (fun c9 => ?_) (fun c9 => ?_)
 ·obtain ⟨s0, hs0⟩ := get_some (l := xs) (k := i) (by omega)
  have hA : ∃ b j, A = some ⟨b, j, none⟩ := hr.some (k := 0) (by simp; omega)
  refine CX.skip (XX.next (V' := [(0, _), (1, _), (7, _), (8, _)]) ⟨rfl, rfl, rfl, rfl, trivial⟩ ?_)
  refine CX.seq ?_
  refine CX.block ?_
  refine CX.seq ?_
  refine CX.region ?_
  refine RX.cons rfl rfl (op_w (yw_move rfl rfl) rfl rfl ?_)
  refine RX.cons rfl rfl (op_w (yw_assign rfl rfl) rfl rfl ?_)
  refine RX.nil (XX.next (V' := [(0, _), (1, _), (5, _), (7, _), (8, _)]) ⟨rfl, rfl, rfl, rfl, rfl, trivial⟩ ?_)
  refine CX.seq ?_
  refine CX.region ?_
  refine RX.cons rfl rfl (op_w (yw_move rfl rfl) rfl rfl ?_)
  refine RX.cons rfl rfl (op_w (yw_move rfl rfl) rfl rfl ?_)
  refine RX.cons rfl rfl (op_w (yw_move rfl rfl) rfl rfl ?_)
  refine RX.cons rfl rfl (op_w (yw_index (k := i) rfl slt_43 rfl rfl (by omega) (by omega) hA) rfl rfl ?_)
  refine RX.cons rfl rfl (op_yld (y_elem1 rfl rfl one_3 hr (by simp) (map_get hs0)) rfl rfl ?_)
  refine RX.cons rfl rfl (op_callV (v := .bool (!okM s0)) rfl rfl rfl rfl rfl ent_94 (fun w hw => w_money1 s0) ?_)
  refine RX.nil (XX.next (V' := [(0, _), (1, _), (5, _), (7, _), (8, _), (16, _)]) ⟨rfl, rfl, rfl, rfl, rfl, rfl, trivial⟩ ?_)
  refine CX.cond (b := !okM s0) rfl (fun c16 => ?_) (fun c16 => ?_)
  ·refine CX.seq ?_
   refine CX.region ?_
   refine RX.cons rfl rfl (op_w (yw_move rfl rfl) rfl rfl ?_)
   refine RX.cons rfl rfl (op_w (yw_assign rfl rfl) rfl rfl ?_)
   refine RX.nil (XX.next (V' := [(4, .int .i64 ((i : Nat) : Int))]) ⟨rfl, trivial⟩ ?_)
   refine CX.ret ?_
   refine XX.block_ret ?_
   refine XX.then_ret ?_
   refine XX.then_ret ?_
   refine XX.block_ret ?_
   refine XX.then_ret ?_
   exact ret_tmp rfl rfl fun w1 hw => ⟨by rw [oddG_at hs0 (by simpa using c16) hall], hw.sub (List.nil_sublist _)⟩
  ·refine CX.skip (XX.inBlock (V' := [(0, _), (1, _), (7, _), (8, _)]) ⟨rfl, rfl, rfl, rfl, trivial⟩ ?_)
   refine XX.next (V' := [(0, _), (1, _), (7, _), (8, _)]) ⟨rfl, rfl, rfl, rfl, trivial⟩ ?_
   refine CX.region ?_
   refine RX.cons rfl rfl (op_w (yw_add rfl rfl rfl (by omega) (by omega)) rfl rfl ?_)
   refine RX.cons rfl rfl (op_w (yw_move rfl rfl) rfl rfl ?_)
   refine RX.nil (XX.againP ([]) (i + 1) (by omega) ⟨by omega, all_snocG hs0 (by simpa using c16) hall⟩ ⟨rfl, rfl, rfl, rfl, trivial⟩ (List.Perm.refl _))
 ·rw [List.take_of_length_le (by omega)] at hall
  refine CX.exit ?_
  refine XX.then_exit ?_
  refine XX.then_exit ?_
  refine XX.block_exit ?_
  refine XX.next (V' := []) trivial ?_
  refine CX.seq ?_
  refine CX.region ?_
  refine RX.cons rfl rfl (op_w (yw_assign rfl rfl) rfl rfl ?_)
  refine RX.nil (XX.next (V' := [(4, .int .i64 (-1))]) ⟨rfl, trivial⟩ ?_)
  refine CX.ret ?_
  exact ret_tmp rfl rfl fun w1 hw => ⟨by rw [oddG_none hall], hw.sub (List.nil_sublist _)⟩

set_option maxRecDepth 100000 in
theorem w_containsM {w : World} {A : Option Addr} {cap : Nat} (xs : List Int) (hr : Rd w A 1 (xs.map iC)) (hl : xs.length ≤ 281474976710656) :
    Calls Tryz.prog 93 #[.slice A xs.length cap, .func (.func 94) #[] #[]] w (fun e w' => e = .returned (.bool (decide (0 ≤ oddG okM xs))) ∧ SL w [] w' []) := by
 refine calls_of_CX (O := []) (L := []) (args := [.slice A xs.length cap, .func (.func 94) #[] #[]]) Tryz.func93 rfl (by simp [Tryz.ntmps93]) (SL.refl w) ?_
 refine CX.sub (V' := [(0, .slice A xs.length cap), (1, .func (.func 94) #[] #[])]) ⟨rfl, rfl, trivial⟩ ?_
 refine CX.seq ?_
 refine CX.region ?_
 refine RX.cons rfl rfl (op_w (yw_assign rfl rfl) rfl rfl ?_)
 refine RX.nil (XX.next (V' := [(0, _), (1, _)]) ⟨rfl, rfl, trivial⟩ ?_)
 refine CX.seq ?_
 refine CX.region ?_
 refine RX.cons rfl rfl (op_w (yw_move rfl rfl) rfl rfl ?_)
 refine RX.cons rfl rfl (op_w (yw_move rfl rfl) rfl rfl ?_)
 refine RX.cons rfl rfl (op_callV (v := .int .i64 (oddG okM xs)) rfl rfl rfl rfl rfl ent_101 (fun w hw => w_indexM xs (hw.rd hr (by simp)) hl) ?_)
 refine RX.cons rfl rfl (op_w (yw_geq rfl rfl rfl) rfl rfl ?_)
 refine RX.cons rfl rfl (op_w (yw_assign rfl rfl) rfl rfl ?_)
 refine RX.nil (XX.next (V' := [(4, .bool (decide (0 ≤ oddG okM xs)))]) ⟨rfl, trivial⟩ ?_)
 refine CX.ret ?_
 exact ret_tmp rfl rfl fun w1 hw => ⟨rfl, hw.sub (List.nil_sublist _)⟩

set_option maxRecDepth 100000 in
theorem w_money {w : World} {A : Option Addr} {cap : Nat} (xs : List Int) (hr : Rd w A 1 (xs.map iC)) (hl : xs.length ≤ 281474976710656) :
    Calls Tryz.prog 78 #[.slice A xs.length cap] w (fun e w' => e = .returned (.bool (xs.all okM)) ∧ SL w [] w' []) := by
 refine calls_of_CX (O := []) (L := []) (args := [.slice A xs.length cap]) Tryz.func78 rfl (by simp [Tryz.ntmps78]) (SL.refl w) ?_
 refine CX.sub (V' := [(0, .slice A xs.length cap)]) ⟨rfl, trivial⟩ ?_
 refine CX.seq ?_
 refine CX.region ?_
 refine RX.cons rfl rfl (op_w (yw_assign rfl rfl) rfl rfl ?_)
 refine RX.nil (XX.next (V' := [(0, _)]) ⟨rfl, trivial⟩ ?_)
 refine CX.seq ?_
 refine CX.region ?_
 refine RX.cons rfl rfl (op_w (yw_move rfl rfl) rfl rfl ?_)
 refine RX.cons rfl rfl (op_callV (v := .bool (decide (0 ≤ oddG okM xs))) rfl rfl rfl rfl rfl ent_93 (fun w hw => w_containsM xs (hw.rd hr (by simp)) hl) ?_)
 refine RX.cons rfl rfl (op_w (yw_notD rfl rfl) rfl rfl ?_)
 refine RX.know (t := 5) (u := .bool (xs.all okM)) rfl (congrArg Value.bool (by rw [← oddG_dec, ← decide_not])) ?_
 refine RX.cons rfl rfl (op_w (yw_assign rfl rfl) rfl rfl ?_)
 refine RX.nil (XX.next (V' := [(2, .bool (xs.all okM))]) ⟨rfl, trivial⟩ ?_)
 refine CX.ret ?_
 exact ret_tmp rfl rfl fun w1 hw => ⟨rfl, hw.sub (List.nil_sublist _)⟩

end Go.Proofs.YtnadipjlhlbfoaaGreatDoor
