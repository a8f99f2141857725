/- Walks, printed by a program. Walks, printed by a program. Verifying: aids for the walks. Walks, printed by a program. -/
import Derived.Test.YtnadipjlhlbfoaaGreatDoorK5
namespace Go.Proofs.YtnadipjlhlbfoaaGreatDoor
set_option linter.all false
open Go Go.RowKit
set_option maxRecDepth 100000
theorem ent_65 : ∀ args w, (callFunc 65 args).run Tryz.prog w = .ok (.enter 65 args) w := enters_of Tryz.func65 (by kernel_rfl) rfl
theorem ent_48 : ∀ args w, (callFunc 48 args).run Tryz.prog w = .ok (.enter 48 args) w := enters_of Tryz.func48 (by kernel_rfl) rfl
theorem ent_21 : ∀ args w, (callFunc 21 args).run Tryz.prog w = .ok (.enter 21 args) w := enters_of Tryz.func21 (by kernel_rfl) rfl
set_option maxRecDepth 100000 in
theorem w_proof {w : World} {A : Option Addr} {cap : Nat} (xs : List ByteArray) (i : Nat) (hG : Rounds w) (hr : Rd w A 1 (xs.map strC)) (hcap : xs.length ≤ cap) (hl : xs.length ≤ 1099511627776) (hsz : ∀ s ∈ xs, s.size ≤ 4294967296) (hi : i < xs.length) :
    Calls Tryz.prog 33 #[.slice A xs.length cap, .int .i64 ((i : Nat) : Int)] w (fun e w' => ∃ z : Option Addr × Nat, True ∧ e = .returned (.tuple #[.slice z.1 (List.length ((path sum xs i).reverse)) z.2, .int .i64 0]) ∧ SL w [] w' [.row z.1 z.2 9 1 (List.map strC ((path sum xs i).reverse))]) := by
 refine calls_of_CX (O := []) (L := []) (args := [.slice A xs.length cap, .int .i64 ((i : Nat) : Int)]) Tryz.func33 rfl (by simp [Tryz.ntmps33]) (SL.refl w) ?_
 refine CX.sub (V' := [(0, .slice A xs.length cap), (1, .int .i64 ((i : Nat) : Int))]) ⟨rfl, rfl, trivial⟩ ?_
 refine CX.seq ?_
 refine CX.region ?_
 refine RX.cons rfl rfl (op_w (yw_assign rfl rfl) rfl rfl ?_)
 refine RX.cons rfl rfl (op_w (yw_assign rfl rfl) rfl rfl ?_)
 refine RX.nil (XX.next (V' := [(0, _), (1, _)]) ⟨rfl, rfl, trivial⟩ ?_)
 refine CX.scope ?_
 refine CX.seq ?_
 refine CX.seq ?_
 refine CX.region ?_
 refine RX.cons rfl rfl (op_w (yw_move rfl rfl) rfl rfl ?_)
 refine RX.cons rfl rfl (op_w (yw_lss rfl rfl rfl) rfl rfl ?_)
 refine RX.cons rfl rfl (op_w (yw_move rfl rfl) rfl rfl ?_)
 refine RX.splitD (t := 12) (p := ((i : Nat) : Int) < 0) rfl (fun d12 => ?_) (fun d12 => ?_)
 ·exfalso; omega
 ·refine RX.consG rfl rfl rfl rfl rfl (op_w (yw_move rfl rfl) rfl rfl ?_)
  refine RX.consG rfl rfl rfl rfl rfl (op_w (yw_move rfl rfl) rfl rfl ?_)
  refine RX.consG rfl rfl rfl rfl rfl (op_w (yw_lenS rfl Tryz.underlying26 rfl) rfl rfl ?_)
  refine RX.consG rfl rfl rfl rfl rfl (op_w (yw_geq rfl rfl rfl) rfl rfl ?_)
  refine RX.cons rfl rfl (op_w (yw_pickF rfl rfl rfl) rfl rfl ?_)
  refine RX.nil (XX.next (V' := [(0, _), (1, _), (17, _)]) ⟨rfl, rfl, rfl, trivial⟩ ?_)
  refine CX.condD (p := ((xs.length : Nat) : Int) ≤ ((i : Nat) : Int)) rfl (fun c17 => ?_) (fun c17 => ?_)
  ·exfalso; omega
  ·refine CX.skip (XX.next (V' := [(0, _), (1, _)]) ⟨rfl, rfl, trivial⟩ ?_)
   refine CX.seq ?_
   refine CX.region ?_
   refine RX.cons rfl rfl (op_w (yw_assign rfl rfl) rfl rfl ?_)
   refine RX.nil (XX.next (V' := [(0, _), (1, _), (6, _)]) ⟨rfl, rfl, rfl, trivial⟩ ?_)
   refine CX.seq ?_
   refine CX.label (XX.next (V' := [(0, _), (1, _), (6, _)]) ⟨rfl, rfl, rfl, trivial⟩ ?_)
   refine CX.seq ?_
   refine CX.block ?_
   refine CX.rowNil 9 1 ?_
   refine CX.loop (σ := (Option Addr × Nat × List ByteArray × Nat) × (Option Addr × Nat) × List ByteArray) (fun z => [(0, .slice z.1.1 z.1.2.2.1.length z.1.2.1), (1, .int .i64 ((z.1.2.2.2 : Nat) : Int)), (6, .slice z.2.1.1 (List.length (z.2.2 : List ByteArray)) z.2.1.2)]) (fun z => [.row z.2.1.1 z.2.1.2 9 1 (List.map strC z.2.2)]) (fun z => Rd w z.1.1 1 (z.1.2.2.1.map strC) ∧ z.1.2.2.1.length ≤ z.1.2.1 ∧ z.1.2.2.1.length ≤ xs.length ∧ z.1.2.2.2 < z.1.2.2.1.length ∧ (∀ s ∈ z.1.2.2.1, s.size ≤ 4294967296) ∧ z.2.2 ++ path sum z.1.2.2.1 z.1.2.2.2 = path sum xs i ∧ z.2.2.length + z.1.2.2.1.length ≤ xs.length) (fun z => z.1.2.2.1.length) ((A, cap, xs, i), (none, 0), []) ⟨hr, hcap, Nat.le_refl _, hi, hsz, rfl, by simp⟩ ⟨rfl, rfl, rfl, trivial⟩ rfl (fun z hI => ?_)
   obtain ⟨⟨A', cp, ls, j⟩, ⟨B1, d1⟩, os⟩ := z
   dsimp only at hI ⊢
   obtain ⟨hR, hcp, hll, hj, hs2, hpath, hol⟩ := hI
   obtain ⟨b0, q0, hA'⟩ := hR.some (k := 0) (by simp; omega)
   refine CX.block ?_
   refine CX.seq ?_
   refine CX.seq ?_
   refine CX.region ?_
   refine RX.cons rfl rfl (op_w (yw_move rfl rfl) rfl rfl ?_)
   refine RX.cons rfl rfl (op_w (yw_lenS rfl Tryz.underlying26 rfl) rfl rfl ?_)
   refine RX.cons rfl rfl (op_w (yw_eql rfl rfl rfl) rfl rfl ?_)
   refine RX.nil (XX.next (V' := [(0, _), (1, _), (6, _), (20, _)]) ⟨rfl, rfl, rfl, rfl, trivial⟩ ?_)
   refine CX.condD (p := ((ls.length : Nat) : Int) = 1) rfl (fun c20 => ?_) (fun c20 => ?_)
   ·refine CX.exit ?_
    refine XX.then_exit ?_
    refine XX.block_pass rfl ?_
    refine XX.then_exit ?_
    refine XX.block_exit ?_
    refine XX.next (V' := [(6, _)]) ⟨rfl, trivial⟩ ?_
    refine CX.seq ?_
    have hpe : os = path sum xs i := by rw [path_one sum (by omega), List.append_nil] at hpath; exact hpath
    refine CX.region ?_
    refine RX.cons rfl rfl (op_w (yw_move rfl rfl) rfl rfl ?_)
    refine RX.cons rfl rfl (op_callP [.row B1 d1 9 1 (List.map strC os)] [] rfl rfl rfl rfl rfl ent_65 ((perm_pick 0 rfl).trans (List.Perm.cons _ (List.Perm.refl _))) (σ := Unit) (val := fun _ => .tuple #[]) (LL := fun _ => [.row B1 d1 9 1 (List.map strC (List.reverse os))]) (post := fun _ => True) (fun w hw hs => (w_reverse os (by omega) hs).mono fun e w' h => ⟨(), trivial, h⟩) (fun _ _ => ?_))
    refine RX.nil (XX.next (V' := [(6, _)]) ⟨rfl, trivial⟩ ?_)
    refine CX.seq ?_
    refine CX.region ?_
    refine RX.cons rfl rfl (op_w (yw_move rfl rfl) rfl rfl ?_)
    refine RX.cons rfl rfl (op_w (yw_assign rfl rfl) rfl rfl ?_)
    refine RX.cons rfl rfl (op_w (yw_assign rfl rfl) rfl rfl ?_)
    refine RX.nil (XX.next (V' := [(4, .slice B1 (List.length (os : List ByteArray)) d1), (5, .int .i64 0)]) ⟨rfl, rfl, trivial⟩ ?_)
    refine CX.ret ?_
    refine XX.scope_ret ?_
    exact ret_tmp2 rfl rfl rfl fun w1 hw => ⟨(B1, d1), trivial, by rw [← hpe, List.length_reverse], by rw [← hpe]; exact hw⟩
   ·have hq1 := lft_pos ls.length
    have hq2 := lft_lt (n := ls.length) (by omega)
    have htl : (List.take (lft ls.length) ls).length = lft ls.length := by simp; omega
    have hdl : (List.drop (lft ls.length) ls).length = ls.length - lft ls.length := by simp
    refine CX.skip (XX.next (V' := [(0, _), (1, _), (6, _)]) ⟨rfl, rfl, rfl, trivial⟩ ?_)
    refine CX.seq ?_
    refine CX.region ?_
    refine RX.cons rfl rfl (op_w (yw_move rfl rfl) rfl rfl ?_)
    refine RX.cons rfl rfl (op_w (yw_lenS rfl Tryz.underlying26 rfl) rfl rfl ?_)
    refine RX.cons rfl rfl (op_callV (v := .int .i64 ((lft ls.length : Nat) : Int)) rfl rfl rfl rfl rfl ent_48 (fun w hw => w_left ls.length (by omega) (by omega)) ?_)
    refine RX.cons rfl rfl (op_w (yw_assign rfl rfl) rfl rfl ?_)
    refine RX.nil (XX.next (V' := [(0, _), (1, _), (6, _), (7, _)]) ⟨rfl, rfl, rfl, rfl, trivial⟩ ?_)
    refine CX.seq ?_
    refine CX.draw 8 [(0, 1, 16777216), (0, 128, 33554432), (3, 50331648, 67108864), (0, 1, 134217728), (0, 128, 268435456), (24, 402653184, 536870912), (7, 67108864, 256), (127, 536870912, 512)] (by kernel_rfl) (by kernel_rfl) (by kernel_rfl) ?_
    refine DX.takeW 0 1 (by kernel_rfl) rfl rfl rfl rfl rfl (yw_move rfl rfl) ?_
    refine DX.takeW 1 3 (by kernel_rfl) rfl rfl rfl rfl rfl (yw_move rfl rfl) ?_
    refine DX.takeW 2 7 (by kernel_rfl) rfl rfl rfl rfl rfl (yw_sliceTo (k := (lft ls.length)) rfl slt_26 rfl rfl (by omega) (by omega)) ?_
    refine DX.know (t := 26) (u := .slice A' ((List.take (lft ls.length) ls).length) cp) rfl (congrArg (fun n => Value.slice A' n cp) htl.symm) ?_
    refine DX.takeW 3 15 (by kernel_rfl) rfl rfl rfl rfl rfl (yw_move rfl rfl) ?_
    refine DX.takeW 4 31 (by kernel_rfl) rfl rfl rfl rfl rfl (yw_move rfl rfl) ?_
    refine DX.takeW 5 63 (by kernel_rfl) rfl rfl rfl rfl rfl (yw_sliceFromS (k := (lft ls.length)) hA' rfl slt_26 rfl rfl (by omega) (by omega) (by omega) (by omega)) ?_
    refine DX.know (t := 29) (u := .slice (some ⟨b0, q0 + (lft ls.length) * 1, none⟩) ((List.drop (lft ls.length) ls).length) (cp - (lft ls.length))) rfl (congrArg (fun n => Value.slice (some ⟨b0, q0 + (lft ls.length) * 1, none⟩) n (cp - (lft ls.length))) hdl.symm) ?_
    refine DX.takeW 6 127 (by kernel_rfl) rfl rfl rfl rfl rfl (yw_assign rfl rfl) ?_
    refine DX.takeW 7 255 (by kernel_rfl) rfl rfl rfl rfl rfl (yw_assign rfl rfl) ?_
    refine DX.done (by kernel_rfl) (XX.next (V' := [(1, _), (6, _), (7, _), (8, _), (9, _)]) ⟨rfl, rfl, rfl, rfl, rfl, trivial⟩ ?_)
    refine CX.seq ?_
    refine CX.seq ?_
    refine CX.region ?_
    refine RX.cons rfl rfl (op_w (yw_move rfl rfl) rfl rfl ?_)
    refine RX.cons rfl rfl (op_w (yw_move rfl rfl) rfl rfl ?_)
    refine RX.cons rfl rfl (op_w (yw_geq rfl rfl rfl) rfl rfl ?_)
    refine RX.nil (XX.next (V' := [(1, _), (6, _), (7, _), (8, _), (9, _), (32, _)]) ⟨rfl, rfl, rfl, rfl, rfl, rfl, trivial⟩ ?_)
    refine CX.condD (p := ((lft ls.length : Nat) : Int) ≤ ((j : Nat) : Int)) rfl (fun c32 => ?_) (fun c32 => ?_)
    ·refine CX.region ?_
     refine RX.cons rfl rfl (op_w (yw_move rfl rfl) rfl rfl ?_)
     refine RX.cons rfl rfl (op_w (yw_move rfl rfl) rfl rfl ?_)
     refine RX.cons rfl rfl (op_w (yw_move rfl rfl) rfl rfl ?_)
     refine RX.cons rfl rfl (op_w (yw_move rfl rfl) rfl rfl ?_)
     refine RX.cons rfl rfl (op_w (yw_sub rfl rfl rfl (by omega) (by omega)) rfl rfl ?_)
     refine RX.know (t := 37) (u := .int .i64 ((j - (lft ls.length) : Nat) : Int)) rfl (congrArg (Value.int .i64) (by omega)) ?_
     refine RX.cons rfl rfl (op_w (yw_assign rfl rfl) rfl rfl ?_)
     refine RX.cons rfl rfl (op_w (yw_assign rfl rfl) rfl rfl ?_)
     refine RX.cons rfl rfl (op_w (yw_assign rfl rfl) rfl rfl ?_)
     refine RX.nil (XX.next (V' := [(1, _), (6, _), (8, _), (9, _)]) ⟨rfl, rfl, rfl, rfl, trivial⟩ ?_)
     refine CX.seq ?_
     refine CX.region ?_
     refine RX.cons rfl rfl (op_w (yw_move rfl rfl) rfl rfl ?_)
     refine RX.cons rfl rfl (op_w (yw_move rfl rfl) rfl rfl ?_)
     refine RX.cons rfl rfl (op_callV (v := .string (root sum (List.take (lft ls.length) ls))) rfl rfl rfl rfl rfl ent_21 (fun w hw => w_root (List.take (lft ls.length) ls) (hG.keep hw (by simp)) (hw.rd (hR.takeM (lft ls.length)) (by simp)) (by simp; omega) (fun s hs => hs2 s (List.mem_of_mem_take hs))) ?_)
     refine RX.cons rfl rfl (op_buildSlice rfl rfl rfl slb_26 rfl rfl (by intro v hv; simp only [List.mem_cons, List.not_mem_nil, or_false] at hv; subst hv; exact ⟨rfl, (plain_of rfl)⟩) (by decide) fun g1 => ?_)
     refine RX.cons rfl rfl (op_appendM strC (i := 1) (j := 0) (xs := os) ([root sum (List.take (lft ls.length) ls)]) rfl rfl rfl slb_26 rfl rfl rfl rfl rfl rfl (by simp only [List.length_singleton]; omega) (by simp only [List.length_singleton]; omega) fun B2 d2 => ?_)
     refine RX.cons rfl rfl (op_w (yw_assign rfl rfl) rfl rfl ?_)
     refine RX.nil (XX.next (V' := [(1, _), (6, _), (8, _)]) ⟨rfl, rfl, rfl, trivial⟩ ?_)
     refine CX.region ?_
     refine RX.cons rfl rfl (op_w (yw_move rfl rfl) rfl rfl ?_)
     refine RX.cons rfl rfl (op_w (yw_assign rfl rfl) rfl rfl ?_)
     refine RX.nil (XX.inBlock (V' := [(0, _), (1, _), (6, _)]) ⟨rfl, rfl, rfl, trivial⟩ ?_)
     refine XX.againP ([.row (some ⟨g1, 0, none⟩) 1 9 1 (List.map strC ([root sum (List.take (lft ls.length) ls)]))]) ((some ⟨b0, q0 + (lft ls.length) * 1, none⟩, cp - (lft ls.length), List.drop (lft ls.length) ls, j - (lft ls.length)), (B2, d2), os ++ [root sum (List.take (lft ls.length) ls)]) (by simp; omega) ⟨hR.dropM hA' _, by simp; omega, by simp; omega, by simp; omega, fun s hs => hs2 s (List.mem_of_mem_drop hs), by dsimp only; rw [← hpath, path_ge sum (l := ls) (i := j) (by omega) (by omega), List.append_assoc]; rfl, by simp; omega⟩ ⟨rfl, rfl, rfl, trivial⟩ ((perm_pick 1 rfl).trans (List.Perm.cons _ (List.Perm.refl _)))
    ·refine CX.skip (XX.next (V' := [(1, _), (6, _), (8, _), (9, _)]) ⟨rfl, rfl, rfl, rfl, trivial⟩ ?_)
     refine CX.seq ?_
     refine CX.region ?_
     refine RX.cons rfl rfl (op_w (yw_move rfl rfl) rfl rfl ?_)
     refine RX.cons rfl rfl (op_w (yw_move rfl rfl) rfl rfl ?_)
     refine RX.cons rfl rfl (op_callV (v := .string (root sum (List.drop (lft ls.length) ls))) rfl rfl rfl rfl rfl ent_21 (fun w hw => w_root (List.drop (lft ls.length) ls) (hG.keep hw (by simp)) (hw.rd (hR.dropM hA' (lft ls.length)) (by simp)) (by simp; omega) (fun s hs => hs2 s (List.mem_of_mem_drop hs))) ?_)
     refine RX.cons rfl rfl (op_buildSlice rfl rfl rfl slb_26 rfl rfl (by intro v hv; simp only [List.mem_cons, List.not_mem_nil, or_false] at hv; subst hv; exact ⟨rfl, (plain_of rfl)⟩) (by decide) fun g1 => ?_)
     refine RX.cons rfl rfl (op_appendM strC (i := 1) (j := 0) (xs := os) ([root sum (List.drop (lft ls.length) ls)]) rfl rfl rfl slb_26 rfl rfl rfl rfl rfl rfl (by simp only [List.length_singleton]; omega) (by simp only [List.length_singleton]; omega) fun B2 d2 => ?_)
     refine RX.cons rfl rfl (op_w (yw_assign rfl rfl) rfl rfl ?_)
     refine RX.nil (XX.next (V' := [(1, _), (6, _), (8, _)]) ⟨rfl, rfl, rfl, trivial⟩ ?_)
     refine CX.region ?_
     refine RX.cons rfl rfl (op_w (yw_move rfl rfl) rfl rfl ?_)
     refine RX.cons rfl rfl (op_w (yw_assign rfl rfl) rfl rfl ?_)
     refine RX.nil (XX.inBlock (V' := [(0, _), (1, _), (6, _)]) ⟨rfl, rfl, rfl, trivial⟩ ?_)
     refine XX.againP ([.row (some ⟨g1, 0, none⟩) 1 9 1 (List.map strC ([root sum (List.drop (lft ls.length) ls)]))]) ((A', cp, List.take (lft ls.length) ls, j), (B2, d2), os ++ [root sum (List.drop (lft ls.length) ls)]) (by simp; omega) ⟨hR.takeM _, by simp; omega, by simp; omega, by simp; omega, fun s hs => hs2 s (List.mem_of_mem_take hs), by dsimp only; rw [← hpath, path_lt sum (l := ls) (i := j) (by omega) (by omega), List.append_assoc]; rfl, by simp; omega⟩ ⟨rfl, rfl, rfl, trivial⟩ ((perm_pick 1 rfl).trans (List.Perm.cons _ (List.Perm.refl _)))

end Go.Proofs.YtnadipjlhlbfoaaGreatDoor
namespace Go.Proofs.YtnadipjlhlbfoaaGreatDoor
set_option linter.all false
open Go Go.RowKit
set_option maxRecDepth 100000
set_option maxRecDepth 100000 in
theorem w_ext1 {w : World} {A : Option Addr} {cap : Nat} (xs : List ByteArray) (i : Nat) (hG : Rounds w) (hr : Rd w A 1 (xs.map strC)) (hcap : xs.length ≤ cap) (hl : xs.length ≤ 1099511627776) (hsz : ∀ s ∈ xs, s.size ≤ 4294967296) (hi0 : 1 ≤ i) (hi : i ≤ xs.length) :
    Calls Tryz.prog 35 #[.slice A xs.length cap, .int .i64 ((i : Nat) : Int)] w (fun e w' => ∃ z : Option Addr × Nat, True ∧ e = .returned (.tuple #[.slice z.1 (List.length ((ext sum xs i true).reverse)) z.2, .int .i64 0]) ∧ SL w [] w' [.row z.1 z.2 9 1 (List.map strC ((ext sum xs i true).reverse))]) := by
 refine calls_of_CX (O := []) (L := []) (args := [.slice A xs.length cap, .int .i64 ((i : Nat) : Int)]) Tryz.func35 rfl (by simp [Tryz.ntmps35]) (SL.refl w) ?_
 refine CX.sub (V' := [(0, .slice A xs.length cap), (1, .int .i64 ((i : Nat) : Int))]) ⟨rfl, rfl, trivial⟩ ?_
 refine CX.seq ?_
 refine CX.region ?_
 refine RX.cons rfl rfl (op_w (yw_assign rfl rfl) rfl rfl ?_)
 refine RX.cons rfl rfl (op_w (yw_assign rfl rfl) rfl rfl ?_)
 refine RX.nil (XX.next (V' := [(0, _), (1, _)]) ⟨rfl, rfl, trivial⟩ ?_)
 refine CX.seq ?_
 refine CX.block ?_
 refine CX.seq ?_
 refine CX.region ?_
 refine RX.cons rfl rfl (op_w (yw_move rfl rfl) rfl rfl ?_)
 refine RX.cons rfl rfl (op_w (yw_lss rfl rfl rfl) rfl rfl ?_)
 refine RX.cons rfl rfl (op_w (yw_move rfl rfl) rfl rfl ?_)
 refine RX.splitD (t := 14) (p := ((i : Nat) : Int) < 0) rfl (fun d14 => ?_) (fun d14 => ?_)
 ·exfalso; omega
 ·refine RX.consG rfl rfl rfl rfl rfl (op_w (yw_move rfl rfl) rfl rfl ?_)
  refine RX.consG rfl rfl rfl rfl rfl (op_w (yw_move rfl rfl) rfl rfl ?_)
  refine RX.consG rfl rfl rfl rfl rfl (op_w (yw_lenS rfl Tryz.underlying26 rfl) rfl rfl ?_)
  refine RX.consG rfl rfl rfl rfl rfl (op_w (yw_gtr rfl rfl rfl) rfl rfl ?_)
  refine RX.cons rfl rfl (op_w (yw_pickF rfl rfl rfl) rfl rfl ?_)
  refine RX.cons rfl rfl (op_w (yw_assign rfl rfl) rfl rfl ?_)
  refine RX.nil (XX.next (V' := [(0, _), (1, _), (11, _)]) ⟨rfl, rfl, rfl, trivial⟩ ?_)
  refine CX.condD (p := ((xs.length : Nat) : Int) < ((i : Nat) : Int)) rfl (fun c11 => ?_) (fun c11 => ?_)
  ·exfalso; omega
  ·refine CX.seq ?_
   refine CX.region ?_
   refine RX.cons rfl rfl (op_w (yw_move rfl rfl) rfl rfl ?_)
   refine RX.cons rfl rfl (op_w (yw_eql rfl rfl rfl) rfl rfl ?_)
   refine RX.cons rfl rfl (op_w (yw_assign rfl rfl) rfl rfl ?_)
   refine RX.nil (XX.next (V' := [(0, _), (1, _), (20, _)]) ⟨rfl, rfl, rfl, trivial⟩ ?_)
   refine CX.condD (p := ((i : Nat) : Int) = 0) rfl (fun c20 => ?_) (fun c20 => ?_)
   ·exfalso; omega
   ·refine CX.skip (XX.inBlock (V' := [(0, _), (1, _)]) ⟨rfl, rfl, trivial⟩ ?_)
    refine XX.next (V' := [(0, _), (1, _)]) ⟨rfl, rfl, trivial⟩ ?_
    refine CX.seq ?_
    refine CX.region ?_
    refine RX.cons rfl rfl (op_w (yw_assign rfl rfl) rfl rfl ?_)
    refine RX.nil (XX.next (V' := [(0, _), (1, _), (6, _)]) ⟨rfl, rfl, rfl, trivial⟩ ?_)
    refine CX.seq ?_
    refine CX.region ?_
    refine RX.cons rfl rfl (op_w (yw_assign rfl rfl) rfl rfl ?_)
    refine RX.nil (XX.next (V' := [(0, _), (1, _), (6, _), (7, _)]) ⟨rfl, rfl, rfl, rfl, trivial⟩ ?_)
    refine CX.seq ?_
    refine CX.block ?_
    refine CX.rowNil 9 1 ?_
    refine CX.loop (σ := (Option Addr × Nat × List ByteArray × Nat) × (Option Addr × Nat) × List ByteArray × Bool) (fun z => [(0, .slice z.1.1 z.1.2.2.1.length z.1.2.1), (1, .int .i64 ((z.1.2.2.2 : Nat) : Int)), (6, .slice z.2.1.1 (List.length (z.2.2.1 : List ByteArray)) z.2.1.2), (7, .bool z.2.2.2)]) (fun z => [.row z.2.1.1 z.2.1.2 9 1 (List.map strC z.2.2.1)]) (fun z => Rd w z.1.1 1 (z.1.2.2.1.map strC) ∧ z.1.2.2.1.length ≤ z.1.2.1 ∧ z.1.2.2.1.length ≤ xs.length ∧ (1 ≤ z.1.2.2.2 ∧ z.1.2.2.2 ≤ z.1.2.2.1.length) ∧ (∀ s ∈ z.1.2.2.1, s.size ≤ 4294967296) ∧ z.2.2.1 ++ ext sum z.1.2.2.1 z.1.2.2.2 z.2.2.2 = ext sum xs i true ∧ z.2.2.1.length + z.1.2.2.1.length ≤ xs.length) (fun z => z.1.2.2.1.length) ((A, cap, xs, i), (none, 0), [], true) ⟨hr, hcap, Nat.le_refl _, ⟨hi0, hi⟩, hsz, rfl, by simp⟩ ⟨rfl, rfl, rfl, rfl, trivial⟩ rfl (fun z hI => ?_)
    obtain ⟨⟨A', cp, ls, j⟩, ⟨B1, d1⟩, os, wh⟩ := z
    dsimp only at hI ⊢
    obtain ⟨hR, hcp, hll, ⟨hj0, hj⟩, hs2, hpath, hol⟩ := hI
    obtain ⟨b0, q0, hA'⟩ := hR.some (k := 0) (by simp; omega)
    refine CX.seq ?_
    refine CX.seq ?_
    refine CX.region ?_
    refine RX.cons rfl rfl (op_w (yw_move rfl rfl) rfl rfl ?_)
    refine RX.cons rfl rfl (op_w (yw_move rfl rfl) rfl rfl ?_)
    refine RX.cons rfl rfl (op_w (yw_lenS rfl Tryz.underlying26 rfl) rfl rfl ?_)
    refine RX.cons rfl rfl (op_w (yw_lss rfl rfl rfl) rfl rfl ?_)
    refine RX.nil (XX.next (V' := [(0, _), (1, _), (6, _), (7, _), (26, _)]) ⟨rfl, rfl, rfl, rfl, rfl, trivial⟩ ?_)
    refine CX.condD (p := ((j : Nat) : Int) < ((ls.length : Nat) : Int)) rfl (fun c26 => ?_) (fun c26 => ?_)
    ·have hq1 := lft_pos ls.length
     have hq2 := lft_lt (n := ls.length) (by omega)
     have htl : (List.take (lft ls.length) ls).length = lft ls.length := by simp; omega
     have hdl : (List.drop (lft ls.length) ls).length = ls.length - lft ls.length := by simp
     refine CX.skip (XX.next (V' := [(0, _), (1, _), (6, _), (7, _)]) ⟨rfl, rfl, rfl, rfl, trivial⟩ ?_)
     refine CX.block ?_
     refine CX.seq ?_
     refine CX.region ?_
     refine RX.cons rfl rfl (op_w (yw_move rfl rfl) rfl rfl ?_)
     refine RX.cons rfl rfl (op_w (yw_lenS rfl Tryz.underlying26 rfl) rfl rfl ?_)
     refine RX.cons rfl rfl (op_callV (v := .int .i64 ((lft ls.length : Nat) : Int)) rfl rfl rfl rfl rfl ent_48 (fun w hw => w_left ls.length (by omega) (by omega)) ?_)
     refine RX.cons rfl rfl (op_w (yw_assign rfl rfl) rfl rfl ?_)
     refine RX.nil (XX.next (V' := [(0, _), (1, _), (6, _), (7, _), (8, _)]) ⟨rfl, rfl, rfl, rfl, rfl, trivial⟩ ?_)
     refine CX.seq ?_
     refine CX.draw 8 [(0, 1, 1073741824), (0, 256, 2147483648), (3, 3221225472, 4294967296), (0, 1, 8589934592), (0, 256, 17179869184), (24, 25769803776, 34359738368), (7, 4294967296, 512), (127, 34359738368, 1024)] (by kernel_rfl) (by kernel_rfl) (by kernel_rfl) ?_
     refine DX.takeW 0 1 (by kernel_rfl) rfl rfl rfl rfl rfl (yw_move rfl rfl) ?_
     refine DX.takeW 1 3 (by kernel_rfl) rfl rfl rfl rfl rfl (yw_move rfl rfl) ?_
     refine DX.takeW 2 7 (by kernel_rfl) rfl rfl rfl rfl rfl (yw_sliceTo (k := (lft ls.length)) rfl slt_26 rfl rfl (by omega) (by omega)) ?_
     refine DX.know (t := 32) (u := .slice A' ((List.take (lft ls.length) ls).length) cp) rfl (congrArg (fun n => Value.slice A' n cp) htl.symm) ?_
     refine DX.takeW 3 15 (by kernel_rfl) rfl rfl rfl rfl rfl (yw_move rfl rfl) ?_
     refine DX.takeW 4 31 (by kernel_rfl) rfl rfl rfl rfl rfl (yw_move rfl rfl) ?_
     refine DX.takeW 5 63 (by kernel_rfl) rfl rfl rfl rfl rfl (yw_sliceFromS (k := (lft ls.length)) hA' rfl slt_26 rfl rfl (by omega) (by omega) (by omega) (by omega)) ?_
     refine DX.know (t := 35) (u := .slice (some ⟨b0, q0 + (lft ls.length) * 1, none⟩) ((List.drop (lft ls.length) ls).length) (cp - (lft ls.length))) rfl (congrArg (fun n => Value.slice (some ⟨b0, q0 + (lft ls.length) * 1, none⟩) n (cp - (lft ls.length))) hdl.symm) ?_
     refine DX.takeW 6 127 (by kernel_rfl) rfl rfl rfl rfl rfl (yw_assign rfl rfl) ?_
     refine DX.takeW 7 255 (by kernel_rfl) rfl rfl rfl rfl rfl (yw_assign rfl rfl) ?_
     refine DX.done (by kernel_rfl) (XX.next (V' := [(1, _), (6, _), (7, _), (8, _), (9, _), (10, _)]) ⟨rfl, rfl, rfl, rfl, rfl, rfl, trivial⟩ ?_)
     refine CX.seq ?_
     refine CX.seq ?_
     refine CX.region ?_
     refine RX.cons rfl rfl (op_w (yw_move rfl rfl) rfl rfl ?_)
     refine RX.cons rfl rfl (op_w (yw_move rfl rfl) rfl rfl ?_)
     refine RX.cons rfl rfl (op_w (yw_gtr rfl rfl rfl) rfl rfl ?_)
     refine RX.nil (XX.next (V' := [(1, _), (6, _), (7, _), (8, _), (9, _), (10, _), (38, _)]) ⟨rfl, rfl, rfl, rfl, rfl, rfl, rfl, trivial⟩ ?_)
     refine CX.condD (p := ((lft ls.length : Nat) : Int) < ((j : Nat) : Int)) rfl (fun c38 => ?_) (fun c38 => ?_)
     ·refine CX.region ?_
      refine RX.cons rfl rfl (op_w (yw_move rfl rfl) rfl rfl ?_)
      refine RX.cons rfl rfl (op_w (yw_move rfl rfl) rfl rfl ?_)
      refine RX.cons rfl rfl (op_w (yw_move rfl rfl) rfl rfl ?_)
      refine RX.cons rfl rfl (op_w (yw_move rfl rfl) rfl rfl ?_)
      refine RX.cons rfl rfl (op_w (yw_sub rfl rfl rfl (by omega) (by omega)) rfl rfl ?_)
      refine RX.know (t := 43) (u := .int .i64 ((j - (lft ls.length) : Nat) : Int)) rfl (congrArg (Value.int .i64) (by omega)) ?_
      refine RX.cons rfl rfl (op_w (yw_assign rfl rfl) rfl rfl ?_)
      refine RX.cons rfl rfl (op_w (yw_assign rfl rfl) rfl rfl ?_)
      refine RX.cons rfl rfl (op_w (yw_assign rfl rfl) rfl rfl ?_)
      refine RX.cons rfl rfl (op_w (yw_assign rfl rfl) rfl rfl ?_)
      refine RX.nil (XX.next (V' := [(1, _), (6, _), (7, _), (9, _), (10, _)]) ⟨rfl, rfl, rfl, rfl, rfl, trivial⟩ ?_)
      refine CX.seq ?_
      refine CX.region ?_
      refine RX.cons rfl rfl (op_w (yw_move rfl rfl) rfl rfl ?_)
      refine RX.cons rfl rfl (op_w (yw_move rfl rfl) rfl rfl ?_)
      refine RX.cons rfl rfl (op_callV (v := .string (root sum (List.take (lft ls.length) ls))) rfl rfl rfl rfl rfl ent_21 (fun w hw => w_root (List.take (lft ls.length) ls) (hG.keep hw (by simp)) (hw.rd (hR.takeM (lft ls.length)) (by simp)) (by simp; omega) (fun s hs => hs2 s (List.mem_of_mem_take hs))) ?_)
      refine RX.cons rfl rfl (op_buildSlice rfl rfl rfl slb_26 rfl rfl (by intro v hv; simp only [List.mem_cons, List.not_mem_nil, or_false] at hv; subst hv; exact ⟨rfl, (plain_of rfl)⟩) (by decide) fun g1 => ?_)
      refine RX.cons rfl rfl (op_appendM strC (i := 1) (j := 0) (xs := os) ([root sum (List.take (lft ls.length) ls)]) rfl rfl rfl slb_26 rfl rfl rfl rfl rfl rfl (by simp only [List.length_singleton]; omega) (by simp only [List.length_singleton]; omega) fun B2 d2 => ?_)
      refine RX.cons rfl rfl (op_w (yw_assign rfl rfl) rfl rfl ?_)
      refine RX.nil (XX.next (V' := [(1, _), (6, _), (7, _), (9, _)]) ⟨rfl, rfl, rfl, rfl, trivial⟩ ?_)
      refine CX.region ?_
      refine RX.cons rfl rfl (op_w (yw_move rfl rfl) rfl rfl ?_)
      refine RX.cons rfl rfl (op_w (yw_assign rfl rfl) rfl rfl ?_)
      refine RX.nil (XX.inBlock (V' := [(0, _), (1, _), (6, _), (7, _)]) ⟨rfl, rfl, rfl, rfl, trivial⟩ ?_)
      refine XX.againP ([.row (some ⟨g1, 0, none⟩) 1 9 1 (List.map strC ([root sum (List.take (lft ls.length) ls)]))]) ((some ⟨b0, q0 + (lft ls.length) * 1, none⟩, cp - (lft ls.length), List.drop (lft ls.length) ls, j - (lft ls.length)), (B2, d2), os ++ [root sum (List.take (lft ls.length) ls)], false) (by simp; omega) ⟨hR.dropM hA' _, by simp; omega, by simp; omega, by simp; omega, fun s hs => hs2 s (List.mem_of_mem_drop hs), by dsimp only; rw [← hpath, ext_gt sum (l := ls) (m := j) (by omega) (by omega) (by omega), List.append_assoc]; rfl, by simp; omega⟩ ⟨rfl, rfl, rfl, rfl, trivial⟩ ((perm_pick 1 rfl).trans (List.Perm.cons _ (List.Perm.refl _)))
     ·refine CX.skip (XX.next (V' := [(1, _), (6, _), (7, _), (9, _), (10, _)]) ⟨rfl, rfl, rfl, rfl, rfl, trivial⟩ ?_)
      refine CX.seq ?_
      refine CX.region ?_
      refine RX.cons rfl rfl (op_w (yw_move rfl rfl) rfl rfl ?_)
      refine RX.cons rfl rfl (op_w (yw_move rfl rfl) rfl rfl ?_)
      refine RX.cons rfl rfl (op_callV (v := .string (root sum (List.drop (lft ls.length) ls))) rfl rfl rfl rfl rfl ent_21 (fun w hw => w_root (List.drop (lft ls.length) ls) (hG.keep hw (by simp)) (hw.rd (hR.dropM hA' (lft ls.length)) (by simp)) (by simp; omega) (fun s hs => hs2 s (List.mem_of_mem_drop hs))) ?_)
      refine RX.cons rfl rfl (op_buildSlice rfl rfl rfl slb_26 rfl rfl (by intro v hv; simp only [List.mem_cons, List.not_mem_nil, or_false] at hv; subst hv; exact ⟨rfl, (plain_of rfl)⟩) (by decide) fun g1 => ?_)
      refine RX.cons rfl rfl (op_appendM strC (i := 1) (j := 0) (xs := os) ([root sum (List.drop (lft ls.length) ls)]) rfl rfl rfl slb_26 rfl rfl rfl rfl rfl rfl (by simp only [List.length_singleton]; omega) (by simp only [List.length_singleton]; omega) fun B2 d2 => ?_)
      refine RX.cons rfl rfl (op_w (yw_assign rfl rfl) rfl rfl ?_)
      refine RX.nil (XX.next (V' := [(1, _), (6, _), (7, _), (9, _)]) ⟨rfl, rfl, rfl, rfl, trivial⟩ ?_)
      refine CX.region ?_
      refine RX.cons rfl rfl (op_w (yw_move rfl rfl) rfl rfl ?_)
      refine RX.cons rfl rfl (op_w (yw_assign rfl rfl) rfl rfl ?_)
      refine RX.nil (XX.inBlock (V' := [(0, _), (1, _), (6, _), (7, _)]) ⟨rfl, rfl, rfl, rfl, trivial⟩ ?_)
      refine XX.againP ([.row (some ⟨g1, 0, none⟩) 1 9 1 (List.map strC ([root sum (List.drop (lft ls.length) ls)]))]) ((A', cp, List.take (lft ls.length) ls, j), (B2, d2), os ++ [root sum (List.drop (lft ls.length) ls)], wh) (by simp; omega) ⟨hR.takeM _, by simp; omega, by simp; omega, by simp; omega, fun s hs => hs2 s (List.mem_of_mem_take hs), by dsimp only; rw [← hpath, ext_le sum (l := ls) (m := j) (by omega) (by omega) (by omega), List.append_assoc]; rfl, by simp; omega⟩ ⟨rfl, rfl, rfl, rfl, trivial⟩ ((perm_pick 1 rfl).trans (List.Perm.cons _ (List.Perm.refl _)))
    ·refine CX.exit ?_
     refine XX.then_exit ?_
     refine XX.then_exit ?_
     refine XX.block_exit ?_
     refine XX.next (V' := [(0, _), (6, _), (7, _)]) ⟨rfl, rfl, rfl, trivial⟩ ?_
     refine CX.seq ?_
     refine CX.seq ?_
     rw [ext_done sum (by omega) (by omega)] at hpath
     refine CX.region ?_
     refine RX.cons rfl rfl (op_w (yw_move rfl rfl) rfl rfl ?_)
     refine RX.cons rfl rfl (op_w (yw_not rfl rfl) rfl rfl ?_)
     refine RX.nil (XX.next (V' := [(0, _), (6, _), (51, _)]) ⟨rfl, rfl, rfl, trivial⟩ ?_)
     refine CX.cond (b := !wh) rfl (fun c51 => ?_) (fun c51 => ?_)
     ·have hpe : os ++ [root sum ls] = ext sum xs i true := by rw [← hpath]; cases wh <;> simp_all
      have hol2 : (os ++ [root sum ls]).length ≤ 281474976710656 := by simp; omega
      refine CX.region ?_
      refine RX.cons rfl rfl (op_w (yw_move rfl rfl) rfl rfl ?_)
      refine RX.cons rfl rfl (op_w (yw_move rfl rfl) rfl rfl ?_)
      refine RX.cons rfl rfl (op_callV (v := .string (root sum ls)) rfl rfl rfl rfl rfl ent_21 (fun w hw => w_root ls (hG.keep hw (by simp)) (hw.rd hR (by simp)) (by omega) hs2) ?_)
      refine RX.cons rfl rfl (op_buildSlice rfl rfl rfl slb_26 rfl rfl (by intro v hv; simp only [List.mem_cons, List.not_mem_nil, or_false] at hv; subst hv; exact ⟨rfl, (plain_of rfl)⟩) (by decide) fun g1 => ?_)
      refine RX.cons rfl rfl (op_appendM strC (i := 1) (j := 0) (xs := os) ([root sum ls]) rfl rfl rfl slb_26 rfl rfl rfl rfl rfl rfl (by simp only [List.length_singleton]; omega) (by simp only [List.length_singleton]; omega) fun B2 d2 => ?_)
      refine RX.cons rfl rfl (op_w (yw_assign rfl rfl) rfl rfl ?_)
      refine RX.nil (XX.next (V' := [(6, _)]) ⟨rfl, trivial⟩ ?_)
      refine CX.seq ?_
      refine CX.region ?_
      refine RX.cons rfl rfl (op_w (yw_move rfl rfl) rfl rfl ?_)
      refine RX.cons rfl rfl (op_callP [.row B2 d2 9 1 (List.map strC (os ++ [root sum ls]))] [.row (some ⟨g1, 0, none⟩) 1 9 1 (List.map strC ([root sum ls]))] rfl rfl rfl rfl rfl ent_65 ((perm_pick 1 rfl).trans (List.Perm.cons _ (List.Perm.refl _))) (σ := Unit) (val := fun _ => .tuple #[]) (LL := fun _ => [.row B2 d2 9 1 (List.map strC (List.reverse (os ++ [root sum ls])))]) (post := fun _ => True) (fun w hw hs => (w_reverse (os ++ [root sum ls]) hol2 hs).mono fun e w' h => ⟨(), trivial, h⟩) (fun _ _ => ?_))
      refine RX.nil (XX.next (V' := [(6, _)]) ⟨rfl, trivial⟩ ?_)
      refine CX.seq ?_
      refine CX.region ?_
      refine RX.cons rfl rfl (op_w (yw_move rfl rfl) rfl rfl ?_)
      refine RX.cons rfl rfl (op_w (yw_assign rfl rfl) rfl rfl ?_)
      refine RX.cons rfl rfl (op_w (yw_assign rfl rfl) rfl rfl ?_)
      refine RX.nil (XX.next (V' := [(4, .slice B2 ((os ++ [root sum ls]).length) d2), (5, .int .i64 0)]) ⟨rfl, rfl, trivial⟩ ?_)
      refine CX.ret ?_
      exact ret_tmp2 rfl rfl rfl fun w1 hw => ⟨(B2, d2), trivial, by rw [← hpe, List.length_reverse], by rw [← hpe]; exact hw.pick ((perm_pick 0 rfl).trans (List.Perm.cons _ (List.Perm.refl _)))⟩
     ·have hpe : os = ext sum xs i true := by rw [← hpath]; cases wh <;> simp_all
      have hol2 : os.length ≤ 281474976710656 := by omega
      refine CX.skip (XX.next (V' := [(6, _)]) ⟨rfl, trivial⟩ ?_)
      refine CX.seq ?_
      refine CX.region ?_
      refine RX.cons rfl rfl (op_w (yw_move rfl rfl) rfl rfl ?_)
      refine RX.cons rfl rfl (op_callP [.row B1 d1 9 1 (List.map strC os)] [] rfl rfl rfl rfl rfl ent_65 ((perm_pick 0 rfl).trans (List.Perm.cons _ (List.Perm.refl _))) (σ := Unit) (val := fun _ => .tuple #[]) (LL := fun _ => [.row B1 d1 9 1 (List.map strC (List.reverse os))]) (post := fun _ => True) (fun w hw hs => (w_reverse os hol2 hs).mono fun e w' h => ⟨(), trivial, h⟩) (fun _ _ => ?_))
      refine RX.nil (XX.next (V' := [(6, _)]) ⟨rfl, trivial⟩ ?_)
      refine CX.seq ?_
      refine CX.region ?_
      refine RX.cons rfl rfl (op_w (yw_move rfl rfl) rfl rfl ?_)
      refine RX.cons rfl rfl (op_w (yw_assign rfl rfl) rfl rfl ?_)
      refine RX.cons rfl rfl (op_w (yw_assign rfl rfl) rfl rfl ?_)
      refine RX.nil (XX.next (V' := [(4, .slice B1 (List.length (os : List ByteArray)) d1), (5, .int .i64 0)]) ⟨rfl, rfl, trivial⟩ ?_)
      refine CX.ret ?_
      exact ret_tmp2 rfl rfl rfl fun w1 hw => ⟨(B1, d1), trivial, by rw [← hpe, List.length_reverse], by rw [← hpe]; exact hw.pick ((perm_pick 0 rfl).trans (List.Perm.cons _ (List.Perm.refl _)))⟩

set_option maxRecDepth 100000 in
theorem w_ext0 {w : World} {A : Option Addr} {cap : Nat} (n : Nat) :
    Calls Tryz.prog 35 #[.slice A n cap, .int .i64 0] w (fun e w' => e = .returned (.tuple #[.slice none 0 0, .int .i64 0]) ∧ SL w [] w' []) := by
 refine calls_of_CX (O := []) (L := []) (args := [.slice A n cap, .int .i64 0]) Tryz.func35 rfl (by simp [Tryz.ntmps35]) (SL.refl w) ?_
 refine CX.sub (V' := [(0, .slice A n cap), (1, .int .i64 0)]) ⟨rfl, rfl, trivial⟩ ?_
 refine CX.seq ?_
 refine CX.region ?_
 refine RX.cons rfl rfl (op_w (yw_assign rfl rfl) rfl rfl ?_)
 refine RX.cons rfl rfl (op_w (yw_assign rfl rfl) rfl rfl ?_)
 refine RX.nil (XX.next (V' := [(0, _), (1, _)]) ⟨rfl, rfl, trivial⟩ ?_)
 refine CX.seq ?_
 refine CX.block ?_
 refine CX.seq ?_
 refine CX.region ?_
 refine RX.cons rfl rfl (op_w (yw_move rfl rfl) rfl rfl ?_)
 refine RX.cons rfl rfl (op_w (yw_lss rfl rfl rfl) rfl rfl ?_)
 refine RX.cons rfl rfl (op_w (yw_move rfl rfl) rfl rfl ?_)
 refine RX.splitD (t := 14) (p := 0 < 0) rfl (fun d14 => ?_) (fun d14 => ?_)
 ·exact absurd d14 (by decide)
 ·refine RX.consG rfl rfl rfl rfl rfl (op_w (yw_move rfl rfl) rfl rfl ?_)
  refine RX.consG rfl rfl rfl rfl rfl (op_w (yw_move rfl rfl) rfl rfl ?_)
  refine RX.consG rfl rfl rfl rfl rfl (op_w (yw_lenS rfl Tryz.underlying26 rfl) rfl rfl ?_)
  refine RX.consG rfl rfl rfl rfl rfl (op_w (yw_gtr rfl rfl rfl) rfl rfl ?_)
  refine RX.cons rfl rfl (op_w (yw_pickF rfl rfl rfl) rfl rfl ?_)
  refine RX.cons rfl rfl (op_w (yw_assign rfl rfl) rfl rfl ?_)
  refine RX.nil (XX.next (V' := [(0, _), (1, _), (11, _)]) ⟨rfl, rfl, rfl, trivial⟩ ?_)
  refine CX.condD (p := ((n : Nat) : Int) < 0) rfl (fun c11 => ?_) (fun c11 => ?_)
  ·exfalso; omega
  ·refine CX.seq ?_
   refine CX.region ?_
   refine RX.cons rfl rfl (op_w (yw_move rfl rfl) rfl rfl ?_)
   refine RX.cons rfl rfl (op_w (yw_eql rfl rfl rfl) rfl rfl ?_)
   refine RX.cons rfl rfl (op_w (yw_assign rfl rfl) rfl rfl ?_)
   refine RX.nil (XX.next (V' := [(0, _), (1, _), (20, _)]) ⟨rfl, rfl, rfl, trivial⟩ ?_)
   refine CX.condD (p := 0 = 0) rfl (fun c20 => ?_) (fun c20 => ?_)
   ·refine CX.seq ?_
    refine CX.region ?_
    refine RX.cons rfl rfl (op_w (yw_assign rfl rfl) rfl rfl ?_)
    refine RX.cons rfl rfl (op_w (yw_assign rfl rfl) rfl rfl ?_)
    refine RX.nil (XX.next (V' := [(4, .slice none 0 0), (5, .int .i64 0)]) ⟨rfl, rfl, trivial⟩ ?_)
    refine CX.ret ?_
    refine XX.block_ret ?_
    refine XX.then_ret ?_
    exact ret_tmp2 rfl rfl rfl fun w1 hw => ⟨rfl, hw.sub (List.nil_sublist _)⟩
   ·exact absurd rfl c20

set_option maxRecDepth 100000 in
theorem w_extBad {w : World} {A : Option Addr} {cap : Nat} (n : Nat) (m : Int) (hm : m < 0 ∨ (n : Int) < m) :
    Calls Tryz.prog 35 #[.slice A n cap, .int .i64 m] w (fun e w' => e = .returned (.tuple #[.slice none 0 0, .int .i64 2]) ∧ SL w [] w' []) := by
 refine calls_of_CX (O := []) (L := []) (args := [.slice A n cap, .int .i64 m]) Tryz.func35 rfl (by simp [Tryz.ntmps35]) (SL.refl w) ?_
 refine CX.sub (V' := [(0, .slice A n cap), (1, .int .i64 m)]) ⟨rfl, rfl, trivial⟩ ?_
 refine CX.seq ?_
 refine CX.region ?_
 refine RX.cons rfl rfl (op_w (yw_assign rfl rfl) rfl rfl ?_)
 refine RX.cons rfl rfl (op_w (yw_assign rfl rfl) rfl rfl ?_)
 refine RX.nil (XX.next (V' := [(0, _), (1, _)]) ⟨rfl, rfl, trivial⟩ ?_)
 refine CX.seq ?_
 refine CX.block ?_
 refine CX.seq ?_
 refine CX.region ?_
 refine RX.cons rfl rfl (op_w (yw_move rfl rfl) rfl rfl ?_)
 refine RX.cons rfl rfl (op_w (yw_lss rfl rfl rfl) rfl rfl ?_)
 refine RX.cons rfl rfl (op_w (yw_move rfl rfl) rfl rfl ?_)
 refine RX.splitD (t := 14) (p := m < 0) rfl (fun d14 => ?_) (fun d14 => ?_)
 ·refine RX.skip rfl rfl rfl rfl rfl rfl rfl ?_
  refine RX.skip rfl rfl rfl rfl rfl rfl rfl ?_
  refine RX.skip rfl rfl rfl rfl rfl rfl rfl ?_
  refine RX.skip rfl rfl rfl rfl rfl rfl rfl ?_
  refine RX.cons rfl rfl (op_w (yw_pickT rfl rfl rfl) rfl rfl ?_)
  refine RX.cons rfl rfl (op_w (yw_assign rfl rfl) rfl rfl ?_)
  refine RX.nil (XX.next (V' := [(0, _), (1, _), (11, _)]) ⟨rfl, rfl, rfl, trivial⟩ ?_)
  refine CX.condT rfl ?_
  refine CX.seq ?_
  refine CX.region ?_
  refine RX.cons rfl rfl (op_w (yw_assign rfl rfl) rfl rfl ?_)
  refine RX.cons rfl rfl (op_w (yw_assign rfl rfl) rfl rfl ?_)
  refine RX.nil (XX.next (V' := [(4, .slice none 0 0), (5, .int .i64 2)]) ⟨rfl, rfl, trivial⟩ ?_)
  refine CX.ret ?_
  refine XX.block_ret ?_
  refine XX.then_ret ?_
  exact ret_tmp2 rfl rfl rfl fun w1 hw => ⟨rfl, hw.sub (List.nil_sublist _)⟩
 ·refine RX.consG rfl rfl rfl rfl rfl (op_w (yw_move rfl rfl) rfl rfl ?_)
  refine RX.consG rfl rfl rfl rfl rfl (op_w (yw_move rfl rfl) rfl rfl ?_)
  refine RX.consG rfl rfl rfl rfl rfl (op_w (yw_lenS rfl Tryz.underlying26 rfl) rfl rfl ?_)
  refine RX.consG rfl rfl rfl rfl rfl (op_w (yw_gtr rfl rfl rfl) rfl rfl ?_)
  refine RX.cons rfl rfl (op_w (yw_pickF rfl rfl rfl) rfl rfl ?_)
  refine RX.cons rfl rfl (op_w (yw_assign rfl rfl) rfl rfl ?_)
  refine RX.nil (XX.next (V' := [(0, _), (1, _), (11, _)]) ⟨rfl, rfl, rfl, trivial⟩ ?_)
  refine CX.condD (p := ((n : Nat) : Int) < m) rfl (fun c11 => ?_) (fun c11 => ?_)
  ·refine CX.seq ?_
   refine CX.region ?_
   refine RX.cons rfl rfl (op_w (yw_assign rfl rfl) rfl rfl ?_)
   refine RX.cons rfl rfl (op_w (yw_assign rfl rfl) rfl rfl ?_)
   refine RX.nil (XX.next (V' := [(4, .slice none 0 0), (5, .int .i64 2)]) ⟨rfl, rfl, trivial⟩ ?_)
   refine CX.ret ?_
   refine XX.block_ret ?_
   refine XX.then_ret ?_
   exact ret_tmp2 rfl rfl rfl fun w1 hw => ⟨rfl, hw.sub (List.nil_sublist _)⟩
  ·exfalso; omega

end Go.Proofs.YtnadipjlhlbfoaaGreatDoor
namespace Go.Proofs.YtnadipjlhlbfoaaGreatDoor
set_option linter.all false
open Go Go.RowKit
theorem toList_data (a : ByteArray) : a.toList = a.data.toList := ByteArray.toList_eq a
theorem toList_inj {a b : ByteArray} : a.toList = b.toList ↔ a = b := by
  rw [toList_data, toList_data]
  constructor
  · intro h; exact ByteArray.ext (Array.ext' h)
  · rintro rfl; rfl
section
variable (h : B → B)
theorem value_lt (s x : B) (r : List B) {n i : Nat} (hn : 2 ≤ n) (hi : i < lft n) : value h s (x :: r) n i = (value h s r (lft n) i).map (joinS h (x, false)) := by
  rw [value, if_neg (by omega), if_pos hi]; rfl
theorem value_ge (s x : B) (r : List B) {n i : Nat} (hn : 2 ≤ n) (hi : lft n ≤ i) : value h s (x :: r) n i = (value h s r (n - lft n) (i - lft n)).map (joinS h (x, true)) := by
  rw [value, if_neg (by omega), if_neg (by omega)]; rfl
theorem value_end (s : B) {n i : Nat} (hn : n ≤ 1) : ∀ r : List B, value h s r n i = if r = [] then some (leafH h s) else none
  | [] => by rw [value, if_pos hn, if_pos rfl]
  | x :: r => by rw [value, if_pos hn, if_neg (by simp)]
theorem value_out (s : B) {n i : Nat} (hn : 2 ≤ n) : value h s [] n i = none := by rw [value, if_neg (by omega)]
end
theorem last_split {ps : List ByteArray} {x : ByteArray} (h : ps[ps.length - 1]? = some x) : ps = ps.take (ps.length - 1) ++ [x] := by
  have hl := (List.getElem?_eq_some_iff.1 h).1
  have := take_succ h
  rw [show ps.length - 1 + 1 = ps.length from by omega, List.take_length] at this
  exact this
theorem nil_or (ps : List ByteArray) : ps = [] ∨ ∃ x, ps[ps.length - 1]? = some x ∧ 1 ≤ ps.length := by
  rcases ps with _ | ⟨a, l⟩
  · exact .inl rfl
  · exact .inr ⟨_, List.getElem?_eq_getElem (by simp), by simp⟩
def stepJ (h : D32) (x : ByteArray × Bool) : D32 := ⟨joinS sum x h.1, by unfold joinS; split <;> exact sum_size _⟩
theorem stepJ_fold (xs : List (ByteArray × Bool)) (s : D32) : (xs.foldr (fun a s => stepJ s a) s).1 = xs.foldr (fun x out => joinS sum x out) s.1 := by
  induction xs with
  | nil => rfl
  | cons x xs ih => rw [List.foldr_cons, List.foldr_cons, ← ih]; rfl
/-- What Verify answers. -/
def verN (root : ByteArray) (n i : Nat) (s : ByteArray) (p : List ByteArray) : Bool := decide ((∀ x ∈ p, x.size = 32) ∧ value sum s p.reverse n i = some root)
theorem verN_odd {root s : ByteArray} {n i : Nat} {p : List ByteArray} (h : ¬ ∀ x ∈ p, x.size = 32) : verN root n i s p = false := by
  unfold verN; simp only [decide_eq_false_iff_not]; exact fun hh => h hh.1
theorem verN_none {root s : ByteArray} {n i : Nat} {p : List ByteArray} (h : value sum s p.reverse n i = none) : verN root n i s p = false := by
  unfold verN; simp [h]
theorem verN_some {root s v : ByteArray} {n i : Nat} {p : List ByteArray} (hp : ∀ x ∈ p, x.size = 32) (h : value sum s p.reverse n i = some v) : verN root n i s p = decide (v.toList = root.toList) := by
  unfold verN
  rw [h]
  apply decide_eq_decide.2
  rw [toList_inj]
  constructor
  · rintro ⟨_, e⟩; injection e
  · rintro rfl; exact ⟨hp, rfl⟩

/-! ### Extensions -/
def stepX (h : D32 × D32) (x : ByteArray × Bool) : D32 × D32 := (if x.2 then stepJ h.1 x else h.1, stepJ h.2 x)
def foldX (way : List (ByteArray × Bool)) (v : ByteArray × ByteArray) : ByteArray × ByteArray := (way.foldr (fun x o => if x.2 then joinS sum x o else o) v.1, way.foldr (fun x o => joinS sum x o) v.2)
theorem stepX_fold (xs : List (ByteArray × Bool)) (s : D32 × D32) : ((xs.foldr (fun a s => stepX s a) s).1.1, (xs.foldr (fun a s => stepX s a) s).2.1) = foldX xs (s.1.1, s.2.1) := by
  unfold foldX
  induction xs with
  | nil => rfl
  | cons x xs ih =>
    simp only [Prod.mk.injEq] at ih
    simp only [List.foldr_cons, Prod.mk.injEq]
    rw [← ih.1, ← ih.2]
    refine ⟨?_, rfl⟩
    unfold stepX
    cases x.2 <;> rfl
theorem foldX_snoc (way : List (ByteArray × Bool)) (x : ByteArray × Bool) (v : ByteArray × ByteArray) : foldX (way ++ [x]) v = foldX way (if x.2 then joinS sum x v.1 else v.1, joinS sum x v.2) := by
  simp [foldX, List.foldr_append]
theorem both_le (old x : B) (r : List B) {m n : Nat} (hn : m < n) (hm : m ≤ lft n) (w : Bool) : both sum old (x :: r) m n w = (both sum old r m (lft n) w).map (fun v => (v.1, joinS sum (x, false) v.2)) := by
  rw [both, if_neg (by omega), if_pos hm]; rfl
theorem both_gt (old x : B) (r : List B) {m n : Nat} (hn : m < n) (hm : lft n < m) (w : Bool) : both sum old (x :: r) m n w = (both sum old r (m - lft n) (n - lft n) false).map (fun v => (joinS sum (x, true) v.1, joinS sum (x, true) v.2)) := by
  rw [both, if_neg (by omega), if_neg (by omega)]; rfl
theorem both_out (old : B) {m n : Nat} (hn : m < n) (w : Bool) : both sum old [] m n w = none := by rw [both, if_neg (by omega)]
theorem both_true (old : B) {m n : Nat} (hn : n ≤ m) : ∀ r : List B, both sum old r m n true = if r = [] then some (old, old) else none
  | [] => by rw [both, if_pos hn, if_pos rfl, if_pos rfl]
  | x :: r => by rw [both, if_pos hn, if_pos rfl, if_neg (by simp)]
theorem both_one (old x : B) {m n : Nat} (hn : n ≤ m) : both sum old [x] m n false = some (x, x) := by rw [both, if_pos hn]; rfl
theorem both_odd (old : B) {m n : Nat} (hn : n ≤ m) : ∀ r : List B, r.length ≠ 1 → both sum old r m n false = none
  | [], _ => by rw [both, if_pos hn]; rfl
  | [x], h => by simp at h
  | x :: y :: r, _ => by rw [both, if_pos hn]; rfl
/-- What VerifyExtension answers, its digests given. -/
def verX (old : ByteArray) (m : Nat) (root : ByteArray) (n : Nat) (p : List ByteArray) : Bool :=
  if m = 0 then decide (p.length = 0) && decide (old.toList = (sum .empty).toList) else if m = n then decide (p.length = 0) && decide (old.toList = root.toList) else decide (both sum old p.reverse m n true = some (old, root))
theorem verX_none {old root : ByteArray} {m n : Nat} {p : List ByteArray} (h0 : m ≠ 0) (hn : m ≠ n) (h : both sum old p.reverse m n true = none) : verX old m root n p = false := by
  rw [verX, if_neg h0, if_neg hn, h]; rfl
theorem verX_some {old root f s : ByteArray} {m n : Nat} {p : List ByteArray} (h0 : m ≠ 0) (hn : m ≠ n) (h : both sum old p.reverse m n true = some (f, s)) : verX old m root n p = (decide (f.toList = old.toList) && decide (s.toList = root.toList)) := by
  rw [verX, if_neg h0, if_neg hn, h, ← Bool.decide_and]
  apply decide_eq_decide.2
  rw [toList_inj, toList_inj]
  simp
end Go.Proofs.YtnadipjlhlbfoaaGreatDoor
namespace Go.Proofs.YtnadipjlhlbfoaaGreatDoor
set_option linter.all false
open Go Go.RowKit
set_option maxRecDepth 100000
theorem ent_45 : ∀ args w, (callFunc 45 args).run Tryz.prog w = .ok (.enter 45 args) w := enters_of Tryz.func45 (by kernel_rfl) rfl
theorem ent_47 : ∀ args w, (callFunc 47 args).run Tryz.prog w = .ok (.enter 47 args) w := enters_of Tryz.func47 (by kernel_rfl) rfl
theorem slb_80 : SlB Tryz.prog 80 85 2 24 (.agg (#[.string .empty, .bool false])) := ⟨Tryz.underlying80, ⟨(Tryz.prog.info? 85).get!, by kernel_rfl, by kernel_rfl, by kernel_rfl, by kernel_rfl⟩, by decide, by decide⟩
theorem ent_49 : ∀ args w, (callFunc 49 args).run Tryz.prog w = .ok (.enter 49 args) w := enters_of Tryz.func49 (by kernel_rfl) rfl
theorem ent_77 : ∀ args w, (callFunc 77 args).run Tryz.prog w = .ok (.enter 77 args) w := enters_of Tryz.func77 (by kernel_rfl) rfl
theorem zero_85 : Zero Tryz.prog 85 (.agg (#[.string .empty, .bool false])) := ⟨(Tryz.prog.info? 85).get!, by kernel_rfl, by kernel_rfl⟩
theorem szt_85 : SzT Tryz.prog 85 2 := ⟨(Tryz.prog.info? 85).get!, by kernel_rfl, by kernel_rfl⟩
theorem ent_50 : ∀ args w, (callFunc 50 args).run Tryz.prog w = .ok (.enter 50 args) w := enters_of Tryz.func50 (by kernel_rfl) rfl
theorem way_snoc {way : List (ByteArray × Bool)} {x : ByteArray} {b : Bool} (h : ∀ x ∈ way, x.1.size = 32) (hx : x.size = 32) : ∀ y ∈ way ++ [(x, b)], y.1.size = 32 := by
  intro y hy
  rcases List.mem_append.1 hy with hy | hy
  · exact h y hy
  · simp at hy; rw [hy]; exact hx
set_option maxRecDepth 100000 in
theorem w_verify {w : World} {A : Option Addr} {cap : Nat} (root : ByteArray) (n i : Nat) (s : ByteArray) (p : List ByteArray) (hG : Rounds w) (hr : Rd w A 1 (p.map strC)) (hcap : p.length ≤ cap) (hl : p.length ≤ 1099511627776) (hs : s.size ≤ 4294967296) (hn : n ≤ 9223372036854775807) (hi : i < n) :
    Calls Tryz.prog 39 #[.string root, .int .i64 ((n : Nat) : Int), .int .i64 ((i : Nat) : Int), .string s, .slice A p.length cap] w (fun e w' => e = .returned (.bool (verN root n i s p)) ∧ SL w [] w' []) := by
 refine calls_of_CXM (O := []) (L := []) (args := [.string root, .int .i64 ((n : Nat) : Int), .int .i64 ((i : Nat) : Int), .string s, .slice A p.length cap]) Tryz.func39 rfl (by simp [Tryz.ntmps39]) (SL.refl w) ?_
 refine CX.sub (V' := [(0, .string root), (1, .int .i64 ((n : Nat) : Int)), (2, .int .i64 ((i : Nat) : Int)), (3, .string s), (4, .slice A p.length cap)]) ⟨rfl, rfl, rfl, rfl, rfl, trivial⟩ ?_
 refine CX.seq ?_
 refine CX.region ?_
 refine RX.cons rfl rfl (op_w (yw_assign rfl rfl) rfl rfl ?_)
 refine RX.nil (XX.next (V' := [(0, _), (1, _), (2, _), (3, _), (4, _), (10, .bool false)]) ⟨rfl, rfl, rfl, rfl, rfl, rfl, trivial⟩ ?_)
 refine CX.seq ?_
 refine CX.seq ?_
 refine CX.region ?_
 refine RX.cons rfl rfl (op_w (yw_move rfl rfl) rfl rfl ?_)
 refine RX.cons rfl rfl (op_w (yw_lss rfl rfl rfl) rfl rfl ?_)
 refine RX.cons rfl rfl (op_w (yw_move rfl rfl) rfl rfl ?_)
 refine RX.splitD (t := 21) (p := ((i : Nat) : Int) < 0) rfl (fun d21 => ?_) (fun d21 => ?_)
 ·exfalso; omega
 ·refine RX.consG rfl rfl rfl rfl rfl (op_w (yw_move rfl rfl) rfl rfl ?_)
  refine RX.consG rfl rfl rfl rfl rfl (op_w (yw_move rfl rfl) rfl rfl ?_)
  refine RX.consG rfl rfl rfl rfl rfl (op_w (yw_geq rfl rfl rfl) rfl rfl ?_)
  refine RX.cons rfl rfl (op_w (yw_pickF rfl rfl rfl) rfl rfl ?_)
  refine RX.cons rfl rfl (op_w (yw_move rfl rfl) rfl rfl ?_)
  refine RX.splitD (t := 26) (p := ((n : Nat) : Int) ≤ ((i : Nat) : Int)) rfl (fun d26 => ?_) (fun d26 => ?_)
  ·exfalso; omega
  ·refine RX.consG rfl rfl rfl rfl rfl (op_w (yw_move rfl rfl) rfl rfl ?_)
   refine RX.consG rfl rfl rfl rfl rfl (op_callV (v := .bool (decide (∀ x ∈ p, ByteArray.size x = 32))) rfl rfl rfl rfl rfl ent_45 (fun w hw => w_all p (hw.rd hr (by simp)) (by omega)) ?_)
   refine RX.consG rfl rfl rfl rfl rfl (op_w (yw_notD rfl rfl) rfl rfl ?_)
   refine RX.cons rfl rfl (op_w (yw_pickF rfl rfl rfl) rfl rfl ?_)
   refine RX.nil (XX.next (V' := [(0, _), (1, _), (2, _), (3, _), (4, _), (10, .bool false), (19, _), (20, _), (21, _), (22, _), (23, _), (24, _), (25, _), (26, _), (27, _), (28, _), (29, _), (30, _)]) ⟨rfl, rfl, rfl, rfl, rfl, rfl, rfl, rfl, rfl, rfl, rfl, rfl, rfl, rfl, rfl, rfl, rfl, rfl, trivial⟩ ?_)
   refine CX.condD (p := ¬ (∀ x ∈ p, ByteArray.size x = 32)) rfl (fun c30 => ?_) (fun c30 => ?_)
   ·refine CX.seq ?_
    refine CX.region ?_
    refine RX.cons rfl rfl (op_w (yw_assign rfl rfl) rfl rfl ?_)
    refine RX.nil (XX.next (V' := [(10, .bool false)]) ⟨rfl, trivial⟩ ?_)
    refine CX.ret ?_
    refine XX.then_ret ?_
    exact ret_tmpM0 rfl rfl fun w1 hw => ⟨by rw [verN_odd c30], hw.sub (List.nil_sublist _)⟩
   ·have hall : ∀ x ∈ p, x.size = 32 := Decidable.not_not.1 c30
    refine CX.skip (XX.next (V' := [(0, _), (1, _), (2, _), (3, _), (4, _), (10, .bool false), (19, _), (20, _), (21, _), (22, _), (23, _), (24, _), (25, _), (26, _), (27, _), (28, _), (29, _), (30, _)]) ⟨rfl, rfl, rfl, rfl, rfl, rfl, rfl, rfl, rfl, rfl, rfl, rfl, rfl, rfl, rfl, rfl, rfl, rfl, trivial⟩ ?_)
    refine CX.seq ?_
    refine CX.region ?_
    refine RX.cons rfl rfl (op_w (yw_assign rfl rfl) rfl rfl ?_)
    refine RX.nil (XX.next (V' := [(0, _), (1, _), (2, _), (3, _), (4, _), (10, .bool false), (11, _), (19, _), (20, _), (21, _), (22, _), (23, _), (24, _), (25, _), (26, _), (27, _), (28, _), (29, _), (30, _)]) ⟨rfl, rfl, rfl, rfl, rfl, rfl, rfl, rfl, rfl, rfl, rfl, rfl, rfl, rfl, rfl, rfl, rfl, rfl, rfl, trivial⟩ ?_)
    refine CX.seq ?_
    refine CX.block ?_
    refine CX.rowNil 85 2 ?_
    refine CX.loop (σ := (List ByteArray × Nat × Nat) × (Option Addr × Nat) × List (ByteArray × Bool)) (fun z => [(0, .string root), (1, .int .i64 ((z.1.2.1 : Nat) : Int)), (2, .int .i64 ((z.1.2.2 : Nat) : Int)), (3, .string s), (4, .slice A z.1.1.length cap), (10, .bool false), (11, .slice z.2.1.1 (List.length (z.2.2 : List (ByteArray × Bool))) z.2.1.2), (19, .int .i64 ((i : Nat) : Int)), (20, .bool (decide (((i : Nat) : Int) < 0))), (21, .bool false), (22, .int .i64 ((i : Nat) : Int)), (23, .int .i64 ((n : Nat) : Int)), (24, .bool (decide (((n : Nat) : Int) ≤ ((i : Nat) : Int)))), (25, .bool (decide (((n : Nat) : Int) ≤ ((i : Nat) : Int)))), (26, .bool false), (27, .slice A p.length cap), (28, .bool (decide (∀ x ∈ p, ByteArray.size x = 32))), (29, .bool (decide (¬ (∀ x ∈ p, ByteArray.size x = 32)))), (30, .bool (decide (¬ (∀ x ∈ p, ByteArray.size x = 32))))]) (fun z => [.row z.2.1.1 z.2.1.2 85 2 (List.map sideC z.2.2)]) (fun z => Rd w A 1 (z.1.1.map strC) ∧ z.1.1.length ≤ cap ∧ z.1.1.length + z.2.2.length = p.length ∧ z.1.2.2 < z.1.2.1 ∧ z.1.2.1 ≤ n ∧ (∀ x ∈ z.1.1, x.size = 32) ∧ (∀ x ∈ z.2.2, x.1.size = 32) ∧ value sum s p.reverse n i = (value sum s z.1.1.reverse z.1.2.1 z.1.2.2).map (fun v => z.2.2.foldr (fun x out => joinS sum x out) v)) (fun z => z.1.2.1) ((p, n, i), (none, 0), []) ⟨hr, hcap, by simp, hi, Nat.le_refl _, hall, by simp, by simp⟩ ⟨rfl, rfl, rfl, rfl, rfl, rfl, rfl, rfl, rfl, rfl, rfl, rfl, rfl, rfl, rfl, rfl, rfl, rfl, rfl, trivial⟩ rfl (fun z hI => ?_)
    obtain ⟨⟨ps, k, j⟩, ⟨B1, d1⟩, way⟩ := z
    dsimp only at hI ⊢
    obtain ⟨hR, hpc, hpw, hj, hkn, hps2, hway, hval⟩ := hI
    refine CX.seq ?_
    refine CX.seq ?_
    refine CX.region ?_
    refine RX.cons rfl rfl (op_w (yw_move rfl rfl) rfl rfl ?_)
    refine RX.cons rfl rfl (op_w (yw_gtr rfl rfl rfl) rfl rfl ?_)
    refine RX.nil (XX.next (V' := [(0, _), (1, _), (2, _), (3, _), (4, _), (10, .bool false), (11, _), (19, _), (20, _), (21, _), (22, _), (23, _), (24, _), (25, _), (26, _), (27, _), (28, _), (29, _), (30, _), (31, _), (32, _)]) ⟨rfl, rfl, rfl, rfl, rfl, rfl, rfl, rfl, rfl, rfl, rfl, rfl, rfl, rfl, rfl, rfl, rfl, rfl, rfl, rfl, rfl, trivial⟩ ?_)
    refine CX.condD (p := 1 < ((k : Nat) : Int)) rfl (fun c32 => ?_) (fun c32 => ?_)
    ·refine CX.skip (XX.next (V' := [(0, _), (1, _), (2, _), (3, _), (4, _), (10, .bool false), (11, _), (19, _), (20, _), (21, _), (22, _), (23, _), (24, _), (25, _), (26, _), (27, _), (28, _), (29, _), (30, _)]) ⟨rfl, rfl, rfl, rfl, rfl, rfl, rfl, rfl, rfl, rfl, rfl, rfl, rfl, rfl, rfl, rfl, rfl, rfl, rfl, trivial⟩ ?_)
     refine CX.block ?_
     refine CX.seq ?_
     rcases nil_or ps with hps | ⟨x0, hx0, hpl⟩
     ·refine CX.region ?_
      refine RX.cons rfl rfl (op_w (yw_move rfl rfl) rfl rfl ?_)
      refine RX.know (t := 34) (u := .slice A 0 cap) rfl (congrArg (fun n => Value.slice A n cap) (by rw [hps]; rfl)) ?_
      refine RX.cons rfl rfl (op_callV (v := .tuple #[.string .empty, .slice none 0 0, .bool false]) rfl rfl rfl rfl rfl ent_47 (fun w hw => w_take0) ?_)
      refine RX.cons rfl rfl (op_w (yw_move rfl rfl) rfl rfl ?_)
      refine RX.cons rfl rfl (op_w (yw_extract rfl rfl rfl) rfl rfl ?_)
      refine RX.cons rfl rfl (op_w (yw_extract rfl rfl rfl) rfl rfl ?_)
      refine RX.cons rfl rfl (op_w (yw_extract rfl rfl rfl) rfl rfl ?_)
      refine RX.cons rfl rfl (op_w (yw_assign rfl rfl) rfl rfl ?_)
      refine RX.cons rfl rfl (op_w (yw_assign rfl rfl) rfl rfl ?_)
      refine RX.cons rfl rfl (op_w (yw_assign rfl rfl) rfl rfl ?_)
      refine RX.nil (XX.next (V' := [(0, _), (1, _), (2, _), (3, _), (10, .bool false), (11, _), (12, _), (13, _), (14, _), (19, _), (20, _), (21, _), (22, _), (23, _), (24, _), (25, _), (26, _), (27, _), (28, _), (29, _), (30, _), (33, _), (34, _), (35, _), (36, _), (37, _), (38, _)]) ⟨rfl, rfl, rfl, rfl, rfl, rfl, rfl, rfl, rfl, rfl, rfl, rfl, rfl, rfl, rfl, rfl, rfl, rfl, rfl, rfl, rfl, rfl, rfl, rfl, rfl, rfl, rfl, trivial⟩ ?_)
      refine CX.seq ?_
      refine CX.seq ?_
      refine CX.region ?_
      refine RX.cons rfl rfl (op_w (yw_move rfl rfl) rfl rfl ?_)
      refine RX.cons rfl rfl (op_w (yw_not rfl rfl) rfl rfl ?_)
      refine RX.nil (XX.next (V' := [(0, _), (1, _), (2, _), (3, _), (10, .bool false), (11, _), (12, _), (13, _), (14, _), (19, _), (20, _), (21, _), (22, _), (23, _), (24, _), (25, _), (26, _), (27, _), (28, _), (29, _), (30, _), (33, _), (34, _), (35, _), (36, _), (37, _), (38, _), (39, _), (40, _)]) ⟨rfl, rfl, rfl, rfl, rfl, rfl, rfl, rfl, rfl, rfl, rfl, rfl, rfl, rfl, rfl, rfl, rfl, rfl, rfl, rfl, rfl, rfl, rfl, rfl, rfl, rfl, rfl, rfl, rfl, trivial⟩ ?_)
      refine CX.condT rfl ?_
      refine CX.seq ?_
      refine CX.region ?_
      refine RX.cons rfl rfl (op_w (yw_assign rfl rfl) rfl rfl ?_)
      refine RX.nil (XX.next (V' := [(10, .bool false)]) ⟨rfl, trivial⟩ ?_)
      refine CX.ret ?_
      refine XX.then_ret ?_
      refine XX.block_ret ?_
      refine XX.then_ret ?_
      refine XX.block_ret ?_
      refine XX.then_ret ?_
      exact ret_tmpM0 rfl rfl fun w1 hw => ⟨by rw [verN_none (by rw [hval, hps, List.reverse_nil, value_out sum s (by omega)]; rfl)], hw.sub (List.nil_sublist _)⟩
     ·refine CX.region ?_
      refine RX.cons rfl rfl (op_w (yw_move rfl rfl) rfl rfl ?_)
      refine RX.cons rfl rfl (op_callV (v := .tuple #[.string x0, .slice A (List.length ps - 1) cap, .bool true]) rfl rfl rfl rfl rfl ent_47 (fun w hw => w_take ps (hw.rd hR (by simp)) x0 hx0 hpl hpc (by omega)) ?_)
      refine RX.cons rfl rfl (op_w (yw_move rfl rfl) rfl rfl ?_)
      refine RX.cons rfl rfl (op_w (yw_extract rfl rfl rfl) rfl rfl ?_)
      refine RX.cons rfl rfl (op_w (yw_extract rfl rfl rfl) rfl rfl ?_)
      refine RX.know (t := 37) (u := .slice A ((List.take (ps.length - 1) ps).length) cap) rfl (congrArg (fun n => Value.slice A n cap) (by simp)) ?_
      refine RX.cons rfl rfl (op_w (yw_extract rfl rfl rfl) rfl rfl ?_)
      refine RX.cons rfl rfl (op_w (yw_assign rfl rfl) rfl rfl ?_)
      refine RX.cons rfl rfl (op_w (yw_assign rfl rfl) rfl rfl ?_)
      refine RX.cons rfl rfl (op_w (yw_assign rfl rfl) rfl rfl ?_)
      refine RX.nil (XX.next (V' := [(0, _), (1, _), (2, _), (3, _), (10, .bool false), (11, _), (12, _), (13, _), (14, _), (19, _), (20, _), (21, _), (22, _), (23, _), (24, _), (25, _), (26, _), (27, _), (28, _), (29, _), (30, _), (33, _), (34, _), (35, _), (36, _), (37, _), (38, _)]) ⟨rfl, rfl, rfl, rfl, rfl, rfl, rfl, rfl, rfl, rfl, rfl, rfl, rfl, rfl, rfl, rfl, rfl, rfl, rfl, rfl, rfl, rfl, rfl, rfl, rfl, rfl, rfl, trivial⟩ ?_)
      refine CX.seq ?_
      refine CX.seq ?_
      refine CX.region ?_
      refine RX.cons rfl rfl (op_w (yw_move rfl rfl) rfl rfl ?_)
      refine RX.cons rfl rfl (op_w (yw_not rfl rfl) rfl rfl ?_)
      refine RX.nil (XX.next (V' := [(0, _), (1, _), (2, _), (3, _), (10, .bool false), (11, _), (12, _), (13, _), (14, _), (19, _), (20, _), (21, _), (22, _), (23, _), (24, _), (25, _), (26, _), (27, _), (28, _), (29, _), (30, _), (33, _), (34, _), (35, _), (36, _), (37, _), (38, _), (39, _), (40, _)]) ⟨rfl, rfl, rfl, rfl, rfl, rfl, rfl, rfl, rfl, rfl, rfl, rfl, rfl, rfl, rfl, rfl, rfl, rfl, rfl, rfl, rfl, rfl, rfl, rfl, rfl, rfl, rfl, rfl, rfl, trivial⟩ ?_)
      refine CX.condF rfl ?_
      refine CX.skip (XX.next (V' := [(0, _), (1, _), (2, _), (3, _), (10, .bool false), (11, _), (12, _), (13, _), (14, _), (19, _), (20, _), (21, _), (22, _), (23, _), (24, _), (25, _), (26, _), (27, _), (28, _), (29, _), (30, _), (33, _), (34, _), (35, _), (36, _), (37, _), (38, _), (39, _), (40, _)]) ⟨rfl, rfl, rfl, rfl, rfl, rfl, rfl, rfl, rfl, rfl, rfl, rfl, rfl, rfl, rfl, rfl, rfl, rfl, rfl, rfl, rfl, rfl, rfl, rfl, rfl, rfl, rfl, rfl, rfl, trivial⟩ ?_)
      refine CX.seq ?_
      have hps' := last_split hx0
      have hrev : ps.reverse = x0 :: (List.take (ps.length - 1) ps).reverse := by rw [congrArg List.reverse hps', List.reverse_append]; rfl
      have hx32 : x0.size = 32 := hps2 x0 (List.mem_of_getElem? hx0)
      have hq1 := lft_pos k
      have hq2 := lft_lt (n := k) (by omega)
      refine CX.region ?_
      refine RX.cons rfl rfl (op_w (yw_move rfl rfl) rfl rfl ?_)
      refine RX.cons rfl rfl (op_w (yw_assign rfl rfl) rfl rfl ?_)
      refine RX.nil (XX.next (V' := [(0, _), (1, _), (2, _), (3, _), (4, _), (10, .bool false), (11, _), (12, _), (13, _), (14, _), (19, _), (20, _), (21, _), (22, _), (23, _), (24, _), (25, _), (26, _), (27, _), (28, _), (29, _), (30, _), (33, _), (34, _), (35, _), (36, _), (37, _), (38, _), (39, _), (40, _), (41, _)]) ⟨rfl, rfl, rfl, rfl, rfl, rfl, rfl, rfl, rfl, rfl, rfl, rfl, rfl, rfl, rfl, rfl, rfl, rfl, rfl, rfl, rfl, rfl, rfl, rfl, rfl, rfl, rfl, rfl, rfl, rfl, rfl, trivial⟩ ?_)
      refine CX.seq ?_
      refine CX.region ?_
      refine RX.cons rfl rfl (op_w (yw_move rfl rfl) rfl rfl ?_)
      refine RX.cons rfl rfl (op_callV (v := .int .i64 ((lft k : Nat) : Int)) rfl rfl rfl rfl rfl ent_48 (fun w hw => w_left k (by omega) (by omega)) ?_)
      refine RX.cons rfl rfl (op_w (yw_assign rfl rfl) rfl rfl ?_)
      refine RX.nil (XX.next (V' := [(0, _), (1, _), (2, _), (3, _), (4, _), (10, .bool false), (11, _), (12, _), (13, _), (14, _), (15, _), (19, _), (20, _), (21, _), (22, _), (23, _), (24, _), (25, _), (26, _), (27, _), (28, _), (29, _), (30, _), (33, _), (34, _), (35, _), (36, _), (37, _), (38, _), (39, _), (40, _), (41, _), (42, _), (43, _)]) ⟨rfl, rfl, rfl, rfl, rfl, rfl, rfl, rfl, rfl, rfl, rfl, rfl, rfl, rfl, rfl, rfl, rfl, rfl, rfl, rfl, rfl, rfl, rfl, rfl, rfl, rfl, rfl, rfl, rfl, rfl, rfl, rfl, rfl, rfl, trivial⟩ ?_)
      refine CX.seq ?_
      refine CX.region ?_
      refine RX.cons rfl rfl (op_w (yw_move rfl rfl) rfl rfl ?_)
      refine RX.cons rfl rfl (op_w (yw_move rfl rfl) rfl rfl ?_)
      refine RX.cons rfl rfl (op_w (yw_move rfl rfl) rfl rfl ?_)
      refine RX.cons rfl rfl (op_w (yw_move rfl rfl) rfl rfl ?_)
      refine RX.cons rfl rfl (op_w (yw_geq rfl rfl rfl) rfl rfl ?_)
      refine RX.cons rfl rfl (op_w (yw_build (v := .agg (#[.string x0, .bool (decide (((lft k : Nat) : Int) ≤ ((j : Nat) : Int)))])) rfl rfl (fun _ => by kernel_rfl)) rfl rfl ?_)
      refine RX.cons rfl rfl (op_buildSlice rfl rfl rfl slb_80 rfl rfl (by intro v hv; simp only [List.mem_cons, List.not_mem_nil, or_false] at hv; subst hv; exact ⟨rfl, (plain_of rfl)⟩) (by decide) fun g1 => ?_)
      refine RX.cons rfl rfl (op_appendM sideC (i := 1) (j := 0) (xs := way) ([(x0, decide (((lft k : Nat) : Int) ≤ ((j : Nat) : Int)))]) rfl rfl rfl slb_80 rfl rfl rfl rfl rfl rfl (by simp only [List.length_singleton]; omega) (by simp only [List.length_singleton]; omega) fun B2 d2 => ?_)
      refine RX.cons rfl rfl (op_w (yw_assign rfl rfl) rfl rfl ?_)
      refine RX.nil (XX.next (V' := [(0, _), (1, _), (2, _), (3, _), (4, _), (10, .bool false), (11, _), (12, _), (13, _), (14, _), (15, _), (19, _), (20, _), (21, _), (22, _), (23, _), (24, _), (25, _), (26, _), (27, _), (28, _), (29, _), (30, _), (33, _), (34, _), (35, _), (36, _), (37, _), (38, _), (39, _), (40, _), (41, _), (42, _), (43, _), (44, _), (45, _), (46, _), (47, _), (48, _), (49, _), (50, _), (51, _)]) ⟨rfl, rfl, rfl, rfl, rfl, rfl, rfl, rfl, rfl, rfl, rfl, rfl, rfl, rfl, rfl, rfl, rfl, rfl, rfl, rfl, rfl, rfl, rfl, rfl, rfl, rfl, rfl, rfl, rfl, rfl, rfl, rfl, rfl, rfl, rfl, rfl, rfl, rfl, rfl, rfl, rfl, rfl, trivial⟩ ?_)
      refine CX.seq ?_
      refine CX.region ?_
      refine RX.cons rfl rfl (op_w (yw_move rfl rfl) rfl rfl ?_)
      refine RX.cons rfl rfl (op_w (yw_move rfl rfl) rfl rfl ?_)
      refine RX.cons rfl rfl (op_w (yw_geq rfl rfl rfl) rfl rfl ?_)
      refine RX.nil (XX.next (V' := [(0, _), (1, _), (2, _), (3, _), (4, _), (10, .bool false), (11, _), (12, _), (13, _), (14, _), (15, _), (19, _), (20, _), (21, _), (22, _), (23, _), (24, _), (25, _), (26, _), (27, _), (28, _), (29, _), (30, _), (33, _), (34, _), (35, _), (36, _), (37, _), (38, _), (39, _), (40, _), (41, _), (42, _), (43, _), (44, _), (45, _), (46, _), (47, _), (48, _), (49, _), (50, _), (51, _), (52, _), (53, _), (54, _)]) ⟨rfl, rfl, rfl, rfl, rfl, rfl, rfl, rfl, rfl, rfl, rfl, rfl, rfl, rfl, rfl, rfl, rfl, rfl, rfl, rfl, rfl, rfl, rfl, rfl, rfl, rfl, rfl, rfl, rfl, rfl, rfl, rfl, rfl, rfl, rfl, rfl, rfl, rfl, rfl, rfl, rfl, rfl, rfl, rfl, rfl, trivial⟩ ?_)
      refine CX.condD (p := ((lft k : Nat) : Int) ≤ ((j : Nat) : Int)) rfl (fun c54 => ?_) (fun c54 => ?_)
      ·refine CX.region ?_
       refine RX.cons rfl rfl (op_w (yw_move rfl rfl) rfl rfl ?_)
       refine RX.cons rfl rfl (op_w (yw_move rfl rfl) rfl rfl ?_)
       refine RX.cons rfl rfl (op_w (yw_sub rfl rfl rfl (by omega) (by omega)) rfl rfl ?_)
       refine RX.know (t := 57) (u := .int .i64 ((k - lft k : Nat) : Int)) rfl (congrArg (Value.int .i64) (by omega)) ?_
       refine RX.cons rfl rfl (op_w (yw_move rfl rfl) rfl rfl ?_)
       refine RX.cons rfl rfl (op_w (yw_move rfl rfl) rfl rfl ?_)
       refine RX.cons rfl rfl (op_w (yw_sub rfl rfl rfl (by omega) (by omega)) rfl rfl ?_)
       refine RX.know (t := 60) (u := .int .i64 ((j - lft k : Nat) : Int)) rfl (congrArg (Value.int .i64) (by omega)) ?_
       refine RX.cons rfl rfl (op_w (yw_assign rfl rfl) rfl rfl ?_)
       refine RX.cons rfl rfl (op_w (yw_assign rfl rfl) rfl rfl ?_)
       refine RX.nil (XX.inBlock (V' := [(0, _), (1, _), (2, _), (3, _), (4, _), (10, .bool false), (11, _), (12, _), (13, _), (14, _), (15, _), (19, _), (20, _), (21, _), (22, _), (23, _), (24, _), (25, _), (26, _), (27, _), (28, _), (29, _), (30, _), (33, _), (34, _), (35, _), (36, _), (37, _), (38, _), (39, _), (40, _), (41, _), (42, _), (43, _), (44, _), (45, _), (46, _), (47, _), (48, _), (49, _), (50, _), (51, _), (52, _), (53, _), (54, _), (55, _), (56, _), (57, _), (58, _), (59, _), (60, _)]) ⟨rfl, rfl, rfl, rfl, rfl, rfl, rfl, rfl, rfl, rfl, rfl, rfl, rfl, rfl, rfl, rfl, rfl, rfl, rfl, rfl, rfl, rfl, rfl, rfl, rfl, rfl, rfl, rfl, rfl, rfl, rfl, rfl, rfl, rfl, rfl, rfl, rfl, rfl, rfl, rfl, rfl, rfl, rfl, rfl, rfl, rfl, rfl, rfl, rfl, rfl, rfl, trivial⟩ ?_)
       refine XX.againP ([.row (some ⟨g1, 0, none⟩) 1 85 2 (List.map sideC ([(x0, decide (((lft k : Nat) : Int) ≤ ((j : Nat) : Int)))]))]) ((List.take (ps.length - 1) ps, k - lft k, j - lft k), (B2, d2), way ++ [(x0, decide (((lft k : Nat) : Int) ≤ ((j : Nat) : Int)))]) (by dsimp only; omega) ⟨hR.takeM _, by simp; omega, by simp; omega, by dsimp only; omega, by dsimp only; omega, fun x hx => hps2 x (List.mem_of_mem_take hx), way_snoc hway hx32, by dsimp only; rw [hval, hrev, value_ge sum s x0 _ (by omega) (by omega), Option.map_map, decide_eq_true c54]; simp only [List.foldr_append, List.foldr_cons, List.foldr_nil]; rfl⟩ ⟨rfl, rfl, rfl, rfl, rfl, rfl, rfl, rfl, rfl, rfl, rfl, rfl, rfl, rfl, rfl, rfl, rfl, rfl, rfl, trivial⟩ ((perm_pick 1 rfl).trans (List.Perm.cons _ (List.Perm.refl _)))
      ·refine CX.region ?_
       refine RX.cons rfl rfl (op_w (yw_move rfl rfl) rfl rfl ?_)
       refine RX.cons rfl rfl (op_w (yw_assign rfl rfl) rfl rfl ?_)
       refine RX.nil (XX.inBlock (V' := [(0, _), (1, _), (2, _), (3, _), (4, _), (10, .bool false), (11, _), (12, _), (13, _), (14, _), (15, _), (19, _), (20, _), (21, _), (22, _), (23, _), (24, _), (25, _), (26, _), (27, _), (28, _), (29, _), (30, _), (33, _), (34, _), (35, _), (36, _), (37, _), (38, _), (39, _), (40, _), (41, _), (42, _), (43, _), (44, _), (45, _), (46, _), (47, _), (48, _), (49, _), (50, _), (51, _), (52, _), (53, _), (54, _), (61, _)]) ⟨rfl, rfl, rfl, rfl, rfl, rfl, rfl, rfl, rfl, rfl, rfl, rfl, rfl, rfl, rfl, rfl, rfl, rfl, rfl, rfl, rfl, rfl, rfl, rfl, rfl, rfl, rfl, rfl, rfl, rfl, rfl, rfl, rfl, rfl, rfl, rfl, rfl, rfl, rfl, rfl, rfl, rfl, rfl, rfl, rfl, rfl, trivial⟩ ?_)
       refine XX.againP ([.row (some ⟨g1, 0, none⟩) 1 85 2 (List.map sideC ([(x0, decide (((lft k : Nat) : Int) ≤ ((j : Nat) : Int)))]))]) ((List.take (ps.length - 1) ps, lft k, j), (B2, d2), way ++ [(x0, decide (((lft k : Nat) : Int) ≤ ((j : Nat) : Int)))]) (by dsimp only; omega) ⟨hR.takeM _, by simp; omega, by simp; omega, by dsimp only; omega, by dsimp only; omega, fun x hx => hps2 x (List.mem_of_mem_take hx), way_snoc hway hx32, by dsimp only; rw [hval, hrev, value_lt sum s x0 _ (by omega) (by omega), Option.map_map, decide_eq_false c54]; simp only [List.foldr_append, List.foldr_cons, List.foldr_nil]; rfl⟩ ⟨rfl, rfl, rfl, rfl, rfl, rfl, rfl, rfl, rfl, rfl, rfl, rfl, rfl, rfl, rfl, rfl, rfl, rfl, rfl, trivial⟩ ((perm_pick 1 rfl).trans (List.Perm.cons _ (List.Perm.refl _)))
    ·refine CX.exit ?_
     refine XX.then_exit ?_
     refine XX.then_exit ?_
     refine XX.block_exit ?_
     refine XX.next (V' := [(0, _), (1, _), (2, _), (3, _), (4, _), (10, .bool false), (11, _), (19, _), (20, _), (21, _), (22, _), (23, _), (24, _), (25, _), (26, _), (27, _), (28, _), (29, _), (30, _), (31, _), (32, _)]) ⟨rfl, rfl, rfl, rfl, rfl, rfl, rfl, rfl, rfl, rfl, rfl, rfl, rfl, rfl, rfl, rfl, rfl, rfl, rfl, rfl, rfl, trivial⟩ ?_
     refine CX.seq ?_
     have hve := value_end sum s (n := k) (i := j) (by omega) ps.reverse
     refine CX.region ?_
     refine RX.cons rfl rfl (op_w (yw_move rfl rfl) rfl rfl ?_)
     refine RX.cons rfl rfl (op_callV (v := .string (leafH sum s)) rfl rfl rfl rfl rfl ent_41 (fun w hw => w_leaf s (hG.keep hw (by simp)) (by omega)) ?_)
     refine RX.cons rfl rfl (op_alloc rfl rfl rfl zero_9 fun go => ?_)
     refine RX.cons rfl rfl (op_storeAll (i := 0) rfl rfl rfl rfl szt_9 rfl (plain_of rfl) rfl rfl ?_)
     refine RX.nil (XX.next (V' := [(0, _), (1, _), (2, _), (3, _), (4, _), (10, .bool false), (11, _), (16, _), (19, _), (20, _), (21, _), (22, _), (23, _), (24, _), (25, _), (26, _), (27, _), (28, _), (29, _), (30, _), (31, _), (32, _), (62, _), (63, _)]) ⟨rfl, rfl, rfl, rfl, rfl, rfl, rfl, rfl, rfl, rfl, rfl, rfl, rfl, rfl, rfl, rfl, rfl, rfl, rfl, rfl, rfl, rfl, rfl, rfl, trivial⟩ ?_)
     refine CX.seq ?_
     refine CX.seq ?_
     refine CX.region ?_
     refine RX.cons rfl rfl (op_w (yw_move rfl rfl) rfl rfl ?_)
     refine RX.cons rfl rfl (op_callE rfl rfl rfl rfl rfl ent_49 (fun w _ => w_backD B1 (List.length (way : List (ByteArray × Bool))) d1) (fun zbbackD _ => ?_))
     refine RX.nil (XX.next (V' := [(0, _), (1, _), (2, _), (3, _), (4, _), (10, .bool false), (11, _), (16, _), (19, _), (20, _), (21, _), (22, _), (23, _), (24, _), (25, _), (26, _), (27, _), (28, _), (29, _), (30, _), (31, _), (32, _), (62, _), (63, _), (64, _), (65, _)]) ⟨rfl, rfl, rfl, rfl, rfl, rfl, rfl, rfl, rfl, rfl, rfl, rfl, rfl, rfl, rfl, rfl, rfl, rfl, rfl, rfl, rfl, rfl, rfl, rfl, rfl, rfl, trivial⟩ ?_)
     refine CX.block ?_
     refine CX.rangeFunc (σ := D32) (LL := fun h => [.blk go (.cells (#[.string (Subtype.val h)]) 9 (0, 0))]) (post := fun h => h = (List.foldr (fun a s => stepJ s a) (⟨leafH sum s, sum_size _⟩ : D32) way)) [.blk go (.cells (#[.string (Subtype.val (⟨leafH sum s, sum_size _⟩ : D32))]) 9 (0, 0))] [.blk zbbackD (.cells (#[.slice B1 (List.length (way : List (ByteArray × Bool))) d1]) 80 (0, 0)), .row B1 d1 85 2 (List.map sideC way)] ((perm_pick 1 rfl).trans (List.Perm.cons _ (List.Perm.refl _))) rfl ent_77 ?_ ?_
     ·intro l Dk fn a w1 ha hw hs
      have hM : SL w [] w1 ((RB l Dk (mkRec fn a.tmps _ _ _ Dk) ++ (fun h : D32 => [.blk go (.cells (#[.string (Subtype.val h)]) 9 (0, 0))]) (⟨leafH sum s, sum_size _⟩ : D32)) ++ [.blk zbbackD (.cells (#[.slice B1 (List.length (way : List (ByteArray × Bool))) d1]) 80 (0, 0)), .row B1 d1 85 2 (List.map sideC way)]) := hw
      have hO0 := hM.fresh (List.subset_append_left _ _) (World.block_lt_of_cell? w _ (hG 0 _ rfl))
      have hGw : Rounds w1 := hG.keep hw (by simp)
      refine (w_backD1 (l := l) (Dk := Dk) (St := (fun h : D32 => [.blk go (.cells (#[.string (Subtype.val h)]) 9 (0, 0))])) (Rl := (fun (h : D32) (x : List Value) (h' : D32) => ∀ q a0, way[List.length way - 1 - q]? = some a0 → x = [.int .i64 ((List.length way - 1 - q : Nat) : Int), .agg (sideC a0)] → h' = stepJ h a0)) (ok := (fun x => ∃ q a0, way[List.length way - 1 - q]? = some a0 ∧ x = [.int .i64 ((List.length way - 1 - q : Nat) : Int), .agg (sideC a0)])) (⟨leafH sum s, sum_size _⟩ : D32) ?_ way (Ent.rd (hM.ents _ (List.mem_of_getElem? (i := 4) rfl))) (hM.apartA hO0 1 rfl) (hM.cellOf (i := 3) rfl (by rfl)) (hM.apart 0 rfl (by simp [Ent.blocks])) (by omega) (fun q hq => by obtain ⟨a0, ha0⟩ := get_some (l := way) (k := List.length way - 1 - q) (by omega); exact ⟨q, a0, ha0, backI_at ha0⟩) hs).mono ?_
      ·rintro h x w2 ⟨q, a0, ha0, rfl⟩ hag hs2
       have ha32 := hway a0 (List.mem_of_getElem? ha0)
       have hh32 := h.2
       have hO3 := hO0
       simp [Ent.blocks, mrow] at hO3
       have hnd := hs2.nodup
       simp [Ent.blocks, mrow] at hnd
       have hG2 : Rounds w2 := fun p y hp => by
                have h0 := hGw p y hp
                rw [← h0]
                exact World.cell?_of_block (hag 0 (World.block_lt_of_cell? w1 _ h0) hO0)
       refine round_of_CX2 (n := Tryz.f39.ntmps) (V0 := [(67, .agg (sideC a0)), (66, .int .i64 ((List.length way - 1 - q : Nat) : Int)), (16, .pointer (some ⟨go, 0, none⟩))]) (σ := Nat) (τ := D32) (M := [.blk go (.cells (#[.string (Subtype.val h)]) 9 (0, 0))]) (fun gx => [(16, .pointer (some ⟨go, 0, none⟩)), (18, .pointer (some ⟨gx, 0, none⟩))]) (fun gx => [.blk gx (.cells (sideC a0) 85 (0, 0)), .blk go (.cells (#[.string (Subtype.val h)]) 9 (0, 0))]) (fun _ => True) (LL := (fun h : D32 => [.blk go (.cells (#[.string (Subtype.val h)]) 9 (0, 0))])) (post := fun h' => ∀ q' a', way[List.length way - 1 - q']? = some a' → [Value.int .i64 ((List.length way - 1 - q : Nat) : Int), .agg (sideC a0)] = [.int .i64 ((List.length way - 1 - q' : Nat) : Int), .agg (sideC a')] → h' = stepJ h a') rfl rfl rfl ?_ ?_ ?_ hs2
       ·exact ((ha.sub (V' := [(16, .pointer (some ⟨go, 0, none⟩))]) ⟨rfl, trivial⟩).round 66 rfl _).round 67 rfl _
       ·refine CX.region ?_
        refine RX.cons rfl rfl (op_alloc rfl rfl rfl zero_85 fun gx => ?_)
        refine RX.cons rfl rfl (op_storeAll (i := 0) rfl rfl rfl rfl szt_85 rfl (plain_of rfl) rfl rfl ?_)
        refine RX.nil (XX.meetP ([]) gx trivial ⟨rfl, rfl, trivial⟩ ((perm_pick 1 rfl).trans (List.Perm.cons _ ((perm_pick 1 rfl).trans (List.Perm.cons _ ((perm_pick 0 rfl).trans (List.Perm.cons _ ((perm_pick 0 rfl).trans (List.Perm.cons _ (List.Perm.refl _))))))))))
       ·intro gx _
        refine CX.block ?_
        refine CX.region ?_
        refine RX.cons rfl rfl (op_yld (y_loadA (i := 2) rfl rfl agg_85 rfl rfl) rfl rfl ?_)
        refine RX.cons rfl rfl (op_yld (y_load (i := 3) rfl rfl one_9 rfl rfl) rfl rfl ?_)
        refine RX.cons rfl rfl (op_callV (v := .string (joinS sum a0 (Subtype.val h))) rfl rfl rfl rfl rfl ent_50 (fun w hw => w_joinS a0.1 (Subtype.val h) a0.2 (hG2.keep hw hO0) (by omega) (by omega)) ?_)
        refine RX.cons rfl rfl (op_storeAll (i := 3) rfl rfl rfl rfl szt_9 rfl (plain_of rfl) rfl rfl ?_)
        refine RX.nil (XX.inBlock (V' := []) trivial ?_)
        refine XX.meetP ([.blk gx (.cells (sideC a0) 85 (0, 0))]) (stepJ h a0) (fun q' a' _ he => by rw [side_inj he]) trivial ((perm_pick 0 rfl).trans (List.Perm.cons _ ((perm_pick 0 rfl).trans (List.Perm.cons _ ((perm_pick 1 rfl).trans (List.Perm.cons _ (List.Perm.refl _)))))))
      ·exact fun e w' ⟨h, hst, he, hz⟩ => ⟨h, Steps.backAll (f := sideV) (step := fun (h : D32) (a : (ByteArray × Bool)) => stepJ h a) way (fun s q a0 s' h0 hr => hr q a0 h0 (backI_at h0)) hst, ⟨_, he⟩, hz⟩
     ·intro h l Dk ob hh
      have hhv : h.1 = way.foldr (fun x out => joinS sum x out) (leafH sum s) := by rw [hh, stepJ_fold]
      refine XX.inBlock (V' := [(0, _), (4, _), (16, _)]) ⟨rfl, rfl, rfl, trivial⟩ ?_
      refine XX.next (V' := [(0, _), (4, _), (16, _)]) ⟨rfl, rfl, rfl, trivial⟩ ?_
      refine CX.seq ?_
      refine CX.region ?_
      refine RX.cons rfl rfl (op_w (yw_move rfl rfl) rfl rfl ?_)
      refine RX.cons rfl rfl (op_w (yw_lenS rfl Tryz.underlying26 rfl) rfl rfl ?_)
      refine RX.cons rfl rfl (op_w (yw_eql rfl rfl rfl) rfl rfl ?_)
      refine RX.cons rfl rfl (op_w (yw_move rfl rfl) rfl rfl ?_)
      refine RX.splitD (t := 74) (p := ((ps.length : Nat) : Int) = 0) rfl (fun d74 => ?_) (fun d74 => ?_)
      ·refine RX.consG rfl rfl rfl rfl rfl (op_yld (y_load (i := 2) rfl rfl one_9 rfl rfl) rfl rfl ?_)
       refine RX.consG rfl rfl rfl rfl rfl (op_w (yw_move rfl rfl) rfl rfl ?_)
       refine RX.consG rfl rfl rfl rfl rfl (op_w (yw_streq rfl rfl rfl) rfl rfl ?_)
       refine RX.cons rfl rfl (op_w (yw_pickT rfl rfl rfl) rfl rfl ?_)
       refine RX.cons rfl rfl (op_w (yw_assign rfl rfl) rfl rfl ?_)
       refine RX.nil (XX.next (V' := [(10, .bool (decide (ByteArray.toList (Subtype.val h) = ByteArray.toList root)))]) ⟨rfl, trivial⟩ ?_)
       refine CX.ret ?_
       exact ret_tmpM (k := 1) rfl rfl rfl fun w1 hw => ⟨by rw [verN_some (v := h.1) hall (by rw [hval, hve, if_pos (by rw [List.eq_nil_of_length_eq_zero (l := ps) (by omega)]; rfl), hhv]; rfl)], hw.sub (List.nil_sublist _)⟩
      ·refine RX.skip rfl rfl rfl rfl rfl rfl rfl ?_
       refine RX.skip rfl rfl rfl rfl rfl rfl rfl ?_
       refine RX.skip rfl rfl rfl rfl rfl rfl rfl ?_
       refine RX.cons rfl rfl (op_w (yw_pickF rfl rfl rfl) rfl rfl ?_)
       refine RX.cons rfl rfl (op_w (yw_assign rfl rfl) rfl rfl ?_)
       refine RX.nil (XX.next (V' := [(10, .bool false)]) ⟨rfl, trivial⟩ ?_)
       refine CX.ret ?_
       exact ret_tmpM (k := 1) rfl rfl rfl fun w1 hw => ⟨by rw [verN_none (by rw [hval, hve, if_neg (by intro e; have := congrArg List.length e; simp at this; simp [this] at d74)]; rfl)], hw.sub (List.nil_sublist _)⟩

end Go.Proofs.YtnadipjlhlbfoaaGreatDoor
