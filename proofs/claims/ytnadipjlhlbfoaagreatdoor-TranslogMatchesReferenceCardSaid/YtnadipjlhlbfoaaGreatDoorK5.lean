/- Walks, printed by a program. Lists of strings: aids for the walks over them. Walks, printed by a program. Walks, printed by a program. The stack of parts, for the walk of Root. Walks, printed by a program. Proofs and extensions without fuel, for the walks. -/
import Derived.Test.YtnadipjlhlbfoaaGreatDoorK4
import Derived.Test.YtnadipjlhlbfoaaGreatDoorK3
namespace Go.Proofs.YtnadipjlhlbfoaaGreatDoor
set_option linter.all false
open Go Go.RowKit
set_option maxRecDepth 100000
theorem ent_92 : ∀ args w, (callFunc 92 args).run Tryz.prog w = .ok (.enter 92 args) w := enters_of Tryz.func92 (by kernel_rfl) rfl
theorem ent_76 : ∀ args w, (callFunc 76 args).run Tryz.prog w = .ok (.enter 76 args) w := enters_of Tryz.func76 (by kernel_rfl) rfl
def tabL : ByteArray := { data := #[0, 1, 2, 2, 3, 3, 3, 3, 4, 4, 4, 4, 4, 4, 4, 4, 5, 5, 5, 5, 5, 5, 5, 5, 5, 5, 5, 5, 5, 5, 5, 5, 6, 6, 6, 6, 6, 6, 6, 6, 6, 6, 6, 6, 6, 6, 6, 6, 6, 6, 6, 6, 6, 6, 6, 6, 6, 6, 6, 6, 6, 6, 6, 6, 7, 7, 7, 7, 7, 7, 7, 7, 7, 7, 7, 7, 7, 7, 7, 7, 7, 7, 7, 7, 7, 7, 7, 7, 7, 7, 7, 7, 7, 7, 7, 7, 7, 7, 7, 7, 7, 7, 7, 7, 7, 7, 7, 7, 7, 7, 7, 7, 7, 7, 7, 7, 7, 7, 7, 7, 7, 7, 7, 7, 7, 7, 7, 7, 8, 8, 8, 8, 8, 8, 8, 8, 8, 8, 8, 8, 8, 8, 8, 8, 8, 8, 8, 8, 8, 8, 8, 8, 8, 8, 8, 8, 8, 8, 8, 8, 8, 8, 8, 8, 8, 8, 8, 8, 8, 8, 8, 8, 8, 8, 8, 8, 8, 8, 8, 8, 8, 8, 8, 8, 8, 8, 8, 8, 8, 8, 8, 8, 8, 8, 8, 8, 8, 8, 8, 8, 8, 8, 8, 8, 8, 8, 8, 8, 8, 8, 8, 8, 8, 8, 8, 8, 8, 8, 8, 8, 8, 8, 8, 8, 8, 8, 8, 8, 8, 8, 8, 8, 8, 8, 8, 8, 8, 8, 8, 8, 8, 8, 8, 8, 8, 8, 8, 8, 8, 8, 8, 8, 8, 8, 8, 8] }
theorem tab_all : ∀ k : Fin 256, tabL.data[k.1]? = some (UInt8.ofNat (lenN k.1)) := by decide +kernel
theorem tab_get {k : Nat} (h : k < 256) : (ByteArray.data { data := #[0, 1, 2, 2, 3, 3, 3, 3, 4, 4, 4, 4, 4, 4, 4, 4, 5, 5, 5, 5, 5, 5, 5, 5, 5, 5, 5, 5, 5, 5, 5, 5, 6, 6, 6, 6, 6, 6, 6, 6, 6, 6, 6, 6, 6, 6, 6, 6, 6, 6, 6, 6, 6, 6, 6, 6, 6, 6, 6, 6, 6, 6, 6, 6, 7, 7, 7, 7, 7, 7, 7, 7, 7, 7, 7, 7, 7, 7, 7, 7, 7, 7, 7, 7, 7, 7, 7, 7, 7, 7, 7, 7, 7, 7, 7, 7, 7, 7, 7, 7, 7, 7, 7, 7, 7, 7, 7, 7, 7, 7, 7, 7, 7, 7, 7, 7, 7, 7, 7, 7, 7, 7, 7, 7, 7, 7, 7, 7, 8, 8, 8, 8, 8, 8, 8, 8, 8, 8, 8, 8, 8, 8, 8, 8, 8, 8, 8, 8, 8, 8, 8, 8, 8, 8, 8, 8, 8, 8, 8, 8, 8, 8, 8, 8, 8, 8, 8, 8, 8, 8, 8, 8, 8, 8, 8, 8, 8, 8, 8, 8, 8, 8, 8, 8, 8, 8, 8, 8, 8, 8, 8, 8, 8, 8, 8, 8, 8, 8, 8, 8, 8, 8, 8, 8, 8, 8, 8, 8, 8, 8, 8, 8, 8, 8, 8, 8, 8, 8, 8, 8, 8, 8, 8, 8, 8, 8, 8, 8, 8, 8, 8, 8, 8, 8, 8, 8, 8, 8, 8, 8, 8, 8, 8, 8, 8, 8, 8, 8, 8, 8, 8, 8, 8, 8, 8, 8] })[k]? = some (UInt8.ofNat (lenN k)) := tab_all ⟨k, h⟩
set_option maxRecDepth 100000 in
theorem w_len64 {w : World} (x : BitVec 64) :
    Calls Tryz.prog 92 #[.int .u64 (wi x)] w (fun e w' => e = .returned (.int .i64 ((lenN x.toNat : Nat) : Int)) ∧ SL w [] w' []) := by
 have hI1 : lenN x.toNat = 0 + lenN x.toNat := by omega
 have hx := x.isLt
 refine calls_of_CX (O := []) (L := []) (args := [.int .u64 (wi x)]) Tryz.func92 rfl (by simp [Tryz.ntmps92]) (SL.refl w) ?_
 refine CX.sub (V' := [(0, .int .u64 (wi x))]) ⟨rfl, trivial⟩ ?_
 refine CX.seq ?_
 refine CX.region ?_
 refine RX.cons rfl rfl (op_w (yw_assign rfl rfl) rfl rfl ?_)
 refine RX.nil (XX.next (V' := [(0, _), (2, .int .i64 0)]) ⟨rfl, rfl, trivial⟩ ?_)
 refine CX.cut (σ := BitVec 64 × Nat) (fun z => [(0, .int .u64 (wi z.1)), (2, .int .i64 ((z.2 : Nat) : Int))]) (fun z => []) (fun z => lenN x.toNat = z.2 + lenN z.1.toNat ∧ z.1.toNat < 4294967296 ∧ z.2 ≤ 32) ?_ (fun z hI => ?_)
 ·refine CX.seq ?_
  refine CX.region ?_
  refine RX.cons rfl rfl (op_w (yw_move rfl rfl) rfl rfl ?_)
  refine RX.cons rfl rfl (op_w (yw_geq rfl rfl rfl) rfl rfl ?_)
  refine RX.nil (XX.next (V' := [(0, _), (2, .int .i64 0), (4, _)]) ⟨rfl, rfl, rfl, trivial⟩ ?_)
  refine CX.condD (p := 4294967296 ≤ wi x) rfl (fun c4 => ?_) (fun c4 => ?_)
  ·have hwi : wi x = ((x.toNat : Nat) : Int) := rfl
   refine CX.seq ?_
   refine CX.region ?_
   refine RX.cons rfl rfl (op_w (yw_move rfl rfl) rfl rfl ?_)
   refine RX.cons rfl rfl (op_w (yw_bvShr (a := x) 32 UK.u64 rfl rfl rfl rfl) rfl rfl ?_)
   refine RX.cons rfl rfl (op_w (yw_assign rfl rfl) rfl rfl ?_)
   refine RX.nil (XX.next (V' := [(0, _)]) ⟨rfl, trivial⟩ ?_)
   refine CX.region ?_
   refine RX.cons rfl rfl (op_w (yw_assign rfl rfl) rfl rfl ?_)
   refine RX.nil (XX.meetP ([]) (x >>> 32, 32) ⟨by dsimp only; rw [hI1, lenN_shift 32 (by omega), shr_toNat]; omega, by dsimp only; rw [shr_toNat]; omega, by dsimp only; omega⟩ ⟨rfl, rfl, trivial⟩ (List.Perm.refl _))
  ·have hwi : wi x = ((x.toNat : Nat) : Int) := rfl
   refine CX.skip (XX.meetP ([]) (x, 0) ⟨hI1, by dsimp only; omega, by dsimp only; omega⟩ ⟨rfl, rfl, trivial⟩ (List.Perm.refl _))
 ·obtain ⟨v32, n32⟩ := z
  dsimp only at hI ⊢
  obtain ⟨hI1, hI2, hI3⟩ := hI
  refine CX.cut (σ := BitVec 64 × Nat) (fun z => [(0, .int .u64 (wi z.1)), (2, .int .i64 ((z.2 : Nat) : Int))]) (fun z => []) (fun z => lenN x.toNat = z.2 + lenN z.1.toNat ∧ z.1.toNat < 65536 ∧ z.2 ≤ 48) ?_ (fun z hI => ?_)
  ·refine CX.seq ?_
   refine CX.region ?_
   refine RX.cons rfl rfl (op_w (yw_move rfl rfl) rfl rfl ?_)
   refine RX.cons rfl rfl (op_w (yw_geq rfl rfl rfl) rfl rfl ?_)
   refine RX.nil (XX.next (V' := [(0, _), (2, .int .i64 ((n32 : Nat) : Int)), (8, _)]) ⟨rfl, rfl, rfl, trivial⟩ ?_)
   refine CX.condD (p := 65536 ≤ wi v32) rfl (fun c8 => ?_) (fun c8 => ?_)
   ·have hwi : wi v32 = ((v32.toNat : Nat) : Int) := rfl
    refine CX.seq ?_
    refine CX.region ?_
    refine RX.cons rfl rfl (op_w (yw_move rfl rfl) rfl rfl ?_)
    refine RX.cons rfl rfl (op_w (yw_bvShr (a := v32) 16 UK.u64 rfl rfl rfl rfl) rfl rfl ?_)
    refine RX.cons rfl rfl (op_w (yw_assign rfl rfl) rfl rfl ?_)
    refine RX.nil (XX.next (V' := [(0, _), (2, .int .i64 ((n32 : Nat) : Int))]) ⟨rfl, rfl, trivial⟩ ?_)
    refine CX.region ?_
    refine RX.cons rfl rfl (op_w (yw_move rfl rfl) rfl rfl ?_)
    refine RX.cons rfl rfl (op_w (yw_add rfl rfl rfl (by omega) (by omega)) rfl rfl ?_)
    refine RX.cons rfl rfl (op_w (yw_assign rfl rfl) rfl rfl ?_)
    refine RX.nil (XX.meetP ([]) (v32 >>> 16, (n32 + 16)) ⟨by dsimp only; rw [hI1, lenN_shift 16 (by omega), shr_toNat]; omega, by dsimp only; rw [shr_toNat]; omega, by dsimp only; omega⟩ ⟨rfl, rfl, trivial⟩ (List.Perm.refl _))
   ·have hwi : wi v32 = ((v32.toNat : Nat) : Int) := rfl
    refine CX.skip (XX.meetP ([]) (v32, n32) ⟨hI1, by dsimp only; omega, by dsimp only; omega⟩ ⟨rfl, rfl, trivial⟩ (List.Perm.refl _))
  ·obtain ⟨v16, n16⟩ := z
   dsimp only at hI ⊢
   obtain ⟨hI1, hI2, hI3⟩ := hI
   refine CX.cut (σ := BitVec 64 × Nat) (fun z => [(0, .int .u64 (wi z.1)), (2, .int .i64 ((z.2 : Nat) : Int))]) (fun z => []) (fun z => lenN x.toNat = z.2 + lenN z.1.toNat ∧ z.1.toNat < 256 ∧ z.2 ≤ 56) ?_ (fun z hI => ?_)
   ·refine CX.seq ?_
    refine CX.region ?_
    refine RX.cons rfl rfl (op_w (yw_move rfl rfl) rfl rfl ?_)
    refine RX.cons rfl rfl (op_w (yw_geq rfl rfl rfl) rfl rfl ?_)
    refine RX.nil (XX.next (V' := [(0, _), (2, .int .i64 ((n16 : Nat) : Int)), (14, _)]) ⟨rfl, rfl, rfl, trivial⟩ ?_)
    refine CX.condD (p := 256 ≤ wi v16) rfl (fun c14 => ?_) (fun c14 => ?_)
    ·have hwi : wi v16 = ((v16.toNat : Nat) : Int) := rfl
     refine CX.seq ?_
     refine CX.region ?_
     refine RX.cons rfl rfl (op_w (yw_move rfl rfl) rfl rfl ?_)
     refine RX.cons rfl rfl (op_w (yw_bvShr (a := v16) 8 UK.u64 rfl rfl rfl rfl) rfl rfl ?_)
     refine RX.cons rfl rfl (op_w (yw_assign rfl rfl) rfl rfl ?_)
     refine RX.nil (XX.next (V' := [(0, _), (2, .int .i64 ((n16 : Nat) : Int))]) ⟨rfl, rfl, trivial⟩ ?_)
     refine CX.region ?_
     refine RX.cons rfl rfl (op_w (yw_move rfl rfl) rfl rfl ?_)
     refine RX.cons rfl rfl (op_w (yw_add rfl rfl rfl (by omega) (by omega)) rfl rfl ?_)
     refine RX.cons rfl rfl (op_w (yw_assign rfl rfl) rfl rfl ?_)
     refine RX.nil (XX.meetP ([]) (v16 >>> 8, (n16 + 8)) ⟨by dsimp only; rw [hI1, lenN_shift 8 (by omega), shr_toNat]; omega, by dsimp only; rw [shr_toNat]; omega, by dsimp only; omega⟩ ⟨rfl, rfl, trivial⟩ (List.Perm.refl _))
    ·have hwi : wi v16 = ((v16.toNat : Nat) : Int) := rfl
     refine CX.skip (XX.meetP ([]) (v16, n16) ⟨hI1, by dsimp only; omega, by dsimp only; omega⟩ ⟨rfl, rfl, trivial⟩ (List.Perm.refl _))
   ·obtain ⟨v8, n8⟩ := z
    dsimp only at hI ⊢
    obtain ⟨hI1, hI2, hI3⟩ := hI
    refine CX.seq ?_
    have hv8 : (BitVec.setWidth 8 v8).toNat = v8.toNat := by rw [BitVec.toNat_setWidth]; omega
    have hl8 := lenN_le (n := v8.toNat) (k := 8) (by omega)
    refine CX.region ?_
    refine RX.cons rfl rfl (op_w (yw_move rfl rfl) rfl rfl ?_)
    refine RX.cons rfl rfl (op_w (yw_move rfl rfl) rfl rfl ?_)
    refine RX.cons rfl rfl (op_w (yw_bvConv (a := v8) UK.u8 rfl rfl Tryz.underlying122 Tryz.underlying5) rfl rfl ?_)
    refine RX.cons rfl rfl (op_w (yw_strIdx (k := (BitVec.setWidth 8 v8).toNat) (b := UInt8.ofNat (lenN (BitVec.setWidth 8 v8).toNat)) rfl Tryz.underlying9 rfl rfl rfl (tab_get (BitVec.isLt _))) rfl rfl ?_)
    refine RX.cons rfl rfl (op_w (yw_bvInt (a := UInt8.toBitVec (UInt8.ofNat (lenN (BitVec.setWidth 8 v8).toNat))) (by decide) rfl rfl Tryz.underlying5 Tryz.underlying3) rfl rfl ?_)
    refine RX.know (t := 23) (u := .int .i64 ((lenN v8.toNat : Nat) : Int)) rfl (congrArg (Value.int .i64) (by rw [hv8]; exact u8_back (by omega))) ?_
    refine RX.cons rfl rfl (op_w (yw_add rfl rfl rfl (by omega) (by omega)) rfl rfl ?_)
    refine RX.cons rfl rfl (op_w (yw_assign rfl rfl) rfl rfl ?_)
    refine RX.nil (XX.next (V' := [(2, .int .i64 (((n8 : Nat) : Int) + ((lenN v8.toNat : Nat) : Int)))]) ⟨rfl, trivial⟩ ?_)
    refine CX.ret ?_
    exact ret_tmp rfl rfl fun w1 hw => ⟨by rw [hI1]; rfl, hw.sub (List.nil_sublist _)⟩

set_option maxRecDepth 100000 in
theorem w_len {w : World} (x : BitVec 64) :
    Calls Tryz.prog 76 #[.int .u64 (wi x)] w (fun e w' => e = .returned (.int .i64 ((lenN x.toNat : Nat) : Int)) ∧ SL w [] w' []) := by
 refine calls_of_CX (O := []) (L := []) (args := [.int .u64 (wi x)]) Tryz.func76 rfl (by simp [Tryz.ntmps76]) (SL.refl w) ?_
 refine CX.sub (V' := [(0, .int .u64 (wi x))]) ⟨rfl, trivial⟩ ?_
 refine CX.seq ?_
 refine CX.region ?_
 refine RX.cons rfl rfl (op_w (yw_assign rfl rfl) rfl rfl ?_)
 refine RX.nil (XX.next (V' := [(0, _)]) ⟨rfl, trivial⟩ ?_)
 refine CX.seq ?_
 refine CX.condF rfl ?_
 refine CX.skip (XX.next (V' := [(0, _)]) ⟨rfl, trivial⟩ ?_)
 refine CX.seq ?_
 refine CX.region ?_
 refine RX.cons rfl rfl (op_w (yw_move rfl rfl) rfl rfl ?_)
 refine RX.cons rfl rfl (op_callV (v := .int .i64 ((lenN (BitVec.toNat x) : Nat) : Int)) rfl rfl rfl rfl rfl ent_92 (fun w hw => w_len64 x) ?_)
 refine RX.cons rfl rfl (op_w (yw_assign rfl rfl) rfl rfl ?_)
 refine RX.nil (XX.next (V' := [(2, .int .i64 ((lenN (BitVec.toNat x) : Nat) : Int))]) ⟨rfl, trivial⟩ ?_)
 refine CX.ret ?_
 exact ret_tmp rfl rfl fun w1 hw => ⟨rfl, hw.sub (List.nil_sublist _)⟩

set_option maxRecDepth 100000 in
theorem w_left {w : World} (n : Nat) (hn : 2 ≤ n) (hm : n ≤ 9223372036854775807) :
    Calls Tryz.prog 48 #[.int .i64 ((n : Nat) : Int)] w (fun e w' => e = .returned (.int .i64 ((lft n : Nat) : Int)) ∧ SL w [] w' []) := by
 have hl1 := lenN_pos (n := n - 1) (by omega)
 have hl2 := lenN_le (n := n - 1) (k := 63) (by omega)
 have hb : (BitVec.ofInt 64 ((n : Int) - 1)).toNat = n - 1 := ofInt_toNat (by omega) (by omega)
 refine calls_of_CX (O := []) (L := []) (args := [.int .i64 ((n : Nat) : Int)]) Tryz.func48 rfl (by simp [Tryz.ntmps48]) (SL.refl w) ?_
 refine CX.sub (V' := [(0, .int .i64 ((n : Nat) : Int))]) ⟨rfl, trivial⟩ ?_
 refine CX.seq ?_
 refine CX.region ?_
 refine RX.cons rfl rfl (op_w (yw_assign rfl rfl) rfl rfl ?_)
 refine RX.nil (XX.next (V' := [(0, _)]) ⟨rfl, trivial⟩ ?_)
 refine CX.seq ?_
 refine CX.region ?_
 refine RX.cons rfl rfl (op_w (yw_move rfl rfl) rfl rfl ?_)
 refine RX.cons rfl rfl (op_w (yw_sub rfl rfl rfl (by omega) (by omega)) rfl rfl ?_)
 refine RX.cons rfl rfl (op_w (yw_bvOf UK.u64 rfl rfl Tryz.underlying3 Tryz.underlying116) rfl rfl ?_)
 refine RX.cons rfl rfl (op_callV (v := .int .i64 ((lenN (BitVec.toNat (BitVec.ofInt 64 (((n : Nat) : Int) - 1))) : Nat) : Int)) rfl rfl rfl rfl rfl ent_76 (fun w hw => w_len (BitVec.ofInt 64 (((n : Nat) : Int) - 1))) ?_)
 refine RX.know (t := 6) (u := .int .i64 ((lenN (n - 1) : Nat) : Int)) rfl (congrArg (fun q : Nat => Value.int .i64 ((lenN q : Nat) : Int)) hb) ?_
 refine RX.cons rfl rfl (op_w (yw_sub rfl rfl rfl (by omega) (by omega)) rfl rfl ?_)
 refine RX.know (t := 7) (u := .int .i64 ((lenN (n - 1) - 1 : Nat) : Int)) rfl (congrArg (Value.int .i64) (by omega)) ?_
 refine RX.cons rfl rfl (op_w (yw_one_shl (lenN (n - 1) - 1) rfl rfl rfl rfl (by omega)) rfl rfl ?_)
 refine RX.cons rfl rfl (op_w (yw_assign rfl rfl) rfl rfl ?_)
 refine RX.nil (XX.next (V' := [(2, .int .i64 ((2 ^ (lenN (n - 1) - 1) : Nat) : Int))]) ⟨rfl, trivial⟩ ?_)
 refine CX.ret ?_
 exact ret_tmp rfl rfl fun w1 hw => ⟨by rw [lft_len hn], hw.sub (List.nil_sublist _)⟩

end Go.Proofs.YtnadipjlhlbfoaaGreatDoor
namespace Go.Proofs.YtnadipjlhlbfoaaGreatDoor
set_option linter.all false
open Go Go.RowKit
/-- The place of the first string that is no digest, or -1. -/
def oddIdx (xs : List ByteArray) : Int := if ∀ x ∈ xs, x.size = 32 then -1 else ((xs.findIdx fun s => decide (s.size ≠ 32) : Nat) : Int)
theorem oddIdx_none {xs : List ByteArray} (h : ∀ x ∈ xs, x.size = 32) : oddIdx xs = -1 := if_pos h
theorem oddIdx_at {xs : List ByteArray} {i : Nat} {s : ByteArray} (hs : xs[i]? = some s) (hn : s.size ≠ 32) (h : ∀ x ∈ xs.take i, x.size = 32) : oddIdx xs = ((i : Nat) : Int) := by
  have hm := List.mem_of_getElem? hs
  have hi := (List.getElem?_eq_some_iff.1 hs).1
  rw [oddIdx, if_neg (fun hall => hn (hall s hm))]
  congr 1
  rw [List.findIdx_eq hi]
  refine ⟨by rw [List.getElem?_eq_getElem hi, Option.some.injEq] at hs; rw [hs]; simpa using hn, fun j hj => ?_⟩
  have : xs[j]'(by omega) ∈ xs.take i := by
    rw [List.mem_take_iff_getElem]
    exact ⟨j, by omega, rfl⟩
  simpa using h _ this
theorem oddIdx_iff (xs : List ByteArray) : (0 ≤ oddIdx xs) ↔ ¬ ∀ x ∈ xs, x.size = 32 := by
  unfold oddIdx
  split <;> rename_i h
  · constructor
    · intro h0; omega
    · intro h0; exact absurd h h0
  · simp only [h, not_false_iff, iff_true]; omega
theorem all_snoc {xs : List ByteArray} {i : Nat} {s : ByteArray} (hs : xs[i]? = some s) (hn : s.size = 32) (h : ∀ x ∈ xs.take i, x.size = 32) : ∀ x ∈ xs.take (i + 1), x.size = 32 := by
  rw [take_succ hs]
  intro x hx
  rcases List.mem_append.1 hx with hx | hx
  · exact h x hx
  · simp at hx; rw [hx]; exact hn
/-- A side: a digest, and whether it comes first. -/
abbrev sideC (x : ByteArray × Bool) : Array Value := #[.string x.1, .bool x.2]
def joinS (h : B → B) (x : ByteArray × Bool) (part : ByteArray) : ByteArray := if x.2 then nodeH h x.1 part else nodeH h part x.1
/-- What a backward range hands over. -/
def backI {α : Type} (f : α → List Value) (xs : List α) (q : Nat) : List Value := .int .i64 ((xs.length - 1 - q : Nat) : Int) :: ((xs[xs.length - 1 - q]?).map f).getD []
theorem backI_at {α : Type} {f : α → List Value} {xs : List α} {q : Nat} {a : α} (h : xs[xs.length - 1 - q]? = some a) : backI f xs q = .int .i64 ((xs.length - 1 - q : Nat) : Int) :: f a := by
  simp only [backI, h, Option.map_some, Option.getD_some]
def strV (s : ByteArray) : List Value := [.string s]
def sideV (x : ByteArray × Bool) : List Value := [.agg (sideC x)]
/-- A backward fold. -/
theorem Steps.back {α σ : Type} {Rl : σ → List Value → σ → Prop} {f : α → List Value} {step : σ → α → σ} {s0 : σ} (xs : List α) (h : ∀ s q a s', xs[xs.length - 1 - q]? = some a → Rl s (backI f xs q) s' → s' = step s a) :
    ∀ (k : Nat) (s' : σ), k ≤ xs.length → Steps Rl s0 ((List.range k).map (backI f xs)) s' → s' = (xs.drop (xs.length - k)).foldr (fun a s => step s a) s0
  | 0, s', _, hs => by
    generalize hx : (List.range 0).map (backI f xs) = X at hs
    cases hs with
    | nil => simp
    | snoc h1 h2 => simp at hx
  | k + 1, s', hk, hs => by
    generalize hx : (List.range (k + 1)).map (backI f xs) = X at hs
    cases hs with
    | nil => simp at hx
    | snoc h1 h2 =>
      rw [List.range_succ, List.map_append] at hx
      obtain ⟨e1, e2⟩ := List.append_inj' hx (by simp)
      subst e1
      simp only [List.map_cons, List.map_nil, List.cons.injEq, and_true] at e2
      subst e2
      obtain ⟨a, ha⟩ := get_some (l := xs) (k := xs.length - 1 - k) (by omega)
      have ih := Steps.back xs h k _ (by omega) h1
      have hd : xs.drop (xs.length - (k + 1)) = a :: xs.drop (xs.length - k) := by
        rw [show xs.length - (k + 1) = xs.length - 1 - k from by omega, List.drop_eq_getElem_cons (by omega), show xs.length - 1 - k + 1 = xs.length - k from by omega]
        congr 1
        rw [List.getElem?_eq_getElem (by omega), Option.some.injEq] at ha
        exact ha
      rw [hd, List.foldr_cons, ← ih]
      exact h _ _ _ _ ha h2
theorem Steps.backAll {α σ : Type} {Rl : σ → List Value → σ → Prop} {f : α → List Value} {step : σ → α → σ} {s0 s' : σ} (xs : List α) (h : ∀ s q a s', xs[xs.length - 1 - q]? = some a → Rl s (backI f xs q) s' → s' = step s a) (hs : Steps Rl s0 ((List.range xs.length).map (backI f xs)) s') : s' = xs.foldr (fun a s => step s a) s0 := by
  have := Steps.back xs h xs.length s' (Nat.le_refl _) hs
  rw [Nat.sub_self, List.drop_zero] at this
  exact this
theorem Rd.nil_of {w : World} {A : Option Addr} {xs : List ByteArray} (h : Rd w A 1 (xs.map strC)) (hA : A.isNone = true) : xs = [] := by
  rcases xs with _ | ⟨x, xs⟩
  · rfl
  · obtain ⟨b, j, e⟩ := Rd.some (k := 0) h (by simp)
    rw [e] at hA; cases hA
/-- Reversing in place: after k exchanges. -/
def RevAt {α : Type} (xs ys : List α) (k : Nat) : Prop := ys.length = xs.length ∧ ∀ j, j < xs.length → ys[j]? = if j < k ∨ xs.length ≤ j + k then xs[xs.length - 1 - j]? else xs[j]?
theorem RevAt.zero {α : Type} (xs : List α) : RevAt xs xs 0 := ⟨rfl, fun j hj => by rw [if_neg (by omega)]⟩
theorem RevAt.step {α : Type} {xs ys : List α} {k : Nat} {a b : α} (h : RevAt xs ys k) (hk : 2 * k + 1 < xs.length) (ha : ys[k]? = some a) (hb : ys[xs.length - 1 - k]? = some b) : RevAt xs ((ys.set k b).set (xs.length - 1 - k) a) (k + 1) := by
  obtain ⟨h1, h2⟩ := h
  refine ⟨by simp [h1], fun j hj => ?_⟩
  rw [List.getElem?_set, List.getElem?_set]
  have ha' := h2 k (by omega)
  rw [if_neg (by omega), ha] at ha'
  have hb' := h2 (xs.length - 1 - k) (by omega)
  rw [if_neg (by omega), hb] at hb'
  by_cases e1 : xs.length - 1 - k = j
  · subst e1
    rw [if_pos rfl, if_pos (by simp; omega), if_pos (by omega), ha']
    congr 1; omega
  · rw [if_neg e1]
    by_cases e2 : k = j
    · subst e2
      rw [if_pos rfl, if_pos (by omega), if_pos (by omega), hb']
    · rw [if_neg e2, h2 j hj]
      by_cases e3 : j < k ∨ xs.length ≤ j + k
      · rw [if_pos e3, if_pos (by omega)]
      · rw [if_neg e3, if_neg (by omega)]
theorem RevAt.done {α : Type} {xs ys : List α} {k : Nat} (h : RevAt xs ys k) (hk : xs.length ≤ 2 * k + 1) : ys = xs.reverse := by
  obtain ⟨h1, h2⟩ := h
  apply List.ext_getElem?
  intro j
  by_cases hj : j < xs.length
  · rw [h2 j hj, List.getElem?_reverse hj]
    split
    · rfl
    · congr 1; omega
  · rw [List.getElem?_eq_none (by omega), List.getElem?_eq_none (by simp; omega)]
end Go.Proofs.YtnadipjlhlbfoaaGreatDoor
namespace Go.Proofs.YtnadipjlhlbfoaaGreatDoor
set_option linter.all false
open Go Go.RowKit
set_option maxRecDepth 100000
theorem ent_46 : ∀ args w, (callFunc 46 args).run Tryz.prog w = .ok (.enter 46 args) w := enters_of Tryz.func46 (by kernel_rfl) rfl
theorem ent_74 : ∀ args w, (callFunc 74 args).run Tryz.prog w = .ok (.enter 74 args) w := enters_of Tryz.func74 (by kernel_rfl) rfl
theorem ent_90 : ∀ args w, (callFunc 90 args).run Tryz.prog w = .ok (.enter 90 args) w := enters_of Tryz.func90 (by kernel_rfl) rfl
theorem ent_75 : ∀ args w, (callFunc 75 args).run Tryz.prog w = .ok (.enter 75 args) w := enters_of Tryz.func75 (by kernel_rfl) rfl
theorem one_26 : One Tryz.prog 26 := ⟨_, Tryz.underlying26, rfl⟩
theorem one_80 : One Tryz.prog 80 := ⟨_, Tryz.underlying80, rfl⟩
theorem slt_80 : SlT Tryz.prog 80 85 2 := ⟨(Tryz.prog.info? 85).get!, Tryz.underlying80, by kernel_rfl, by kernel_rfl⟩
theorem agg_85 : AggT Tryz.prog 85 2 := ⟨_, _, Tryz.underlying85, rfl, (by kernel_rfl : Tryz.prog.info? 85 = some (Tryz.prog.info? 85).get!), by kernel_rfl⟩
set_option maxRecDepth 100000 in
theorem w_isDigest {w : World} (s : ByteArray) :
    Calls Tryz.prog 46 #[.string s] w (fun e w' => e = .returned (.bool (decide (((s.size : Nat) : Int) = 32))) ∧ SL w [] w' []) := by
 refine calls_of_CX (O := []) (L := []) (args := [.string s]) Tryz.func46 rfl (by simp [Tryz.ntmps46]) (SL.refl w) ?_
 refine CX.sub (V' := [(0, .string s)]) ⟨rfl, trivial⟩ ?_
 refine CX.seq ?_
 refine CX.region ?_
 refine RX.cons rfl rfl (op_w (yw_assign rfl rfl) rfl rfl ?_)
 refine RX.nil (XX.next (V' := [(0, _)]) ⟨rfl, trivial⟩ ?_)
 refine CX.seq ?_
 refine CX.region ?_
 refine RX.cons rfl rfl (op_w (yw_move rfl rfl) rfl rfl ?_)
 refine RX.cons rfl rfl (op_w (yw_lenStr rfl Tryz.underlying9 rfl) rfl rfl ?_)
 refine RX.cons rfl rfl (op_w (yw_eql rfl rfl rfl) rfl rfl ?_)
 refine RX.cons rfl rfl (op_w (yw_assign rfl rfl) rfl rfl ?_)
 refine RX.nil (XX.next (V' := [(2, .bool (decide (((ByteArray.size s : Nat) : Int) = 32)))]) ⟨rfl, trivial⟩ ?_)
 refine CX.ret ?_
 exact ret_tmp rfl rfl fun w1 hw => ⟨rfl, hw.sub (List.nil_sublist _)⟩

set_option maxRecDepth 100000 in
theorem w_all1 {w : World} (s : ByteArray) :
    Calls Tryz.prog 74 #[.string s] w (fun e w' => e = .returned (.bool (decide (¬ (((s.size : Nat) : Int) = 32)))) ∧ SL w [] w' []) := by
 refine calls_of_CX (O := []) (L := []) (args := [.string s]) Tryz.func74 rfl (by simp [Tryz.ntmps74]) (SL.refl w) ?_
 refine CX.sub (V' := [(0, .string s)]) ⟨rfl, trivial⟩ ?_
 refine CX.seq ?_
 refine CX.region ?_
 refine RX.cons rfl rfl (op_w (yw_assign rfl rfl) rfl rfl ?_)
 refine RX.nil (XX.next (V' := [(0, _)]) ⟨rfl, trivial⟩ ?_)
 refine CX.seq ?_
 refine CX.region ?_
 refine RX.cons rfl rfl (op_w (yw_move rfl rfl) rfl rfl ?_)
 refine RX.cons rfl rfl (op_callV (v := .bool (decide (((ByteArray.size s : Nat) : Int) = 32))) rfl rfl rfl rfl rfl ent_46 (fun w hw => w_isDigest s) ?_)
 refine RX.cons rfl rfl (op_w (yw_notD rfl rfl) rfl rfl ?_)
 refine RX.cons rfl rfl (op_w (yw_assign rfl rfl) rfl rfl ?_)
 refine RX.nil (XX.next (V' := [(2, .bool (decide (¬ (((ByteArray.size s : Nat) : Int) = 32))))]) ⟨rfl, trivial⟩ ?_)
 refine CX.ret ?_
 exact ret_tmp rfl rfl fun w1 hw => ⟨rfl, hw.sub (List.nil_sublist _)⟩

set_option maxRecDepth 100000 in
theorem w_indexD {w : World} {A : Option Addr} {cap : Nat} (xs : List ByteArray) (hr : Rd w A 1 (xs.map strC)) (hl : xs.length ≤ 281474976710656) :
    Calls Tryz.prog 90 #[.slice A xs.length cap, .func (.func 74) #[] #[]] w (fun e w' => e = .returned (.int .i64 (oddIdx xs)) ∧ SL w [] w' []) := by
 refine calls_of_CX (O := []) (L := []) (args := [.slice A xs.length cap, .func (.func 74) #[] #[]]) Tryz.func90 rfl (by simp [Tryz.ntmps90]) (SL.refl w) ?_
 refine CX.sub (V' := [(0, .slice A xs.length cap), (1, .func (.func 74) #[] #[])]) ⟨rfl, rfl, trivial⟩ ?_
 refine CX.seq ?_
 refine CX.region ?_
 refine RX.cons rfl rfl (op_w (yw_assign rfl rfl) rfl rfl ?_)
 refine RX.nil (XX.next (V' := [(0, _), (1, _)]) ⟨rfl, rfl, trivial⟩ ?_)
 refine CX.seq ?_
 refine CX.seq ?_
 refine CX.region ?_
 refine RX.cons rfl rfl (op_w (yw_move rfl rfl) rfl rfl ?_)
 refine RX.cons rfl rfl (op_w (yw_lenS rfl Tryz.underlying26 rfl) rfl rfl ?_)
 refine RX.cons rfl rfl (op_w (yw_move rfl rfl) rfl rfl ?_)
 refine RX.nil (XX.next (V' := [(0, _), (1, _), (7, _), (8, _)]) ⟨rfl, rfl, rfl, rfl, trivial⟩ ?_)
 refine CX.block ?_
 refine CX.loop (σ := Nat) (fun i => [(0, .slice A xs.length cap), (1, .func (.func 74) #[] #[]), (7, .int .i64 ((xs.length : Nat) : Int)), (8, .int .i64 ((i : Nat) : Int))]) (fun i => []) (fun i => i ≤ xs.length ∧ ∀ x ∈ xs.take i, x.size = 32) (fun i => xs.length - i) 0 ⟨Nat.zero_le _, by simp⟩ ⟨rfl, rfl, rfl, rfl, trivial⟩ rfl (fun i hI => ?_)
 obtain ⟨hi, hall⟩ := hI
 refine CX.seq ?_
 refine CX.region ?_
 refine RX.cons rfl rfl (op_w (yw_lss rfl rfl rfl) rfl rfl ?_)
 refine RX.nil (XX.next (V' := [(0, _), (1, _), (7, _), (8, _), (9, _)]) ⟨rfl, rfl, rfl, rfl, rfl, trivial⟩ ?_)
 refine CX.seq ?_
 refine CX.condD (p := ((i : Nat) : Int) < ((xs.length : Nat) : Int)) rfl (fun c9 => ?_) (fun c9 => ?_)
 ·obtain ⟨s0, hs0⟩ := get_some (l := xs) (k := i) (by omega)
  have hA : ∃ b j, A = some ⟨b, j, none⟩ := hr.some (k := 0) (by simp; omega)
  refine CX.skip (XX.next (V' := [(0, _), (1, _), (7, _), (8, _)]) ⟨rfl, rfl, rfl, rfl, trivial⟩ ?_)
  refine CX.seq ?_
  refine CX.block ?_
  refine CX.seq ?_
  refine CX.region ?_
  refine RX.cons rfl rfl (op_w (yw_move rfl rfl) rfl rfl ?_)
  refine RX.cons rfl rfl (op_w (yw_assign rfl rfl) rfl rfl ?_)
  refine RX.nil (XX.next (V' := [(0, _), (1, _), (5, _), (7, _), (8, _)]) ⟨rfl, rfl, rfl, rfl, rfl, trivial⟩ ?_)
  refine CX.seq ?_
  refine CX.region ?_
  refine RX.cons rfl rfl (op_w (yw_move rfl rfl) rfl rfl ?_)
  refine RX.cons rfl rfl (op_w (yw_move rfl rfl) rfl rfl ?_)
  refine RX.cons rfl rfl (op_w (yw_move rfl rfl) rfl rfl ?_)
  refine RX.cons rfl rfl (op_w (yw_index (k := i) rfl slt_26 rfl rfl (by omega) (by omega) hA) rfl rfl ?_)
  refine RX.cons rfl rfl (op_yld (y_elem1 rfl rfl one_9 hr (by simp) (map_get hs0)) rfl rfl ?_)
  refine RX.cons rfl rfl (op_callV (v := .bool (decide (¬ (((ByteArray.size s0 : Nat) : Int) = 32)))) rfl rfl rfl rfl rfl ent_74 (fun w hw => w_all1 s0) ?_)
  refine RX.nil (XX.next (V' := [(0, _), (1, _), (5, _), (7, _), (8, _), (16, _)]) ⟨rfl, rfl, rfl, rfl, rfl, rfl, trivial⟩ ?_)
  refine CX.condD (p := ¬ (((ByteArray.size s0 : Nat) : Int) = 32)) rfl (fun c16 => ?_) (fun c16 => ?_)
  ·refine CX.seq ?_
   refine CX.region ?_
   refine RX.cons rfl rfl (op_w (yw_move rfl rfl) rfl rfl ?_)
   refine RX.cons rfl rfl (op_w (yw_assign rfl rfl) rfl rfl ?_)
   refine RX.nil (XX.next (V' := [(4, .int .i64 ((i : Nat) : Int))]) ⟨rfl, trivial⟩ ?_)
   refine CX.ret ?_
   refine XX.block_ret ?_
   refine XX.then_ret ?_
   refine XX.then_ret ?_
   refine XX.block_ret ?_
   refine XX.then_ret ?_
   exact ret_tmp rfl rfl fun w1 hw => ⟨by rw [oddIdx_at hs0 (by omega) hall], hw.sub (List.nil_sublist _)⟩
  ·refine CX.skip (XX.inBlock (V' := [(0, _), (1, _), (7, _), (8, _)]) ⟨rfl, rfl, rfl, rfl, trivial⟩ ?_)
   refine XX.next (V' := [(0, _), (1, _), (7, _), (8, _)]) ⟨rfl, rfl, rfl, rfl, trivial⟩ ?_
   refine CX.region ?_
   refine RX.cons rfl rfl (op_w (yw_add rfl rfl rfl (by omega) (by omega)) rfl rfl ?_)
   refine RX.cons rfl rfl (op_w (yw_move rfl rfl) rfl rfl ?_)
   refine RX.nil (XX.againP ([]) (i + 1) (by omega) ⟨by omega, all_snoc hs0 (by omega) hall⟩ ⟨rfl, rfl, rfl, rfl, trivial⟩ (List.Perm.refl _))
 ·rw [List.take_of_length_le (by omega)] at hall
  refine CX.exit ?_
  refine XX.then_exit ?_
  refine XX.then_exit ?_
  refine XX.block_exit ?_
  refine XX.next (V' := []) trivial ?_
  refine CX.seq ?_
  refine CX.region ?_
  refine RX.cons rfl rfl (op_w (yw_assign rfl rfl) rfl rfl ?_)
  refine RX.nil (XX.next (V' := [(4, .int .i64 (-1))]) ⟨rfl, trivial⟩ ?_)
  refine CX.ret ?_
  exact ret_tmp rfl rfl fun w1 hw => ⟨by rw [oddIdx_none hall], hw.sub (List.nil_sublist _)⟩

set_option maxRecDepth 100000 in
theorem w_containsD {w : World} {A : Option Addr} {cap : Nat} (xs : List ByteArray) (hr : Rd w A 1 (xs.map strC)) (hl : xs.length ≤ 281474976710656) :
    Calls Tryz.prog 75 #[.slice A xs.length cap, .func (.func 74) #[] #[]] w (fun e w' => e = .returned (.bool (decide (0 ≤ oddIdx xs))) ∧ SL w [] w' []) := by
 refine calls_of_CX (O := []) (L := []) (args := [.slice A xs.length cap, .func (.func 74) #[] #[]]) Tryz.func75 rfl (by simp [Tryz.ntmps75]) (SL.refl w) ?_
 refine CX.sub (V' := [(0, .slice A xs.length cap), (1, .func (.func 74) #[] #[])]) ⟨rfl, rfl, trivial⟩ ?_
 refine CX.seq ?_
 refine CX.region ?_
 refine RX.cons rfl rfl (op_w (yw_assign rfl rfl) rfl rfl ?_)
 refine RX.nil (XX.next (V' := [(0, _), (1, _)]) ⟨rfl, rfl, trivial⟩ ?_)
 refine CX.seq ?_
 refine CX.region ?_
 refine RX.cons rfl rfl (op_w (yw_move rfl rfl) rfl rfl ?_)
 refine RX.cons rfl rfl (op_w (yw_move rfl rfl) rfl rfl ?_)
 refine RX.cons rfl rfl (op_callV (v := .int .i64 (oddIdx xs)) rfl rfl rfl rfl rfl ent_90 (fun w hw => w_indexD xs (hw.rd hr (by simp)) hl) ?_)
 refine RX.cons rfl rfl (op_w (yw_geq rfl rfl rfl) rfl rfl ?_)
 refine RX.cons rfl rfl (op_w (yw_assign rfl rfl) rfl rfl ?_)
 refine RX.nil (XX.next (V' := [(4, .bool (decide (0 ≤ oddIdx xs)))]) ⟨rfl, trivial⟩ ?_)
 refine CX.ret ?_
 exact ret_tmp rfl rfl fun w1 hw => ⟨rfl, hw.sub (List.nil_sublist _)⟩

set_option maxRecDepth 100000 in
theorem w_all {w : World} {A : Option Addr} {cap : Nat} (xs : List ByteArray) (hr : Rd w A 1 (xs.map strC)) (hl : xs.length ≤ 281474976710656) :
    Calls Tryz.prog 45 #[.slice A xs.length cap] w (fun e w' => e = .returned (.bool (decide (∀ x ∈ xs, x.size = 32))) ∧ SL w [] w' []) := by
 refine calls_of_CX (O := []) (L := []) (args := [.slice A xs.length cap]) Tryz.func45 rfl (by simp [Tryz.ntmps45]) (SL.refl w) ?_
 refine CX.sub (V' := [(0, .slice A xs.length cap)]) ⟨rfl, trivial⟩ ?_
 refine CX.seq ?_
 refine CX.region ?_
 refine RX.cons rfl rfl (op_w (yw_assign rfl rfl) rfl rfl ?_)
 refine RX.nil (XX.next (V' := [(0, _)]) ⟨rfl, trivial⟩ ?_)
 refine CX.seq ?_
 refine CX.region ?_
 refine RX.cons rfl rfl (op_w (yw_assign rfl rfl) rfl rfl ?_)
 refine RX.nil (XX.next (V' := [(0, _), (3, _)]) ⟨rfl, rfl, trivial⟩ ?_)
 refine CX.seq ?_
 refine CX.region ?_
 refine RX.cons rfl rfl (op_w (yw_move rfl rfl) rfl rfl ?_)
 refine RX.cons rfl rfl (op_w (yw_move rfl rfl) rfl rfl ?_)
 refine RX.cons rfl rfl (op_callV (v := .bool (decide (0 ≤ oddIdx xs))) rfl rfl rfl rfl rfl ent_75 (fun w hw => w_containsD xs (hw.rd hr (by simp)) hl) ?_)
 refine RX.cons rfl rfl (op_w (yw_notD rfl rfl) rfl rfl ?_)
 refine RX.know (t := 7) (u := .bool (decide (∀ x ∈ xs, x.size = 32))) rfl (congrArg Value.bool (decide_eq_decide.2 (by rw [oddIdx_iff]; exact Decidable.not_not))) ?_
 refine RX.cons rfl rfl (op_w (yw_assign rfl rfl) rfl rfl ?_)
 refine RX.nil (XX.next (V' := [(2, .bool (decide (∀ x ∈ xs, x.size = 32)))]) ⟨rfl, trivial⟩ ?_)
 refine CX.ret ?_
 exact ret_tmp rfl rfl fun w1 hw => ⟨rfl, hw.sub (List.nil_sublist _)⟩

set_option maxRecDepth 100000 in
theorem w_take0 {w : World} {A : Option Addr} {cap : Nat} :
    Calls Tryz.prog 47 #[.slice A 0 cap] w (fun e w' => e = .returned (.tuple #[.string .empty, .slice none 0 0, .bool false]) ∧ SL w [] w' []) := by
 refine calls_of_CX (O := []) (L := []) (args := [.slice A 0 cap]) Tryz.func47 rfl (by simp [Tryz.ntmps47]) (SL.refl w) ?_
 refine CX.sub (V' := [(0, .slice A 0 cap)]) ⟨rfl, trivial⟩ ?_
 refine CX.seq ?_
 refine CX.region ?_
 refine RX.cons rfl rfl (op_w (yw_assign rfl rfl) rfl rfl ?_)
 refine RX.cons rfl rfl (op_w (yw_assign rfl rfl) rfl rfl ?_)
 refine RX.cons rfl rfl (op_w (yw_assign rfl rfl) rfl rfl ?_)
 refine RX.nil (XX.next (V' := [(0, _)]) ⟨rfl, trivial⟩ ?_)
 refine CX.seq ?_
 refine CX.seq ?_
 refine CX.region ?_
 refine RX.cons rfl rfl (op_w (yw_move rfl rfl) rfl rfl ?_)
 refine RX.cons rfl rfl (op_w (yw_lenS rfl Tryz.underlying26 rfl) rfl rfl ?_)
 refine RX.cons rfl rfl (op_w (yw_eql rfl rfl rfl) rfl rfl ?_)
 refine RX.nil (XX.next (V' := [(0, _), (8, _)]) ⟨rfl, rfl, trivial⟩ ?_)
 refine CX.condD (p := ((0 : Nat) : Int) = 0) rfl (fun c8 => ?_) (fun c8 => ?_)
 ·refine CX.seq ?_
  refine CX.region ?_
  refine RX.cons rfl rfl (op_w (yw_assign rfl rfl) rfl rfl ?_)
  refine RX.cons rfl rfl (op_w (yw_assign rfl rfl) rfl rfl ?_)
  refine RX.cons rfl rfl (op_w (yw_assign rfl rfl) rfl rfl ?_)
  refine RX.nil (XX.next (V' := [(2, .string .empty), (3, .slice none 0 0), (4, .bool false)]) ⟨rfl, rfl, rfl, trivial⟩ ?_)
  refine CX.ret ?_
  refine XX.then_ret ?_
  exact ret_tmp3 rfl rfl rfl rfl fun w1 hw => ⟨rfl, hw.sub (List.nil_sublist _)⟩
 ·exfalso; omega

set_option maxRecDepth 100000 in
theorem w_take {w : World} {A : Option Addr} {cap : Nat} (xs : List ByteArray) (hr : Rd w A 1 (xs.map strC)) (s : ByteArray) (hs : xs[xs.length - 1]? = some s) (hl : 1 ≤ xs.length) (hcap : xs.length ≤ cap) (hm : xs.length ≤ 281474976710656) :
    Calls Tryz.prog 47 #[.slice A xs.length cap] w (fun e w' => e = .returned (.tuple #[.string s, .slice A (xs.length - 1) cap, .bool true]) ∧ SL w [] w' []) := by
 have hA : ∃ b j, A = some ⟨b, j, none⟩ := hr.some (k := 0) (by simp; omega)
 refine calls_of_CX (O := []) (L := []) (args := [.slice A xs.length cap]) Tryz.func47 rfl (by simp [Tryz.ntmps47]) (SL.refl w) ?_
 refine CX.sub (V' := [(0, .slice A xs.length cap)]) ⟨rfl, trivial⟩ ?_
 refine CX.seq ?_
 refine CX.region ?_
 refine RX.cons rfl rfl (op_w (yw_assign rfl rfl) rfl rfl ?_)
 refine RX.cons rfl rfl (op_w (yw_assign rfl rfl) rfl rfl ?_)
 refine RX.cons rfl rfl (op_w (yw_assign rfl rfl) rfl rfl ?_)
 refine RX.nil (XX.next (V' := [(0, _)]) ⟨rfl, trivial⟩ ?_)
 refine CX.seq ?_
 refine CX.seq ?_
 refine CX.region ?_
 refine RX.cons rfl rfl (op_w (yw_move rfl rfl) rfl rfl ?_)
 refine RX.cons rfl rfl (op_w (yw_lenS rfl Tryz.underlying26 rfl) rfl rfl ?_)
 refine RX.cons rfl rfl (op_w (yw_eql rfl rfl rfl) rfl rfl ?_)
 refine RX.nil (XX.next (V' := [(0, _), (8, _)]) ⟨rfl, rfl, trivial⟩ ?_)
 refine CX.condD (p := ((xs.length : Nat) : Int) = 0) rfl (fun c8 => ?_) (fun c8 => ?_)
 ·exfalso; omega
 ·refine CX.skip (XX.next (V' := [(0, _)]) ⟨rfl, trivial⟩ ?_)
  refine CX.seq ?_
  refine CX.region ?_
  refine RX.cons rfl rfl (op_w (yw_move rfl rfl) rfl rfl ?_)
  refine RX.cons rfl rfl (op_w (yw_lenS rfl Tryz.underlying26 rfl) rfl rfl ?_)
  refine RX.cons rfl rfl (op_w (yw_sub rfl rfl rfl (by omega) (by omega)) rfl rfl ?_)
  refine RX.know (t := 11) (u := .int .i64 ((xs.length - 1 : Nat) : Int)) rfl (congrArg (Value.int .i64) (by omega)) ?_
  refine RX.cons rfl rfl (op_w (yw_assign rfl rfl) rfl rfl ?_)
  refine RX.nil (XX.next (V' := [(0, _), (5, _)]) ⟨rfl, rfl, trivial⟩ ?_)
  refine CX.seq ?_
  refine CX.draw 10 [(0, 1, 4096), (0, 32, 8192), (3, 12288, 16384), (4, 16384, 32768), (0, 1, 65536), (0, 32, 131072), (48, 196608, 262144), (15, 32768, 4), (255, 262144, 8), (511, 0, 16)] (by kernel_rfl) (by kernel_rfl) (by kernel_rfl) ?_
  refine DX.takeW 0 1 (by kernel_rfl) rfl rfl rfl rfl rfl (yw_move rfl rfl) ?_
  refine DX.takeW 1 3 (by kernel_rfl) rfl rfl rfl rfl rfl (yw_move rfl rfl) ?_
  refine DX.takeW 2 7 (by kernel_rfl) rfl rfl rfl rfl rfl (yw_index (k := (xs.length - 1)) rfl slt_26 rfl rfl (by omega) (by omega) hA) ?_
  refine DX.take 3 15 (by kernel_rfl) rfl rfl rfl rfl rfl (List.nil_sublist _) (y_elem1 rfl rfl one_9 hr (by simp) (map_get hs)) ?_
  refine DX.takeW 4 31 (by kernel_rfl) rfl rfl rfl rfl rfl (yw_move rfl rfl) ?_
  refine DX.takeW 5 63 (by kernel_rfl) rfl rfl rfl rfl rfl (yw_move rfl rfl) ?_
  refine DX.takeW 6 127 (by kernel_rfl) rfl rfl rfl rfl rfl (yw_sliceTo (k := (xs.length - 1)) rfl slt_26 rfl rfl (by omega) (by omega)) ?_
  refine DX.takeW 7 255 (by kernel_rfl) rfl rfl rfl rfl rfl (yw_assign rfl rfl) ?_
  refine DX.takeW 8 511 (by kernel_rfl) rfl rfl rfl rfl rfl (yw_assign rfl rfl) ?_
  refine DX.takeW 9 1023 (by kernel_rfl) rfl rfl rfl rfl rfl (yw_assign rfl rfl) ?_
  refine DX.done (by kernel_rfl) (XX.next (V' := [(2, .string s), (3, .slice A (xs.length - 1) cap), (4, .bool true)]) ⟨rfl, rfl, rfl, trivial⟩ ?_)
  refine CX.ret ?_
  exact ret_tmp3 rfl rfl rfl rfl fun w1 hw => ⟨rfl, hw.sub (List.nil_sublist _)⟩

set_option maxRecDepth 100000 in
theorem w_backS {w : World} (A : Option Addr) (n c : Nat) :
    Calls Tryz.prog 44 #[.slice A n c] w (fun e w' => ∃ z : Nat, True ∧ e = .returned (.func (.func 73) #[] #[.pointer (some ⟨z, 0, none⟩)]) ∧ SL w [] w' [.blk z (.cells #[.slice A n c] 26 (0, 0))]) := by
 refine calls_of_CX (O := []) (L := []) (args := [.slice A n c]) Tryz.func44 rfl (by simp [Tryz.ntmps44]) (SL.refl w) ?_
 refine CX.sub (V' := [(0, .slice A n c)]) ⟨rfl, trivial⟩ ?_
 refine CX.seq ?_
 refine CX.region ?_
 refine RX.cons rfl rfl (op_box rfl rfl rfl rfl fun gm => ?_)
 refine RX.cons rfl rfl (op_w (yw_assign rfl rfl) rfl rfl ?_)
 refine RX.nil (XX.next (V' := [(1, _)]) ⟨rfl, trivial⟩ ?_)
 refine CX.seq ?_
 refine CX.region ?_
 refine RX.cons rfl rfl (op_w (yw_makeFunc rfl rfl rfl) rfl rfl ?_)
 refine RX.cons rfl rfl (op_w (yw_assign rfl rfl) rfl rfl ?_)
 refine RX.nil (XX.next (V' := [(2, .func (.func 73) #[] #[.pointer (some ⟨gm, 0, none⟩)])]) ⟨rfl, trivial⟩ ?_)
 refine CX.ret ?_
 exact ret_tmp rfl rfl fun w1 hw => ⟨gm, trivial, rfl, hw⟩

set_option maxRecDepth 100000 in
theorem w_backS1 {w : World} {l Dk : Nat} {rec : Loop} {σ : Type} {St : σ → List Ent} {Rl : σ → List Value → σ → Prop} {ok : List Value → Prop} (s0 : σ) (hy : YieldG Tryz.prog w ((RB l Dk rec ++ St s0).flatMap Ent.blocks) l Dk rec St Rl ok) {A : Option Addr} {cap g1 : Nat} (xs : List ByteArray) (hr : Rd w A 1 (xs.map strC)) (hAO : ab A ∉ ((RB l Dk rec ++ St s0).flatMap Ent.blocks)) (h1 : w.cell? ⟨g1, 0, none⟩ = some (.slice A xs.length cap)) (hO1 : g1 ∉ ((RB l Dk rec ++ St s0).flatMap Ent.blocks)) (hl : xs.length ≤ 281474976710656) (hok : ∀ q, q < xs.length → ok (backI strV xs q)) (hs : SL w ((RB l Dk rec ++ St s0).flatMap Ent.blocks) w (RB l Dk rec ++ St s0)) :
    Calls Tryz.prog 73 #[.func (.yield l) #[] #[], .pointer (some ⟨g1, 0, none⟩)] w (fun e w' => ∃ s', Steps Rl s0 ((List.range xs.length).map (backI strV xs)) s' ∧ e = .returned (.tuple #[]) ∧ SL w ((RB l Dk rec ++ St s0).flatMap Ent.blocks) w' (RB l Dk rec ++ St s')) := by
 refine calls_of_CX (O := ((RB l Dk rec ++ St s0).flatMap Ent.blocks)) (L := ([.blk l (.loop rec), .blk Dk (.deferred (some []))] ++ (St s0))) (args := [.func (.yield l) #[] #[], .pointer (some ⟨g1, 0, none⟩)]) Tryz.func73 rfl (by simp [Tryz.ntmps73]) hs ?_
 refine CX.sub (V' := [(0, .func (.yield l) #[] #[]), (1, .pointer (some ⟨g1, 0, none⟩))]) ⟨rfl, rfl, trivial⟩ ?_
 refine CX.seq ?_
 refine CX.region ?_
 refine RX.cons rfl rfl (op_yld (y_loadG (v := .slice A xs.length cap) rfl rfl one_26 h1 hO1) rfl rfl ?_)
 refine RX.cons rfl rfl (op_w (yw_lenS rfl Tryz.underlying26 rfl) rfl rfl ?_)
 refine RX.cons rfl rfl (op_w (yw_sub rfl rfl rfl (by omega) (by omega)) rfl rfl ?_)
 refine RX.know (t := 6) (u := .int .i64 (((xs.length : Nat) : Int) - 1 - ((0 : Nat) : Int))) rfl (congrArg (Value.int .i64) (by omega)) ?_
 refine RX.cons rfl rfl (op_w (yw_assign rfl rfl) rfl rfl ?_)
 refine RX.nil (XX.next (V' := [(0, _), (1, _), (3, _)]) ⟨rfl, rfl, rfl, trivial⟩ ?_)
 refine CX.block ?_
 refine CX.loop (σ := Nat × σ) (fun z => [(0, .func (.yield l) #[] #[]), (1, .pointer (some ⟨g1, 0, none⟩)), (3, .int .i64 (((xs.length : Nat) : Int) - 1 - ((z.1 : Nat) : Int)))]) (fun z => ([.blk l (.loop rec), .blk Dk (.deferred (some []))] ++ (St z.2))) (fun z => z.1 ≤ xs.length ∧ Steps Rl s0 ((List.range z.1).map (backI strV xs)) z.2) (fun z => xs.length - z.1) (0, s0) ⟨Nat.zero_le _, .nil s0⟩ ⟨rfl, rfl, rfl, trivial⟩ rfl (fun z hI => ?_)
 obtain ⟨q, s⟩ := z
 dsimp only at hI ⊢
 obtain ⟨hq, hst⟩ := hI
 refine CX.seq ?_
 refine CX.seq ?_
 refine CX.region ?_
 refine RX.cons rfl rfl (op_w (yw_move rfl rfl) rfl rfl ?_)
 refine RX.cons rfl rfl (op_w (yw_geq rfl rfl rfl) rfl rfl ?_)
 refine RX.nil (XX.next (V' := [(0, _), (1, _), (3, _), (8, _)]) ⟨rfl, rfl, rfl, rfl, trivial⟩ ?_)
 refine CX.condD (p := 0 ≤ ((xs.length : Nat) : Int) - 1 - ((q : Nat) : Int)) rfl (fun c8 => ?_) (fun c8 => ?_)
 ·obtain ⟨a0, ha0⟩ := get_some (l := xs) (k := xs.length - 1 - q) (by omega)
  have hA : ∃ b j, A = some ⟨b, j, none⟩ := hr.some (k := 0) (by simp; omega)
  have hbi : backI strV xs q = [.int .i64 ((xs.length - 1 - q : Nat) : Int), .string a0] := by simp [backI, ha0, strV]
  refine CX.skip (XX.next (V' := [(0, _), (1, _), (3, _)]) ⟨rfl, rfl, rfl, trivial⟩ ?_)
  refine CX.seq ?_
  refine CX.block ?_
  refine CX.seq ?_
  refine CX.region ?_
  refine RX.cons rfl rfl (op_w (yw_move rfl rfl) rfl rfl ?_)
  refine RX.cons rfl rfl (op_w (yw_move rfl rfl) rfl rfl ?_)
  refine RX.know (t := 12) (u := .int .i64 ((xs.length - 1 - q : Nat) : Int)) rfl (congrArg (Value.int .i64) (by omega)) ?_
  refine RX.cons rfl rfl (op_yld (y_loadG (v := .slice A xs.length cap) rfl rfl one_26 h1 hO1) rfl rfl ?_)
  refine RX.cons rfl rfl (op_w (yw_move rfl rfl) rfl rfl ?_)
  refine RX.know (t := 14) (u := .int .i64 ((xs.length - 1 - q : Nat) : Int)) rfl (congrArg (Value.int .i64) (by omega)) ?_
  refine RX.cons rfl rfl (op_w (yw_index (k := (xs.length - 1 - q)) rfl slt_26 rfl rfl (by omega) (by omega) hA) rfl rfl ?_)
  refine RX.cons rfl rfl (op_yld (y_elem1 rfl rfl one_9 hr hAO (map_get ha0)) rfl rfl ?_)
  refine RX.cons rfl rfl (op_yieldG s hy rfl rfl rfl rfl rfl (by have := hok q (by omega); rw [hbi] at this; exact this) rfl (fun s' hs' => ?_))
  refine RX.cons rfl rfl (op_w (yw_not rfl rfl) rfl rfl ?_)
  refine RX.nil (XX.next (V' := [(0, _), (1, _), (3, _), (18, _)]) ⟨rfl, rfl, rfl, rfl, trivial⟩ ?_)
  refine CX.condF rfl ?_
  refine CX.skip (XX.inBlock (V' := [(0, _), (1, _), (3, _)]) ⟨rfl, rfl, rfl, trivial⟩ ?_)
  refine XX.next (V' := [(0, _), (1, _), (3, _)]) ⟨rfl, rfl, rfl, trivial⟩ ?_
  refine CX.region ?_
  refine RX.cons rfl rfl (op_w (yw_move rfl rfl) rfl rfl ?_)
  refine RX.cons rfl rfl (op_w (yw_sub rfl rfl rfl (by omega) (by omega)) rfl rfl ?_)
  refine RX.know (t := 10) (u := .int .i64 (((xs.length : Nat) : Int) - 1 - (((q + 1 : Nat)) : Int))) rfl (congrArg (Value.int .i64) (by omega)) ?_
  refine RX.cons rfl rfl (op_w (yw_assign rfl rfl) rfl rfl ?_)
  refine RX.nil (XX.againP ([]) (q + 1, s') (by dsimp only; omega) ⟨by dsimp only; omega, by dsimp only; rw [List.range_succ, List.map_append]; refine .snoc hst ?_; rw [hbi]; exact hs'⟩ ⟨rfl, rfl, rfl, trivial⟩ (perm_nil _))
 ·refine CX.exit ?_
  refine XX.then_exit ?_
  refine XX.then_exit ?_
  refine XX.block_exit ?_
  exact end_none rfl fun w1 hw => ⟨s, (show xs.length = q from by omega) ▸ hst, rfl, hw⟩

set_option maxRecDepth 100000 in
theorem w_backD {w : World} (A : Option Addr) (n c : Nat) :
    Calls Tryz.prog 49 #[.slice A n c] w (fun e w' => ∃ z : Nat, True ∧ e = .returned (.func (.func 77) #[] #[.pointer (some ⟨z, 0, none⟩)]) ∧ SL w [] w' [.blk z (.cells #[.slice A n c] 80 (0, 0))]) := by
 refine calls_of_CX (O := []) (L := []) (args := [.slice A n c]) Tryz.func49 rfl (by simp [Tryz.ntmps49]) (SL.refl w) ?_
 refine CX.sub (V' := [(0, .slice A n c)]) ⟨rfl, trivial⟩ ?_
 refine CX.seq ?_
 refine CX.region ?_
 refine RX.cons rfl rfl (op_box rfl rfl rfl rfl fun gm => ?_)
 refine RX.cons rfl rfl (op_w (yw_assign rfl rfl) rfl rfl ?_)
 refine RX.nil (XX.next (V' := [(1, _)]) ⟨rfl, trivial⟩ ?_)
 refine CX.seq ?_
 refine CX.region ?_
 refine RX.cons rfl rfl (op_w (yw_makeFunc rfl rfl rfl) rfl rfl ?_)
 refine RX.cons rfl rfl (op_w (yw_assign rfl rfl) rfl rfl ?_)
 refine RX.nil (XX.next (V' := [(2, .func (.func 77) #[] #[.pointer (some ⟨gm, 0, none⟩)])]) ⟨rfl, trivial⟩ ?_)
 refine CX.ret ?_
 exact ret_tmp rfl rfl fun w1 hw => ⟨gm, trivial, rfl, hw⟩

set_option maxRecDepth 100000 in
theorem w_backD1 {w : World} {l Dk : Nat} {rec : Loop} {σ : Type} {St : σ → List Ent} {Rl : σ → List Value → σ → Prop} {ok : List Value → Prop} (s0 : σ) (hy : YieldG Tryz.prog w ((RB l Dk rec ++ St s0).flatMap Ent.blocks) l Dk rec St Rl ok) {A : Option Addr} {cap g1 : Nat} (xs : List (ByteArray × Bool)) (hr : Rd w A 2 (xs.map sideC)) (hAO : ab A ∉ ((RB l Dk rec ++ St s0).flatMap Ent.blocks)) (h1 : w.cell? ⟨g1, 0, none⟩ = some (.slice A xs.length cap)) (hO1 : g1 ∉ ((RB l Dk rec ++ St s0).flatMap Ent.blocks)) (hl : xs.length ≤ 281474976710656) (hok : ∀ q, q < xs.length → ok (backI sideV xs q)) (hs : SL w ((RB l Dk rec ++ St s0).flatMap Ent.blocks) w (RB l Dk rec ++ St s0)) :
    Calls Tryz.prog 77 #[.func (.yield l) #[] #[], .pointer (some ⟨g1, 0, none⟩)] w (fun e w' => ∃ s', Steps Rl s0 ((List.range xs.length).map (backI sideV xs)) s' ∧ e = .returned (.tuple #[]) ∧ SL w ((RB l Dk rec ++ St s0).flatMap Ent.blocks) w' (RB l Dk rec ++ St s')) := by
 refine calls_of_CX (O := ((RB l Dk rec ++ St s0).flatMap Ent.blocks)) (L := ([.blk l (.loop rec), .blk Dk (.deferred (some []))] ++ (St s0))) (args := [.func (.yield l) #[] #[], .pointer (some ⟨g1, 0, none⟩)]) Tryz.func77 rfl (by simp [Tryz.ntmps77]) hs ?_
 refine CX.sub (V' := [(0, .func (.yield l) #[] #[]), (1, .pointer (some ⟨g1, 0, none⟩))]) ⟨rfl, rfl, trivial⟩ ?_
 refine CX.seq ?_
 refine CX.region ?_
 refine RX.cons rfl rfl (op_yld (y_loadG (v := .slice A xs.length cap) rfl rfl one_80 h1 hO1) rfl rfl ?_)
 refine RX.cons rfl rfl (op_w (yw_lenS rfl Tryz.underlying80 rfl) rfl rfl ?_)
 refine RX.cons rfl rfl (op_w (yw_sub rfl rfl rfl (by omega) (by omega)) rfl rfl ?_)
 refine RX.know (t := 6) (u := .int .i64 (((xs.length : Nat) : Int) - 1 - ((0 : Nat) : Int))) rfl (congrArg (Value.int .i64) (by omega)) ?_
 refine RX.cons rfl rfl (op_w (yw_assign rfl rfl) rfl rfl ?_)
 refine RX.nil (XX.next (V' := [(0, _), (1, _), (3, _)]) ⟨rfl, rfl, rfl, trivial⟩ ?_)
 refine CX.block ?_
 refine CX.loop (σ := Nat × σ) (fun z => [(0, .func (.yield l) #[] #[]), (1, .pointer (some ⟨g1, 0, none⟩)), (3, .int .i64 (((xs.length : Nat) : Int) - 1 - ((z.1 : Nat) : Int)))]) (fun z => ([.blk l (.loop rec), .blk Dk (.deferred (some []))] ++ (St z.2))) (fun z => z.1 ≤ xs.length ∧ Steps Rl s0 ((List.range z.1).map (backI sideV xs)) z.2) (fun z => xs.length - z.1) (0, s0) ⟨Nat.zero_le _, .nil s0⟩ ⟨rfl, rfl, rfl, trivial⟩ rfl (fun z hI => ?_)
 obtain ⟨q, s⟩ := z
 dsimp only at hI ⊢
 obtain ⟨hq, hst⟩ := hI
 refine CX.seq ?_
 refine CX.seq ?_
 refine CX.region ?_
 refine RX.cons rfl rfl (op_w (yw_move rfl rfl) rfl rfl ?_)
 refine RX.cons rfl rfl (op_w (yw_geq rfl rfl rfl) rfl rfl ?_)
 refine RX.nil (XX.next (V' := [(0, _), (1, _), (3, _), (8, _)]) ⟨rfl, rfl, rfl, rfl, trivial⟩ ?_)
 refine CX.condD (p := 0 ≤ ((xs.length : Nat) : Int) - 1 - ((q : Nat) : Int)) rfl (fun c8 => ?_) (fun c8 => ?_)
 ·obtain ⟨a0, ha0⟩ := get_some (l := xs) (k := xs.length - 1 - q) (by omega)
  have hA : ∃ b j, A = some ⟨b, j, none⟩ := hr.some (k := 0) (by simp; omega)
  have hbi : backI sideV xs q = [.int .i64 ((xs.length - 1 - q : Nat) : Int), .agg (sideC a0)] := by simp [backI, ha0, sideV]
  refine CX.skip (XX.next (V' := [(0, _), (1, _), (3, _)]) ⟨rfl, rfl, rfl, trivial⟩ ?_)
  refine CX.seq ?_
  refine CX.block ?_
  refine CX.seq ?_
  refine CX.region ?_
  refine RX.cons rfl rfl (op_w (yw_move rfl rfl) rfl rfl ?_)
  refine RX.cons rfl rfl (op_w (yw_move rfl rfl) rfl rfl ?_)
  refine RX.know (t := 12) (u := .int .i64 ((xs.length - 1 - q : Nat) : Int)) rfl (congrArg (Value.int .i64) (by omega)) ?_
  refine RX.cons rfl rfl (op_yld (y_loadG (v := .slice A xs.length cap) rfl rfl one_80 h1 hO1) rfl rfl ?_)
  refine RX.cons rfl rfl (op_w (yw_move rfl rfl) rfl rfl ?_)
  refine RX.know (t := 14) (u := .int .i64 ((xs.length - 1 - q : Nat) : Int)) rfl (congrArg (Value.int .i64) (by omega)) ?_
  refine RX.cons rfl rfl (op_w (yw_index (k := (xs.length - 1 - q)) rfl slt_80 rfl rfl (by omega) (by omega) hA) rfl rfl ?_)
  refine RX.cons rfl rfl (op_yld (y_elem rfl rfl agg_85 hr hAO (map_get ha0)) rfl rfl ?_)
  refine RX.cons rfl rfl (op_yieldG s hy rfl rfl rfl rfl rfl (by have := hok q (by omega); rw [hbi] at this; exact this) rfl (fun s' hs' => ?_))
  refine RX.cons rfl rfl (op_w (yw_not rfl rfl) rfl rfl ?_)
  refine RX.nil (XX.next (V' := [(0, _), (1, _), (3, _), (18, _)]) ⟨rfl, rfl, rfl, rfl, trivial⟩ ?_)
  refine CX.condF rfl ?_
  refine CX.skip (XX.inBlock (V' := [(0, _), (1, _), (3, _)]) ⟨rfl, rfl, rfl, trivial⟩ ?_)
  refine XX.next (V' := [(0, _), (1, _), (3, _)]) ⟨rfl, rfl, rfl, trivial⟩ ?_
  refine CX.region ?_
  refine RX.cons rfl rfl (op_w (yw_move rfl rfl) rfl rfl ?_)
  refine RX.cons rfl rfl (op_w (yw_sub rfl rfl rfl (by omega) (by omega)) rfl rfl ?_)
  refine RX.know (t := 10) (u := .int .i64 (((xs.length : Nat) : Int) - 1 - (((q + 1 : Nat)) : Int))) rfl (congrArg (Value.int .i64) (by omega)) ?_
  refine RX.cons rfl rfl (op_w (yw_assign rfl rfl) rfl rfl ?_)
  refine RX.nil (XX.againP ([]) (q + 1, s') (by dsimp only; omega) ⟨by dsimp only; omega, by dsimp only; rw [List.range_succ, List.map_append]; refine .snoc hst ?_; rw [hbi]; exact hs'⟩ ⟨rfl, rfl, rfl, trivial⟩ (perm_nil _))
 ·refine CX.exit ?_
  refine XX.then_exit ?_
  refine XX.then_exit ?_
  refine XX.block_exit ?_
  exact end_none rfl fun w1 hw => ⟨s, (show xs.length = q from by omega) ▸ hst, rfl, hw⟩

end Go.Proofs.YtnadipjlhlbfoaaGreatDoor
namespace Go.Proofs.YtnadipjlhlbfoaaGreatDoor
set_option linter.all false
open Go Go.RowKit
set_option maxRecDepth 100000
theorem fld_85_1 : Fld Tryz.prog 85 1 1 := ⟨_, _, (Tryz.prog.info? 4).get!, Tryz.underlying85, rfl, rfl, by kernel_rfl, by decide +kernel⟩
theorem one_4 : One Tryz.prog 4 := ⟨_, Tryz.underlying4, rfl⟩
theorem fld_85_0 : Fld Tryz.prog 85 0 0 := ⟨_, _, (Tryz.prog.info? 9).get!, Tryz.underlying85, rfl, rfl, by kernel_rfl, by decide +kernel⟩
theorem ent_42 : ∀ args w, (callFunc 42 args).run Tryz.prog w = .ok (.enter 42 args) w := enters_of Tryz.func42 (by kernel_rfl) rfl
theorem szt_9 : SzT Tryz.prog 9 1 := ⟨(Tryz.prog.info? 9).get!, by kernel_rfl, by kernel_rfl⟩
set_option maxRecDepth 100000 in
theorem w_joinS {w : World} (r p : ByteArray) (f : Bool) (hG : Rounds w) (hr : r.size ≤ 4294967296) (hp : p.size ≤ 4294967296) :
    Calls Tryz.prog 50 #[.agg (sideC (r, f)), .string p] w (fun e w' => e = .returned (.string (joinS sum (r, f) p)) ∧ SL w [] w' []) := by
 refine calls_of_CX (O := []) (L := []) (args := [.agg (sideC (r, f)), .string p]) Tryz.func50 rfl (by simp [Tryz.ntmps50]) (SL.refl w) ?_
 refine CX.sub (V' := [(0, .agg (sideC (r, f))), (1, .string p)]) ⟨rfl, rfl, trivial⟩ ?_
 refine CX.seq ?_
 refine CX.region ?_
 refine RX.cons rfl rfl (op_box rfl rfl rfl rfl fun g1 => ?_)
 refine RX.cons rfl rfl (op_w (yw_assign rfl rfl) rfl rfl ?_)
 refine RX.nil (XX.next (V' := [(1, _), (2, _)]) ⟨rfl, rfl, trivial⟩ ?_)
 refine CX.seq ?_
 refine CX.seq ?_
 refine CX.region ?_
 refine RX.cons rfl rfl (op_w (yw_fieldAddr rfl fld_85_1 rfl) rfl rfl ?_)
 refine RX.cons rfl rfl (op_yld (y_load (i := 0) rfl rfl one_4 rfl rfl) rfl rfl ?_)
 refine RX.nil (XX.next (V' := [(1, _), (2, _), (6, _)]) ⟨rfl, rfl, rfl, trivial⟩ ?_)
 refine CX.cond (b := f) rfl (fun c6 => ?_) (fun c6 => ?_)
 ·refine CX.seq ?_
  refine CX.region ?_
  refine RX.cons rfl rfl (op_w (yw_field0 rfl fld_85_0 rfl) rfl rfl ?_)
  refine RX.cons rfl rfl (op_yld (y_load (i := 0) rfl rfl one_9 rfl rfl) rfl rfl ?_)
  refine RX.cons rfl rfl (op_w (yw_move rfl rfl) rfl rfl ?_)
  refine RX.cons rfl rfl (op_callV (v := .string (nodeH sum r p)) rfl rfl rfl rfl rfl ent_42 (fun w hw => w_node r p (hG.keep hw (by simp)) (by omega)) ?_)
  refine RX.cons rfl rfl (op_w (yw_assign rfl rfl) rfl rfl ?_)
  refine RX.nil (XX.next (V' := [(4, .string (nodeH sum r p))]) ⟨rfl, trivial⟩ ?_)
  refine CX.ret ?_
  refine XX.then_ret ?_
  exact ret_tmp rfl rfl fun w1 hw => ⟨by rw [joinS]; simp [c6], hw.sub (List.nil_sublist _)⟩
 ·refine CX.skip (XX.next (V' := [(1, _), (2, _)]) ⟨rfl, rfl, trivial⟩ ?_)
  refine CX.seq ?_
  refine CX.region ?_
  refine RX.cons rfl rfl (op_w (yw_move rfl rfl) rfl rfl ?_)
  refine RX.cons rfl rfl (op_w (yw_field0 rfl fld_85_0 rfl) rfl rfl ?_)
  refine RX.cons rfl rfl (op_yld (y_load (i := 0) rfl rfl one_9 rfl rfl) rfl rfl ?_)
  refine RX.cons rfl rfl (op_callV (v := .string (nodeH sum p r)) rfl rfl rfl rfl rfl ent_42 (fun w hw => w_node p r (hG.keep hw (by simp)) (by omega)) ?_)
  refine RX.cons rfl rfl (op_w (yw_assign rfl rfl) rfl rfl ?_)
  refine RX.nil (XX.next (V' := [(4, .string (nodeH sum p r))]) ⟨rfl, trivial⟩ ?_)
  refine CX.ret ?_
  exact ret_tmp rfl rfl fun w1 hw => ⟨by rw [joinS]; simp [c6], hw.sub (List.nil_sublist _)⟩

set_option maxRecDepth 100000 in
theorem w_reverse {w : World} {A : Option Addr} {cap : Nat} (xs : List ByteArray) (hl : xs.length ≤ 281474976710656) (hs : SL w ((A.map Addr.block).toList ++ []) w [.row A cap 9 1 (List.map strC xs)]) :
    Calls Tryz.prog 65 #[.slice A (List.length (xs : List ByteArray)) cap] w (fun e w' => e = .returned (.tuple #[]) ∧ SL w ((A.map Addr.block).toList ++ []) w' [.row A cap 9 1 (List.map strC xs.reverse)]) := by
 refine calls_of_CX (O := ((A.map Addr.block).toList ++ [])) (L := [.row A cap 9 1 (List.map strC xs)]) (args := [.slice A (List.length (xs : List ByteArray)) cap]) Tryz.func65 rfl (by simp [Tryz.ntmps65]) hs ?_
 refine CX.sub (V' := [(0, .slice A (List.length (xs : List ByteArray)) cap)]) ⟨rfl, trivial⟩ ?_
 refine CX.seq ?_
 refine CX.region ?_
 refine RX.cons rfl rfl (op_w (yw_move rfl rfl) rfl rfl ?_)
 refine RX.cons rfl rfl (op_w (yw_lenS rfl Tryz.underlying26 rfl) rfl rfl ?_)
 refine RX.cons rfl rfl (op_w (yw_sub rfl rfl rfl (by omega) (by omega)) rfl rfl ?_)
 refine RX.know (t := 6) (u := .int .i64 (((xs.length : Nat) : Int) - 1 - ((0 : Nat) : Int))) rfl (congrArg (Value.int .i64) (by omega)) ?_
 refine RX.cons rfl rfl (op_w (yw_assign rfl rfl) rfl rfl ?_)
 refine RX.cons rfl rfl (op_w (yw_assign rfl rfl) rfl rfl ?_)
 refine RX.nil (XX.next (V' := [(0, _), (2, _), (3, _)]) ⟨rfl, rfl, rfl, trivial⟩ ?_)
 refine CX.block ?_
 refine CX.loop (σ := Nat × List ByteArray) (fun z => [(0, .slice A (List.length (xs : List ByteArray)) cap), (2, .int .i64 ((z.1 : Nat) : Int)), (3, .int .i64 (((xs.length : Nat) : Int) - 1 - ((z.1 : Nat) : Int)))]) (fun z => [.row A cap 9 1 (List.map strC z.2)]) (fun z => RevAt xs z.2 z.1 ∧ z.1 ≤ xs.length) (fun z => xs.length - z.1) (0, xs) ⟨RevAt.zero xs, Nat.zero_le _⟩ ⟨rfl, rfl, rfl, trivial⟩ rfl (fun z hI => ?_)
 obtain ⟨k, ys⟩ := z
 dsimp only at hI ⊢
 obtain ⟨hR, hk⟩ := hI
 have hyl : ys.length = xs.length := hR.1
 refine CX.seq ?_
 refine CX.seq ?_
 refine CX.region ?_
 refine RX.cons rfl rfl (op_w (yw_move rfl rfl) rfl rfl ?_)
 refine RX.cons rfl rfl (op_w (yw_move rfl rfl) rfl rfl ?_)
 refine RX.cons rfl rfl (op_w (yw_lss rfl rfl rfl) rfl rfl ?_)
 refine RX.nil (XX.next (V' := [(0, _), (2, _), (3, _), (9, _)]) ⟨rfl, rfl, rfl, rfl, trivial⟩ ?_)
 refine CX.condD (p := ((k : Nat) : Int) < ((xs.length : Nat) : Int) - 1 - ((k : Nat) : Int)) rfl (fun c9 => ?_) (fun c9 => ?_)
 ·obtain ⟨s0, hs0⟩ := get_some (l := ys) (k := k) (by omega)
  obtain ⟨s1, hs1⟩ := get_some (l := ys) (k := xs.length - 1 - k) (by omega)
  refine CX.rowSome 0 rfl (by simp; omega) (fun hA => ?_)
  refine CX.skip (XX.next (V' := [(0, _), (2, _), (3, _)]) ⟨rfl, rfl, rfl, trivial⟩ ?_)
  refine CX.seq ?_
  refine CX.block ?_
  refine CX.draw 13 [(0, 1, 16384), (0, 4, 32768), (0, 1, 65536), (0, 8, 131072), (0, 1, 262144), (0, 8, 524288), (48, 786432, 1048576), (64, 1048576, 2097152), (0, 1, 4194304), (0, 4, 8388608), (768, 12582912, 16777216), (1024, 16777216, 33554432), (2291, 49152, 67108864), (6387, 69206016, 0), (16383, 196608, 134217728), (32767, 167772160, 0)] (by kernel_rfl) (by kernel_rfl) (by kernel_rfl) ?_
  refine DX.takeW 0 1 (by kernel_rfl) rfl rfl rfl rfl rfl (yw_move rfl rfl) ?_
  refine DX.takeW 1 3 (by kernel_rfl) rfl rfl rfl rfl rfl (yw_move rfl rfl) ?_
  refine DX.takeW 2 7 (by kernel_rfl) rfl rfl rfl rfl rfl (yw_move rfl rfl) ?_
  refine DX.takeW 3 15 (by kernel_rfl) rfl rfl rfl rfl rfl (yw_move rfl rfl) ?_
  refine DX.know (t := 17) (u := .int .i64 ((xs.length - 1 - k : Nat) : Int)) rfl (congrArg (Value.int .i64) (by omega)) ?_
  refine DX.takeW 4 31 (by kernel_rfl) rfl rfl rfl rfl rfl (yw_move rfl rfl) ?_
  refine DX.takeW 5 63 (by kernel_rfl) rfl rfl rfl rfl rfl (yw_move rfl rfl) ?_
  refine DX.know (t := 19) (u := .int .i64 ((xs.length - 1 - k : Nat) : Int)) rfl (congrArg (Value.int .i64) (by omega)) ?_
  refine DX.takeW 6 127 (by kernel_rfl) rfl rfl rfl rfl rfl (yw_index (k := (xs.length - 1 - k)) rfl slt_26 rfl rfl (by omega) (by omega) hA) ?_
  refine DX.take 7 255 (by kernel_rfl) rfl rfl rfl rfl rfl (List.Sublist.refl _) (y_rowElem1 (i := 0) rfl rfl one_9 rfl (map_get hs1)) ?_
  refine DX.takeW 8 511 (by kernel_rfl) rfl rfl rfl rfl rfl (yw_move rfl rfl) ?_
  refine DX.takeW 9 1023 (by kernel_rfl) rfl rfl rfl rfl rfl (yw_move rfl rfl) ?_
  refine DX.takeW 10 2047 (by kernel_rfl) rfl rfl rfl rfl rfl (yw_index (k := k) rfl slt_26 rfl rfl (by omega) (by omega) hA) ?_
  refine DX.take 11 4095 (by kernel_rfl) rfl rfl rfl rfl rfl (List.Sublist.refl _) (y_rowElem1 (i := 0) rfl rfl one_9 rfl (map_get hs0)) ?_
  refine DX.takeW 12 8191 (by kernel_rfl) rfl rfl rfl rfl rfl (yw_index (k := k) rfl slt_26 rfl rfl (by omega) (by omega) hA) ?_
  refine DX.stepT 13 16383 (by kernel_rfl) rfl rfl rfl rfl (op_storeElemE (i := 0) (k := k) (ys := (List.map strC (ys.set k s1))) rfl rfl rfl rfl szt_9 rfl (plain_of rfl) rfl (by simp; omega) (List.map_set ..).symm ?_)
  refine DX.takeW 14 32767 (by kernel_rfl) rfl rfl rfl rfl rfl (yw_index (k := (xs.length - 1 - k)) rfl slt_26 rfl rfl (by omega) (by omega) hA) ?_
  refine DX.stepT 15 65535 (by kernel_rfl) rfl rfl rfl rfl (op_storeElemE (i := 0) (k := (xs.length - 1 - k)) (ys := (List.map strC ((ys.set k s1).set (xs.length - 1 - k) s0))) rfl rfl rfl rfl szt_9 rfl (plain_of rfl) rfl (by simp; omega) (List.map_set ..).symm ?_)
  refine DX.done (by kernel_rfl) (XX.inBlock (V' := [(0, _), (2, _), (3, _)]) ⟨rfl, rfl, rfl, trivial⟩ ?_)
  refine XX.next (V' := [(0, _), (2, _), (3, _)]) ⟨rfl, rfl, rfl, trivial⟩ ?_
  refine CX.region ?_
  refine RX.cons rfl rfl (op_w (yw_move rfl rfl) rfl rfl ?_)
  refine RX.cons rfl rfl (op_w (yw_add rfl rfl rfl (by omega) (by omega)) rfl rfl ?_)
  refine RX.cons rfl rfl (op_w (yw_move rfl rfl) rfl rfl ?_)
  refine RX.cons rfl rfl (op_w (yw_sub rfl rfl rfl (by omega) (by omega)) rfl rfl ?_)
  refine RX.know (t := 13) (u := .int .i64 (((xs.length : Nat) : Int) - 1 - (((k + 1 : Nat)) : Int))) rfl (congrArg (Value.int .i64) (by omega)) ?_
  refine RX.cons rfl rfl (op_w (yw_assign rfl rfl) rfl rfl ?_)
  refine RX.cons rfl rfl (op_w (yw_assign rfl rfl) rfl rfl ?_)
  refine RX.nil (XX.againP ([]) (k + 1, (ys.set k s1).set (xs.length - 1 - k) s0) (by dsimp only; omega) ⟨hR.step (by omega) hs0 hs1, by dsimp only; omega⟩ ⟨rfl, rfl, rfl, trivial⟩ ((perm_pick 0 rfl).trans (List.Perm.cons _ (List.Perm.refl _))))
 ·refine CX.exit ?_
  refine XX.then_exit ?_
  refine XX.then_exit ?_
  refine XX.block_exit ?_
  exact end_none rfl fun w1 hw => ⟨rfl, by rw [← hR.done (by omega)]; exact hw⟩

set_option maxRecDepth 100000 in
theorem w_clone {w : World} {A : Option Addr} {cap : Nat} (xs : List ByteArray) (hr : Rd w A 1 (xs.map strC)) (hl : xs.length ≤ 1099511627776) :
    Calls Tryz.prog 36 #[.slice A xs.length cap] w (fun e w' => ∃ z : Option Addr × Nat, True ∧ e = .returned (.slice z.1 xs.length z.2) ∧ SL w [] w' [.row z.1 z.2 9 1 (List.map strC xs)]) := by
 refine calls_of_CX (O := []) (L := []) (args := [.slice A xs.length cap]) Tryz.func36 rfl (by simp [Tryz.ntmps36]) (SL.refl w) ?_
 refine CX.sub (V' := [(0, .slice A xs.length cap)]) ⟨rfl, trivial⟩ ?_
 refine CX.seq ?_
 refine CX.region ?_
 refine RX.cons rfl rfl (op_w (yw_assign rfl rfl) rfl rfl ?_)
 refine RX.nil (XX.next (V' := [(0, _)]) ⟨rfl, trivial⟩ ?_)
 refine CX.seq ?_
 refine CX.seq ?_
 refine CX.region ?_
 refine RX.cons rfl rfl (op_w (yw_move rfl rfl) rfl rfl ?_)
 refine RX.cons rfl rfl (op_w (yw_slnil rfl Tryz.underlying26 rfl rfl) rfl rfl ?_)
 refine RX.nil (XX.next (V' := [(0, _), (4, _)]) ⟨rfl, rfl, trivial⟩ ?_)
 refine CX.cond (b := Option.isNone A) rfl (fun c4 => ?_) (fun c4 => ?_)
 ·obtain rfl : xs = [] := hr.nil_of (by simpa using c4)
  refine CX.rowNil 9 1 ?_
  refine CX.seq ?_
  refine CX.region ?_
  refine RX.cons rfl rfl (op_w (yw_assign rfl rfl) rfl rfl ?_)
  refine RX.nil (XX.next (V' := [(2, .slice none 0 0)]) ⟨rfl, trivial⟩ ?_)
  refine CX.ret ?_
  refine XX.then_ret ?_
  exact ret_tmp rfl rfl fun w1 hw => ⟨(none, 0), trivial, rfl, hw⟩
 ·refine CX.skip (XX.next (V' := [(0, _)]) ⟨rfl, trivial⟩ ?_)
  refine CX.seq ?_
  refine CX.region ?_
  refine RX.cons rfl rfl (op_buildSlice rfl rfl rfl slb_26 rfl rfl (by intro v hv; simp at hv) (by decide) fun sr => ?_)
  refine RX.cons rfl rfl (op_w (yw_move rfl rfl) rfl rfl ?_)
  refine RX.cons rfl rfl (op_appendM0 strC (i := 0) (xs := []) xs rfl rfl rfl slb_26 rfl rfl rfl rfl hr (by simp) (by simp; omega) (by simp; omega) fun A1 c1 => ?_)
  refine RX.cons rfl rfl (op_w (yw_assign rfl rfl) rfl rfl ?_)
  refine RX.nil (XX.next (V' := [(2, .slice A1 (([] ++ xs).length) c1)]) ⟨rfl, trivial⟩ ?_)
  refine CX.ret ?_
  exact ret_tmp rfl rfl fun w1 hw => ⟨(A1, c1), trivial, rfl, hw⟩

end Go.Proofs.YtnadipjlhlbfoaaGreatDoor
namespace Go.Proofs.YtnadipjlhlbfoaaGreatDoor
set_option linter.all false
open Go Go.RowKit
abbrev intC (n : Nat) : Array Value := #[.int .i64 ((n : Nat) : Int)]
/-- Parts whose last one may be as long as the one before it. -/
def Stk (C : List (List B)) : Prop := ∃ P c, C = P ++ [c] ∧ Parts P ∧ Pow2 c.length ∧ ∀ d ∈ P, c.length ≤ d.length
theorem Stk.push {C : List (List B)} (h : Parts C) (s : B) : Stk (C ++ [[s]]) := ⟨C, [s], rfl, h, Pow2.one, fun d hd => (h.1 d hd).pos⟩
theorem Parts.nil : Parts [] := ⟨fun _ h => by simp at h, List.Pairwise.nil⟩
theorem Stk.done {C : List (List B)} (h : Stk C) (hn : ∀ d c, 2 ≤ C.length → C[C.length - 2]? = some d → C[C.length - 1]? = some c → d.length ≠ c.length) : Parts C := by
  obtain ⟨P, c, rfl, hP, hc, hd⟩ := h
  refine ⟨fun x hx => ?_, ?_⟩
  · rcases List.mem_append.1 hx with hx | hx
    · exact hP.1 x hx
    · simp at hx; rw [hx]; exact hc
  · rw [List.pairwise_append]
    refine ⟨hP.2, List.pairwise_singleton _ _, fun a ha b hb => ?_⟩
    simp at hb
    subst hb
    rcases List.eq_nil_or_concat P with rfl | ⟨Q, d, rfl⟩
    · simp at ha
    · rw [List.concat_eq_append] at hn hd ha hP
      have h1 := hn d b (by simp) (by rw [List.append_assoc]; simp) (by simp)
      have h2 := hd d (by simp)
      rcases List.mem_append.1 ha with ha | ha
      · have := (List.pairwise_append.1 hP.2).2.2 a ha d (by simp)
        omega
      · simp at ha; rw [ha]; omega
theorem Stk.merge (h : B → B) {C : List (List B)} (hs : Stk C) {d c : List B} (hl : 2 ≤ C.length) (h1 : C[C.length - 2]? = some d) (h2 : C[C.length - 1]? = some c) (he : d.length = c.length) :
    Stk (C.take (C.length - 2) ++ [d ++ c]) ∧ (C.take (C.length - 2) ++ [d ++ c]).flatten = C.flatten ∧ root h (d ++ c) = nodeH h (root h d) (root h c) := by
  obtain ⟨P, c', rfl, hP, hc, hd⟩ := hs
  rcases List.eq_nil_or_concat P with rfl | ⟨Q, d', rfl⟩
  · simp at hl
  · rw [List.concat_eq_append] at *
    have e1 : d = d' := by rw [List.append_assoc] at h1; simp at h1; exact h1.symm
    have e2 : c = c' := by simp at h2; exact h2.symm
    subst e1; subst e2
    have e3 : (Q ++ [d] ++ [c]).take ((Q ++ [d] ++ [c]).length - 2) = Q := by rw [List.append_assoc]; simp
    rw [e3]
    have hQ : Parts Q := ⟨fun x hx => hP.1 x (List.mem_append_left _ hx), (List.pairwise_append.1 hP.2).1⟩
    have hdp := hP.1 d (by simp)
    refine ⟨⟨Q, d ++ c, rfl, hQ, ?_, fun x hx => ?_⟩, by simp, ?_⟩
    · rw [List.length_append, ← he]; exact hdp.double
    · have := (hP.1 x (List.mem_append_left _ hx)).half_le hdp ((List.pairwise_append.1 hP.2).2.2 x hx d (by simp))
      rw [List.length_append]; omega
    · refine root_append h hdp.pos hc.pos ?_
      obtain ⟨k, hk⟩ := hdp
      rw [← he, hk]; exact lft_double k
theorem Stk.lens {C : List (List B)} {c : List B} (hm : c ∈ C) : c.length ≤ C.flatten.length := by
  induction C with
  | nil => simp at hm
  | cons x C ih =>
    simp only [List.flatten_cons, List.length_append]
    rcases List.mem_cons.1 hm with rfl | hm
    · omega
    · have := ih hm; omega
/-- Strings of 32 bytes. -/
abbrev D32 := { s : ByteArray // s.size = 32 }
theorem sum_root_size (l : List B) : (root sum l).size = 32 := root_size sum sum_size l
def nodeD (h : D32) (a : ByteArray) : D32 := ⟨nodeH sum a h.1, sum_size _⟩
theorem nodeD_fold (xs : List ByteArray) (s : D32) : (xs.foldr (fun a s => nodeD s a) s).1 = xs.foldr (fun r out => nodeH sum r out) s.1 := by
  induction xs with
  | nil => rfl
  | cons x xs ih => rw [List.foldr_cons, List.foldr_cons, ← ih]; rfl
theorem str_inj {i j : Int} {a b : ByteArray} (h : [Value.int .i64 i, .string a] = [.int .i64 j, .string b]) : a = b := by
  injection h with _ h
  injection h with h _
  injection h
theorem side_inj {i j : Int} {a b : ByteArray × Bool} (h : [Value.int .i64 i, .agg (sideC a)] = [.int .i64 j, .agg (sideC b)]) : a = b := by
  injection h with _ h
  injection h with h _
  injection h with h
  simp [sideC] at h
  exact Prod.ext h.1 h.2
theorem Parts.end {C : List (List B)} (hp : Parts C) (hn : C ≠ []) {c : List B} (hc : C[C.length - 1]? = some c) {ws : List ByteArray} (hw : ws = C.map (root sum)) : (ws.take (ws.length - 1)).foldr (fun r out => nodeH sum r out) (root sum c) = root sum C.flatten := by
  have h1 := Parts.fold sum hp hn
  have h2 : C.getLast?.getD [] = c := by rw [List.getLast?_eq_getElem?, hc]; rfl
  rw [h2] at h1
  rw [← h1, hw, List.length_map, ← List.map_take, List.dropLast_eq_take]
theorem flat_ge {C : List (List B)} (h : ∀ c ∈ C, 1 ≤ c.length) : C.length ≤ C.flatten.length := by
  induction C with
  | nil => simp
  | cons x C ih =>
    have h1 := h x List.mem_cons_self
    have h2 := ih (fun c hc => h c (List.mem_cons_of_mem _ hc))
    simp only [List.flatten_cons, List.length_append, List.length_cons]
    omega
theorem parts_le {C : List (List B)} (h : Parts C) : C.length ≤ C.flatten.length := flat_ge fun c hc => (h.1 c hc).pos
theorem stk_le {C : List (List B)} (h : Stk C) : C.length ≤ C.flatten.length := by
  obtain ⟨P, c, rfl, hP, hc, _⟩ := h
  refine flat_ge fun x hx => ?_
  rcases List.mem_append.1 hx with hx | hx
  · exact (hP.1 x hx).pos
  · simp at hx; rw [hx]; exact hc.pos
theorem stk_pos {C : List (List B)} (h : Stk C) : 1 ≤ C.length := by
  obtain ⟨P, c, rfl, _⟩ := h
  simp
end Go.Proofs.YtnadipjlhlbfoaaGreatDoor
namespace Go.Proofs.YtnadipjlhlbfoaaGreatDoor
set_option linter.all false
open Go Go.RowKit
set_option maxRecDepth 100000
theorem ent_41 : ∀ args w, (callFunc 41 args).run Tryz.prog w = .ok (.enter 41 args) w := enters_of Tryz.func41 (by kernel_rfl) rfl
theorem zero_9 : Zero Tryz.prog 9 (.string .empty) := ⟨(Tryz.prog.info? 9).get!, by kernel_rfl, by kernel_rfl⟩
theorem ent_44 : ∀ args w, (callFunc 44 args).run Tryz.prog w = .ok (.enter 44 args) w := enters_of Tryz.func44 (by kernel_rfl) rfl
theorem ent_73 : ∀ args w, (callFunc 73 args).run Tryz.prog w = .ok (.enter 73 args) w := enters_of Tryz.func73 (by kernel_rfl) rfl
set_option maxRecDepth 100000 in
theorem w_root {w : World} {A : Option Addr} {cap : Nat} (xs : List ByteArray) (hG : Rounds w) (hr : Rd w A 1 (xs.map strC)) (hl : xs.length ≤ 1099511627776) (hsz : ∀ s ∈ xs, s.size ≤ 4294967296) :
    Calls Tryz.prog 21 #[.slice A xs.length cap] w (fun e w' => e = .returned (.string (root sum xs)) ∧ SL w [] w' []) := by
 refine calls_of_CXM (O := []) (L := []) (args := [.slice A xs.length cap]) Tryz.func21 rfl (by simp [Tryz.ntmps21]) (SL.refl w) ?_
 refine CX.sub (V' := [(0, .slice A xs.length cap)]) ⟨rfl, trivial⟩ ?_
 refine CX.seq ?_
 refine CX.region ?_
 refine RX.cons rfl rfl (op_w (yw_assign rfl rfl) rfl rfl ?_)
 refine RX.nil (XX.next (V' := [(0, _), (2, .string .empty)]) ⟨rfl, rfl, trivial⟩ ?_)
 refine CX.seq ?_
 refine CX.region ?_
 refine RX.cons rfl rfl (op_w (yw_assign rfl rfl) rfl rfl ?_)
 refine RX.nil (XX.next (V' := [(0, _), (2, .string .empty), (3, _)]) ⟨rfl, rfl, rfl, trivial⟩ ?_)
 refine CX.seq ?_
 refine CX.region ?_
 refine RX.cons rfl rfl (op_w (yw_assign rfl rfl) rfl rfl ?_)
 refine RX.nil (XX.next (V' := [(0, _), (2, .string .empty), (3, _), (4, _)]) ⟨rfl, rfl, rfl, rfl, trivial⟩ ?_)
 refine CX.seq ?_
 refine CX.seq ?_
 refine CX.region ?_
 refine RX.cons rfl rfl (op_w (yw_move rfl rfl) rfl rfl ?_)
 refine RX.cons rfl rfl (op_w (yw_lenS rfl Tryz.underlying26 rfl) rfl rfl ?_)
 refine RX.cons rfl rfl (op_w (yw_move rfl rfl) rfl rfl ?_)
 refine RX.nil (XX.next (V' := [(0, _), (2, .string .empty), (3, _), (4, _), (11, _), (12, _), (13, _)]) ⟨rfl, rfl, rfl, rfl, rfl, rfl, rfl, trivial⟩ ?_)
 refine CX.block ?_
 refine CX.rowNil 3 1 ?_
 refine CX.rowNil 9 1 ?_
 refine CX.loop (σ := Nat × (Option Addr × Nat) × (Option Addr × Nat) × List ByteArray × List Nat) (fun z => [(0, .slice A xs.length cap), (2, .string .empty), (3, .slice z.2.1.1 (List.length (z.2.2.2.1 : List ByteArray)) z.2.1.2), (4, .slice z.2.2.1.1 (List.length (z.2.2.2.2 : List Nat)) z.2.2.1.2), (11, .slice A xs.length cap), (12, .int .i64 ((xs.length : Nat) : Int)), (13, .int .i64 ((z.1 : Nat) : Int))]) (fun z => [.row z.2.1.1 z.2.1.2 9 1 (List.map strC z.2.2.2.1), .row z.2.2.1.1 z.2.2.1.2 3 1 (List.map intC z.2.2.2.2)]) (fun z => z.1 ≤ xs.length ∧ ∃ C, Parts C ∧ C.flatten = xs.take z.1 ∧ z.2.2.2.1 = C.map (root sum) ∧ z.2.2.2.2 = C.map List.length) (fun z => xs.length - z.1) (0, (none, 0), (none, 0), [], []) ⟨Nat.zero_le _, [], Parts.nil, rfl, rfl, rfl⟩ ⟨rfl, rfl, rfl, rfl, rfl, rfl, rfl, trivial⟩ rfl (fun z hI => ?_)
 obtain ⟨i, ⟨A1, c1⟩, ⟨A2, c2⟩, ws, ns⟩ := z
 dsimp only at hI ⊢
 obtain ⟨hi, C, hC, hCf, hws, hns⟩ := hI
 have hwl : ws.length = C.length := by rw [hws, List.length_map]
 have hnl : ns.length = C.length := by rw [hns, List.length_map]
 have hCl : C.length ≤ C.flatten.length := parts_le hC
 rw [hCf, List.length_take] at hCl
 refine CX.seq ?_
 refine CX.region ?_
 refine RX.cons rfl rfl (op_w (yw_lss rfl rfl rfl) rfl rfl ?_)
 refine RX.nil (XX.next (V' := [(0, _), (2, .string .empty), (3, _), (4, _), (11, _), (12, _), (13, _), (14, _)]) ⟨rfl, rfl, rfl, rfl, rfl, rfl, rfl, rfl, trivial⟩ ?_)
 refine CX.seq ?_
 refine CX.condD (p := ((i : Nat) : Int) < ((xs.length : Nat) : Int)) rfl (fun c14 => ?_) (fun c14 => ?_)
 ·obtain ⟨s0, hs0⟩ := get_some (l := xs) (k := i) (by omega)
  have hA : ∃ b j, A = some ⟨b, j, none⟩ := hr.some (k := 0) (by simp; omega)
  have hs0l := hsz s0 (List.mem_of_getElem? hs0)
  refine CX.skip (XX.next (V' := [(0, _), (2, .string .empty), (3, _), (4, _), (11, _), (12, _), (13, _)]) ⟨rfl, rfl, rfl, rfl, rfl, rfl, rfl, trivial⟩ ?_)
  refine CX.seq ?_
  refine CX.block ?_
  refine CX.seq ?_
  refine CX.region ?_
  refine RX.cons rfl rfl (op_w (yw_index (k := i) rfl slt_26 rfl rfl (by omega) (by omega) hA) rfl rfl ?_)
  refine RX.cons rfl rfl (op_yld (y_elem1 rfl rfl one_9 hr (by simp) (map_get hs0)) rfl rfl ?_)
  refine RX.cons rfl rfl (op_w (yw_assign rfl rfl) rfl rfl ?_)
  refine RX.nil (XX.next (V' := [(0, _), (2, .string .empty), (3, _), (4, _), (6, _), (11, _), (12, _), (13, _), (15, _), (16, _)]) ⟨rfl, rfl, rfl, rfl, rfl, rfl, rfl, rfl, rfl, rfl, trivial⟩ ?_)
  refine CX.seq ?_
  refine CX.region ?_
  refine RX.cons rfl rfl (op_w (yw_move rfl rfl) rfl rfl ?_)
  refine RX.cons rfl rfl (op_w (yw_move rfl rfl) rfl rfl ?_)
  refine RX.cons rfl rfl (op_callV (v := .string (leafH sum s0)) rfl rfl rfl rfl rfl ent_41 (fun w hw => w_leaf s0 (hG.keep hw (by simp)) (by omega)) ?_)
  refine RX.cons rfl rfl (op_buildSlice rfl rfl rfl slb_26 rfl rfl (by intro v hv; simp only [List.mem_cons, List.not_mem_nil, or_false] at hv; subst hv; exact ⟨rfl, (plain_of rfl)⟩) (by decide) fun g1 => ?_)
  refine RX.cons rfl rfl (op_appendM strC (i := 1) (j := 0) (xs := ws) ([leafH sum s0]) rfl rfl rfl slb_26 rfl rfl rfl rfl rfl rfl (by simp only [List.length_singleton]; omega) (by simp only [List.length_singleton]; omega) fun A3 c3 => ?_)
  refine RX.cons rfl rfl (op_w (yw_move rfl rfl) rfl rfl ?_)
  refine RX.cons rfl rfl (op_buildSlice rfl rfl rfl slb_43 rfl rfl (by intro v hv; simp only [List.mem_cons, List.not_mem_nil, or_false] at hv; subst hv; exact ⟨rfl, (plain_of rfl)⟩) (by decide) fun g2 => ?_)
  refine RX.cons rfl rfl (op_appendM intC (i := 3) (j := 0) (xs := ns) ([1]) rfl rfl rfl slb_43 rfl rfl rfl rfl rfl rfl (by simp only [List.length_singleton]; omega) (by simp only [List.length_singleton]; omega) fun A4 c4 => ?_)
  refine RX.cons rfl rfl (op_w (yw_assign rfl rfl) rfl rfl ?_)
  refine RX.cons rfl rfl (op_w (yw_assign rfl rfl) rfl rfl ?_)
  refine RX.nil (XX.next (V' := [(0, _), (2, .string .empty), (3, _), (4, _), (6, _), (11, _), (12, _), (13, _), (15, _), (16, _), (17, _), (18, _), (19, _), (20, _), (21, _), (22, _), (23, _), (24, _)]) ⟨rfl, rfl, rfl, rfl, rfl, rfl, rfl, rfl, rfl, rfl, rfl, rfl, rfl, rfl, rfl, rfl, rfl, rfl, trivial⟩ ?_)
  refine CX.seq ?_
  refine CX.region ?_
  refine RX.cons rfl rfl (op_w (yw_move rfl rfl) rfl rfl ?_)
  refine RX.cons rfl rfl (op_w (yw_lenS rfl Tryz.underlying43 rfl) rfl rfl ?_)
  refine RX.know (t := 26) (u := .int .i64 (((ns ++ [1]).length : Nat) : Int)) rfl (congrArg (Value.int .i64) rfl) ?_
  refine RX.cons rfl rfl (op_w (yw_assign rfl rfl) rfl rfl ?_)
  refine RX.nil (XX.next (V' := [(0, _), (2, .string .empty), (3, _), (4, _), (6, _), (7, _), (11, _), (12, _), (13, _), (15, _), (16, _), (17, _), (18, _), (19, _), (20, _), (21, _), (22, _), (23, _), (24, _), (25, _), (26, _)]) ⟨rfl, rfl, rfl, rfl, rfl, rfl, rfl, rfl, rfl, rfl, rfl, rfl, rfl, rfl, rfl, rfl, rfl, rfl, rfl, rfl, rfl, trivial⟩ ?_)
  refine CX.block ?_
  refine CX.drop (L' := [.row A3 c3 9 1 (List.map strC (ws ++ [leafH sum s0])), .row A4 c4 3 1 (List.map intC (ns ++ [1]))]) (List.Sublist.cons _ (List.Sublist.cons _ (List.Sublist.refl _))) ?_
  refine CX.loop (σ := (Option Addr × Nat) × (Option Addr × Nat) × List ByteArray × List Nat) (fun y => [(0, .slice A xs.length cap), (2, .string .empty), (3, .slice y.1.1 (List.length (y.2.2.1 : List ByteArray)) y.1.2), (4, .slice y.2.1.1 (List.length (y.2.2.2 : List Nat)) y.2.1.2), (6, .string s0), (7, .int .i64 ((y.2.2.2.length : Nat) : Int)), (11, .slice A xs.length cap), (12, .int .i64 ((xs.length : Nat) : Int)), (13, .int .i64 ((i : Nat) : Int)), (15, .pointer (some ⟨ab A, ao A + i * 1, none⟩)), (16, .string s0), (17, .slice A1 (List.length (ws : List ByteArray)) c1), (18, .string s0), (19, .string (leafH sum s0)), (20, .slice (some ⟨g1, 0, none⟩) 1 1), (21, .slice A3 ((ws ++ [leafH sum s0]).length) c3), (22, .slice A2 (List.length (ns : List Nat)) c2), (23, .slice (some ⟨g2, 0, none⟩) 1 1), (24, .slice A4 ((ns ++ [1]).length) c4), (25, .slice A4 ((ns ++ [1]).length) c4), (26, .int .i64 (((ns ++ [1]).length : Nat) : Int))]) (fun y => [.row y.1.1 y.1.2 9 1 (List.map strC y.2.2.1), .row y.2.1.1 y.2.1.2 3 1 (List.map intC y.2.2.2)]) (fun y => ∃ C, Stk C ∧ C.flatten = xs.take (i + 1) ∧ y.2.2.1 = C.map (root sum) ∧ y.2.2.2 = C.map List.length) (fun y => y.2.2.2.length) ((A3, c3), (A4, c4), ws ++ [leafH sum s0], ns ++ [1]) ⟨C ++ [[s0]], Stk.push hC s0, by rw [List.flatten_append, hCf, take_succ hs0]; rfl, by rw [hws, List.map_append]; rfl, by rw [hns, List.map_append]; rfl⟩ ⟨rfl, rfl, rfl, rfl, rfl, rfl, rfl, rfl, rfl, rfl, rfl, rfl, rfl, rfl, rfl, rfl, rfl, rfl, rfl, rfl, rfl, trivial⟩ rfl (fun y hI => ?_)
  obtain ⟨⟨B1, d1⟩, ⟨B2, d2⟩, vs, ms⟩ := y
  dsimp only at hI ⊢
  obtain ⟨E, hE, hEf, hvs, hms⟩ := hI
  have hvl : vs.length = E.length := by rw [hvs, List.length_map]
  have hml : ms.length = E.length := by rw [hms, List.length_map]
  have hEl : E.length ≤ E.flatten.length := stk_le hE
  have hEx : E.flatten.length ≤ xs.length := by rw [hEf, List.length_take]; omega
  have hEp := stk_pos hE
  refine CX.rowSome 0 rfl (by simp; omega) (fun hA1 => ?_)
  refine CX.rowSome 1 rfl (by simp; omega) (fun hA2 => ?_)
  refine CX.rowCap 0 rfl (fun hd1 => ?_)
  refine CX.rowCap 1 rfl (fun hd2 => ?_)
  refine CX.seq ?_
  refine CX.seq ?_
  refine CX.draw 15 [(0, 128, 134217728), (1, 134217728, 268435456), (2, 268435456, 536870912), (4, 536870928, 1073741824), (4, 536871040, 2147483648), (20, 2684354560, 4294967296), (44, 5905580032, 8589934592), (68, 9126805504, 17179869184), (4, 536870928, 34359738368), (4, 536871040, 68719476736), (516, 69256347648, 137438953472), (1284, 172335562752, 274877906944), (2052, 275414777856, 549755813888), (4228, 567472553984, 1099511627776), (8196, 1100048498688, 2199023255552)] (by kernel_rfl) (by kernel_rfl) (by kernel_rfl) ?_
  refine DX.takeW 0 1 (by kernel_rfl) rfl rfl rfl rfl rfl (yw_move rfl rfl) ?_
  refine DX.takeW 1 3 (by kernel_rfl) rfl rfl rfl rfl rfl (yw_gtr rfl rfl rfl) ?_
  refine DX.takeW 2 7 (by kernel_rfl) rfl rfl rfl rfl rfl (yw_move rfl rfl) ?_
  refine DX.splitD (t := 29) (p := 1 < ((ms.length : Nat) : Int)) rfl (fun d29 => ?_) (fun d29 => ?_)
  ·obtain ⟨d, hd⟩ := get_some (l := E) (k := E.length - 2) (by omega)
   obtain ⟨c, hc⟩ := get_some (l := E) (k := E.length - 1) (by omega)
   have hm1 : ms[ms.length - 2]? = some d.length := by rw [hml, hms, List.getElem?_map, hd]; rfl
   have hm2 : ms[ms.length - 1]? = some c.length := by rw [hml, hms, List.getElem?_map, hc]; rfl
   have hv1 : vs[ms.length - 2]? = some (root sum d) := by rw [hml, hvs, List.getElem?_map, hd]; rfl
   have hv2 : vs[ms.length - 1]? = some (root sum c) := by rw [hml, hvs, List.getElem?_map, hc]; rfl
   have hcl := Stk.lens (List.mem_of_getElem? hc)
   refine DX.takeWG 3 15 (by kernel_rfl) rfl rfl rfl rfl rfl rfl rfl rfl (yw_move rfl rfl) ?_
   refine DX.takeWG 4 31 (by kernel_rfl) rfl rfl rfl rfl rfl rfl rfl rfl (yw_move rfl rfl) ?_
   refine DX.takeWG 5 63 (by kernel_rfl) rfl rfl rfl rfl rfl rfl rfl rfl (yw_sub rfl rfl rfl (by omega) (by omega)) ?_
   refine DX.takeWG 6 127 (by kernel_rfl) rfl rfl rfl rfl rfl rfl rfl rfl (yw_index (k := (ms.length - 2)) rfl slt_43 rfl rfl (by omega) (by omega) hA2) ?_
   refine DX.takeG 7 255 (by kernel_rfl) rfl rfl rfl rfl rfl rfl rfl rfl (List.Sublist.refl _) (y_rowElem1 (i := 1) rfl rfl one_3 rfl (map_get hm1)) ?_
   refine DX.takeWG 8 511 (by kernel_rfl) rfl rfl rfl rfl rfl rfl rfl rfl (yw_move rfl rfl) ?_
   refine DX.takeWG 9 1023 (by kernel_rfl) rfl rfl rfl rfl rfl rfl rfl rfl (yw_move rfl rfl) ?_
   refine DX.takeWG 10 2047 (by kernel_rfl) rfl rfl rfl rfl rfl rfl rfl rfl (yw_sub rfl rfl rfl (by omega) (by omega)) ?_
   refine DX.takeWG 11 4095 (by kernel_rfl) rfl rfl rfl rfl rfl rfl rfl rfl (yw_index (k := (ms.length - 1)) rfl slt_43 rfl rfl (by omega) (by omega) hA2) ?_
   refine DX.takeG 12 8191 (by kernel_rfl) rfl rfl rfl rfl rfl rfl rfl rfl (List.Sublist.refl _) (y_rowElem1 (i := 1) rfl rfl one_3 rfl (map_get hm2)) ?_
   refine DX.takeWG 13 16383 (by kernel_rfl) rfl rfl rfl rfl rfl rfl rfl rfl (yw_eql rfl rfl rfl) ?_
   refine DX.takeW 14 32767 (by kernel_rfl) rfl rfl rfl rfl rfl (yw_pickT rfl rfl rfl) ?_
   refine DX.done (by kernel_rfl) (XX.next (V' := [(0, _), (2, .string .empty), (3, _), (4, _), (6, _), (7, _), (11, _), (12, _), (13, _), (15, _), (16, _), (17, _), (18, _), (19, _), (20, _), (21, _), (22, _), (23, _), (24, _), (25, _), (26, _), (27, _), (28, _), (29, _), (30, _), (31, _), (32, _), (33, _), (34, _), (35, _), (36, _), (37, _), (38, _), (39, _), (40, _), (41, _)]) ⟨rfl, rfl, rfl, rfl, rfl, rfl, rfl, rfl, rfl, rfl, rfl, rfl, rfl, rfl, rfl, rfl, rfl, rfl, rfl, rfl, rfl, rfl, rfl, rfl, rfl, rfl, rfl, rfl, rfl, rfl, rfl, rfl, rfl, rfl, rfl, rfl, trivial⟩ ?_)
   refine CX.condD (p := ((d.length : Nat) : Int) = ((c.length : Nat) : Int)) rfl (fun c41 => ?_) (fun c41 => ?_)
   ·obtain ⟨hM1, hM2, hM3⟩ := hE.merge sum (by omega) hd hc (by omega)
    refine CX.skip (XX.next (V' := [(0, _), (2, .string .empty), (3, _), (4, _), (6, _), (7, _), (11, _), (12, _), (13, _), (15, _), (16, _), (17, _), (18, _), (19, _), (20, _), (21, _), (22, _), (23, _), (24, _), (25, _), (26, _), (30, _), (31, _), (32, _), (33, _), (34, _), (35, _), (36, _), (37, _), (38, _), (39, _), (40, _)]) ⟨rfl, rfl, rfl, rfl, rfl, rfl, rfl, rfl, rfl, rfl, rfl, rfl, rfl, rfl, rfl, rfl, rfl, rfl, rfl, rfl, rfl, rfl, rfl, rfl, rfl, rfl, rfl, rfl, rfl, rfl, rfl, rfl, trivial⟩ ?_)
    refine CX.seq ?_
    refine CX.block ?_
    refine CX.seq ?_
    refine CX.draw 16 [(0, 8, 17592186044416), (0, 128, 35184372088832), (2, 35184372088832, 70368744177664), (5, 87960930222080, 140737488355328), (0, 8, 281474976710656), (0, 128, 562949953421312), (32, 562949953421312, 1125899906842624), (80, 1407374883553280, 2251799813685248), (128, 2251799813685248, 4503599627370496), (0, 8, 9007199254740992), (0, 128, 18014398509481984), (1024, 18014398509481984, 36028797018963968), (2560, 45035996273704960, 72057594037927936), (4096, 72057594037927936, 144115188075855872), (8448, 148618787703226368, 288230376151711744), (16384, 288230376151711744, 576460752303423488), (49160, 576601489791778816, 1152921504606846976), (131071, 1152921504606846976, 8)] (by kernel_rfl) (by kernel_rfl) (by kernel_rfl) ?_
    refine DX.takeW 0 1 (by kernel_rfl) rfl rfl rfl rfl rfl (yw_move rfl rfl) ?_
    refine DX.takeW 1 3 (by kernel_rfl) rfl rfl rfl rfl rfl (yw_move rfl rfl) ?_
    refine DX.takeW 2 7 (by kernel_rfl) rfl rfl rfl rfl rfl (yw_sub rfl rfl rfl (by omega) (by omega)) ?_
    refine DX.takeW 3 15 (by kernel_rfl) rfl rfl rfl rfl rfl (yw_sliceTo (k := (ms.length - 2)) rfl slt_26 rfl rfl (by omega) (by omega)) ?_
    refine DX.takeW 4 31 (by kernel_rfl) rfl rfl rfl rfl rfl (yw_move rfl rfl) ?_
    refine DX.takeW 5 63 (by kernel_rfl) rfl rfl rfl rfl rfl (yw_move rfl rfl) ?_
    refine DX.takeW 6 127 (by kernel_rfl) rfl rfl rfl rfl rfl (yw_sub rfl rfl rfl (by omega) (by omega)) ?_
    refine DX.takeW 7 255 (by kernel_rfl) rfl rfl rfl rfl rfl (yw_index (k := (ms.length - 2)) rfl slt_26 rfl rfl (by omega) (by omega) hA1) ?_
    refine DX.take 8 511 (by kernel_rfl) rfl rfl rfl rfl rfl (List.Sublist.refl _) (y_rowElem1 (i := 0) rfl rfl one_9 rfl (map_get hv1)) ?_
    refine DX.takeW 9 1023 (by kernel_rfl) rfl rfl rfl rfl rfl (yw_move rfl rfl) ?_
    refine DX.takeW 10 2047 (by kernel_rfl) rfl rfl rfl rfl rfl (yw_move rfl rfl) ?_
    refine DX.takeW 11 4095 (by kernel_rfl) rfl rfl rfl rfl rfl (yw_sub rfl rfl rfl (by omega) (by omega)) ?_
    refine DX.takeW 12 8191 (by kernel_rfl) rfl rfl rfl rfl rfl (yw_index (k := (ms.length - 1)) rfl slt_26 rfl rfl (by omega) (by omega) hA1) ?_
    refine DX.take 13 16383 (by kernel_rfl) rfl rfl rfl rfl rfl (List.Sublist.refl _) (y_rowElem1 (i := 0) rfl rfl one_9 rfl (map_get hv2)) ?_
    refine DX.step 14 32767 (by kernel_rfl) rfl rfl rfl (op_callV (v := .string (nodeH sum (root sum d) (root sum c))) rfl rfl rfl rfl rfl ent_42 (fun w hw => w_node (root sum d) (root sum c) (hG.keep hw (by simp)) (by rw [sum_root_size, sum_root_size]; omega)) (DXs.mk (List.Sublist.refl _) ?_))
    refine DX.step 15 65535 (by kernel_rfl) rfl rfl rfl (op_buildSlice rfl rfl rfl slb_26 rfl rfl (by intro v hv; simp only [List.mem_cons, List.not_mem_nil, or_false] at hv; subst hv; exact ⟨rfl, (plain_of rfl)⟩) (by decide) fun g3 => (DXs.mk (List.Sublist.cons _ (List.Sublist.refl _)) ?_))
    refine DX.stepT 16 131071 (by kernel_rfl) rfl rfl rfl rfl (op_appendMT strC (i := 1) (j := 0) (xs := vs) ([nodeH sum (root sum d) (root sum c)]) rfl rfl rfl slb_26 rfl rfl (by omega) (by decide) rfl rfl rfl rfl (by simp only [List.length_singleton]; omega) (by simp only [List.length_singleton]; omega) fun B3 d3 => ?_)
    refine DX.takeW 17 262143 (by kernel_rfl) rfl rfl rfl rfl rfl (yw_assign rfl rfl) ?_
    refine DX.done (by kernel_rfl) (XX.next (V' := [(0, _), (2, .string .empty), (3, _), (4, _), (6, _), (7, _), (11, _), (12, _), (13, _), (15, _), (16, _), (17, _), (18, _), (19, _), (20, _), (21, _), (22, _), (23, _), (24, _), (25, _), (26, _), (30, _), (31, _), (32, _), (33, _), (34, _), (35, _), (36, _), (37, _), (38, _), (39, _), (40, _), (44, _), (45, _), (46, _), (47, _), (48, _), (49, _), (50, _), (51, _), (52, _), (53, _), (54, _), (55, _), (56, _), (57, _), (58, _), (59, _), (60, _)]) ⟨rfl, rfl, rfl, rfl, rfl, rfl, rfl, rfl, rfl, rfl, rfl, rfl, rfl, rfl, rfl, rfl, rfl, rfl, rfl, rfl, rfl, rfl, rfl, rfl, rfl, rfl, rfl, rfl, rfl, rfl, rfl, rfl, rfl, rfl, rfl, rfl, rfl, rfl, rfl, rfl, rfl, rfl, rfl, rfl, rfl, rfl, rfl, rfl, rfl, trivial⟩ ?_)
    refine CX.draw 11 [(0, 16, 2305843009213693952), (0, 128, 4611686018427387904), (2, 4611686018427387904, 9223372036854775808), (5, 11529215046068469760, 18446744073709551616), (0, 16, 36893488147419103232), (0, 128, 73786976294838206464), (32, 73786976294838206464, 147573952589676412928), (80, 184467440737095516160, 295147905179352825856), (128, 295147905179352825856, 590295810358705651712), (256, 590295810358705651712, 1180591620717411303424), (512, 1180591620717411303424, 2361183241434822606848), (1032, 2379629985508532158464, 4722366482869645213696), (4095, 4722366482869645213696, 16)] (by kernel_rfl) (by kernel_rfl) (by kernel_rfl) ?_
    refine DX.takeW 0 1 (by kernel_rfl) rfl rfl rfl rfl rfl (yw_move rfl rfl) ?_
    refine DX.takeW 1 3 (by kernel_rfl) rfl rfl rfl rfl rfl (yw_move rfl rfl) ?_
    refine DX.takeW 2 7 (by kernel_rfl) rfl rfl rfl rfl rfl (yw_sub rfl rfl rfl (by omega) (by omega)) ?_
    refine DX.takeW 3 15 (by kernel_rfl) rfl rfl rfl rfl rfl (yw_sliceTo (k := (ms.length - 2)) rfl slt_43 rfl rfl (by omega) (by omega)) ?_
    refine DX.takeW 4 31 (by kernel_rfl) rfl rfl rfl rfl rfl (yw_move rfl rfl) ?_
    refine DX.takeW 5 63 (by kernel_rfl) rfl rfl rfl rfl rfl (yw_move rfl rfl) ?_
    refine DX.takeW 6 127 (by kernel_rfl) rfl rfl rfl rfl rfl (yw_sub rfl rfl rfl (by omega) (by omega)) ?_
    refine DX.takeW 7 255 (by kernel_rfl) rfl rfl rfl rfl rfl (yw_index (k := (ms.length - 1)) rfl slt_43 rfl rfl (by omega) (by omega) hA2) ?_
    refine DX.take 8 511 (by kernel_rfl) rfl rfl rfl rfl rfl (List.Sublist.refl _) (y_rowElem1 (i := 2) rfl rfl one_3 rfl (map_get hm2)) ?_
    refine DX.takeW 9 1023 (by kernel_rfl) rfl rfl rfl rfl rfl (yw_mul rfl rfl rfl (by omega) (by omega)) ?_
    refine DX.know (t := 70) (u := .int .i64 ((2 * c.length : Nat) : Int)) rfl (congrArg (Value.int .i64) (by omega)) ?_
    refine DX.step 10 2047 (by kernel_rfl) rfl rfl rfl (op_buildSlice rfl rfl rfl slb_43 rfl rfl (by intro v hv; simp only [List.mem_cons, List.not_mem_nil, or_false] at hv; subst hv; exact ⟨rfl, (plain_of rfl)⟩) (by decide) fun g4 => (DXs.mk (List.Sublist.cons _ (List.Sublist.refl _)) ?_))
    refine DX.stepT 11 4095 (by kernel_rfl) rfl rfl rfl rfl (op_appendMT intC (i := 3) (j := 0) (xs := ms) ([2 * c.length]) rfl rfl rfl slb_43 rfl rfl (by omega) (by decide) rfl rfl rfl rfl (by simp only [List.length_singleton]; omega) (by simp only [List.length_singleton]; omega) fun B4 d4 => ?_)
    refine DX.takeW 12 8191 (by kernel_rfl) rfl rfl rfl rfl rfl (yw_assign rfl rfl) ?_
    refine DX.done (by kernel_rfl) (XX.inBlock (V' := [(0, _), (2, .string .empty), (3, _), (4, _), (6, _), (7, _), (11, _), (12, _), (13, _), (15, _), (16, _), (17, _), (18, _), (19, _), (20, _), (21, _), (22, _), (23, _), (24, _), (25, _), (26, _), (30, _), (31, _), (32, _), (33, _), (34, _), (35, _), (36, _), (37, _), (38, _), (39, _), (40, _), (44, _), (45, _), (46, _), (47, _), (48, _), (49, _), (50, _), (51, _), (52, _), (53, _), (54, _), (55, _), (56, _), (57, _), (58, _), (59, _), (60, _), (61, _), (62, _), (63, _), (64, _), (65, _), (66, _), (67, _), (68, _), (69, _), (70, _), (71, _), (72, _)]) ⟨rfl, rfl, rfl, rfl, rfl, rfl, rfl, rfl, rfl, rfl, rfl, rfl, rfl, rfl, rfl, rfl, rfl, rfl, rfl, rfl, rfl, rfl, rfl, rfl, rfl, rfl, rfl, rfl, rfl, rfl, rfl, rfl, rfl, rfl, rfl, rfl, rfl, rfl, rfl, rfl, rfl, rfl, rfl, rfl, rfl, rfl, rfl, rfl, rfl, rfl, rfl, rfl, rfl, rfl, rfl, rfl, rfl, rfl, rfl, rfl, rfl, trivial⟩ ?_)
    refine XX.next (V' := [(0, _), (2, .string .empty), (3, _), (4, _), (6, _), (7, _), (11, _), (12, _), (13, _), (15, _), (16, _), (17, _), (18, _), (19, _), (20, _), (21, _), (22, _), (23, _), (24, _), (25, _), (26, _), (30, _), (31, _), (32, _), (33, _), (34, _), (35, _), (36, _), (37, _), (38, _), (39, _), (40, _), (44, _), (45, _), (46, _), (47, _), (48, _), (49, _), (50, _), (51, _), (52, _), (53, _), (54, _), (55, _), (56, _), (57, _), (58, _), (59, _), (60, _), (61, _), (62, _), (63, _), (64, _), (65, _), (66, _), (67, _), (68, _), (69, _), (70, _), (71, _), (72, _)]) ⟨rfl, rfl, rfl, rfl, rfl, rfl, rfl, rfl, rfl, rfl, rfl, rfl, rfl, rfl, rfl, rfl, rfl, rfl, rfl, rfl, rfl, rfl, rfl, rfl, rfl, rfl, rfl, rfl, rfl, rfl, rfl, rfl, rfl, rfl, rfl, rfl, rfl, rfl, rfl, rfl, rfl, rfl, rfl, rfl, rfl, rfl, rfl, rfl, rfl, rfl, rfl, rfl, rfl, rfl, rfl, rfl, rfl, rfl, rfl, rfl, rfl, trivial⟩ ?_
    refine CX.region ?_
    refine RX.cons rfl rfl (op_w (yw_move rfl rfl) rfl rfl ?_)
    refine RX.cons rfl rfl (op_w (yw_sub rfl rfl rfl (by omega) (by omega)) rfl rfl ?_)
    refine RX.know (t := 43) (u := .int .i64 (((List.take (ms.length - 2) ms ++ [2 * c.length]).length : Nat) : Int)) rfl (congrArg (Value.int .i64) (by simp; omega)) ?_
    refine RX.cons rfl rfl (op_w (yw_assign rfl rfl) rfl rfl ?_)
    refine RX.nil (XX.againP ([.row (some ⟨g4, 0, none⟩) 1 3 1 (List.map intC ([2 * c.length])), .row (some ⟨g3, 0, none⟩) 1 9 1 (List.map strC ([nodeH sum (root sum d) (root sum c)]))]) ((B3, d3), (B4, d4), List.take (ms.length - 2) vs ++ [nodeH sum (root sum d) (root sum c)], List.take (ms.length - 2) ms ++ [2 * c.length]) (by simp; omega) ⟨E.take (E.length - 2) ++ [d ++ c], hM1, hM2.trans hEf, by rw [hvs, ← hM3, List.map_append, List.map_take, hml]; rfl, by rw [hms, List.map_append, List.map_take, ← hms, hml]; simp; omega⟩ ⟨rfl, rfl, rfl, rfl, rfl, rfl, rfl, rfl, rfl, rfl, rfl, rfl, rfl, rfl, rfl, rfl, rfl, rfl, rfl, rfl, rfl, trivial⟩ ((perm_pick 2 rfl).trans (List.Perm.cons _ ((perm_pick 2 rfl).trans (List.Perm.cons _ (List.Perm.refl _))))))
   ·have hEn : ∀ d' c', 2 ≤ E.length → E[E.length - 2]? = some d' → E[E.length - 1]? = some c' → d'.length ≠ c'.length := fun d' c' _ h1 h2 => by rw [hd] at h1; rw [hc] at h2; injection h1 with h1; injection h2 with h2; subst h1; subst h2; omega
    refine CX.exit ?_
    refine XX.then_exit ?_
    refine XX.then_exit ?_
    refine XX.block_exit ?_
    refine XX.inBlock (V' := [(0, _), (2, .string .empty), (3, _), (4, _), (6, _), (7, _), (11, _), (12, _), (13, _), (15, _), (16, _), (17, _), (18, _), (19, _), (20, _), (21, _), (22, _), (23, _), (24, _), (25, _), (26, _), (27, _), (28, _), (29, _), (30, _), (31, _), (32, _), (33, _), (34, _), (35, _), (36, _), (37, _), (38, _), (39, _), (40, _), (41, _)]) ⟨rfl, rfl, rfl, rfl, rfl, rfl, rfl, rfl, rfl, rfl, rfl, rfl, rfl, rfl, rfl, rfl, rfl, rfl, rfl, rfl, rfl, rfl, rfl, rfl, rfl, rfl, rfl, rfl, rfl, rfl, rfl, rfl, rfl, rfl, rfl, rfl, trivial⟩ ?_
    refine XX.next (V' := [(0, _), (2, .string .empty), (3, _), (4, _), (6, _), (7, _), (11, _), (12, _), (13, _), (15, _), (16, _), (17, _), (18, _), (19, _), (20, _), (21, _), (22, _), (23, _), (24, _), (25, _), (26, _), (27, _), (28, _), (29, _), (30, _), (31, _), (32, _), (33, _), (34, _), (35, _), (36, _), (37, _), (38, _), (39, _), (40, _), (41, _)]) ⟨rfl, rfl, rfl, rfl, rfl, rfl, rfl, rfl, rfl, rfl, rfl, rfl, rfl, rfl, rfl, rfl, rfl, rfl, rfl, rfl, rfl, rfl, rfl, rfl, rfl, rfl, rfl, rfl, rfl, rfl, rfl, rfl, rfl, rfl, rfl, rfl, trivial⟩ ?_
    refine CX.region ?_
    refine RX.cons rfl rfl (op_w (yw_add rfl rfl rfl (by omega) (by omega)) rfl rfl ?_)
    refine RX.cons rfl rfl (op_w (yw_move rfl rfl) rfl rfl ?_)
    refine RX.nil (XX.againP ([]) (i + 1, (B1, d1), (B2, d2), vs, ms) (by dsimp only; omega) ⟨by dsimp only; omega, E, hE.done hEn, hEf, hvs, hms⟩ ⟨rfl, rfl, rfl, rfl, rfl, rfl, rfl, trivial⟩ ((perm_pick 0 rfl).trans (List.Perm.cons _ ((perm_pick 0 rfl).trans (List.Perm.cons _ (List.Perm.refl _))))))
  ·have hEn : ∀ d' c', 2 ≤ E.length → E[E.length - 2]? = some d' → E[E.length - 1]? = some c' → d'.length ≠ c'.length := fun d' c' h _ _ => by omega
   refine DX.skip 3 15 (by kernel_rfl) rfl rfl rfl rfl rfl rfl rfl rfl ?_
   refine DX.skip 4 31 (by kernel_rfl) rfl rfl rfl rfl rfl rfl rfl rfl ?_
   refine DX.skip 5 63 (by kernel_rfl) rfl rfl rfl rfl rfl rfl rfl rfl ?_
   refine DX.skip 6 127 (by kernel_rfl) rfl rfl rfl rfl rfl rfl rfl rfl ?_
   refine DX.skip 7 255 (by kernel_rfl) rfl rfl rfl rfl rfl rfl rfl rfl ?_
   refine DX.skip 8 511 (by kernel_rfl) rfl rfl rfl rfl rfl rfl rfl rfl ?_
   refine DX.skip 9 1023 (by kernel_rfl) rfl rfl rfl rfl rfl rfl rfl rfl ?_
   refine DX.skip 10 2047 (by kernel_rfl) rfl rfl rfl rfl rfl rfl rfl rfl ?_
   refine DX.skip 11 4095 (by kernel_rfl) rfl rfl rfl rfl rfl rfl rfl rfl ?_
   refine DX.skip 12 8191 (by kernel_rfl) rfl rfl rfl rfl rfl rfl rfl rfl ?_
   refine DX.skip 13 16383 (by kernel_rfl) rfl rfl rfl rfl rfl rfl rfl rfl ?_
   refine DX.takeW 14 32767 (by kernel_rfl) rfl rfl rfl rfl rfl (yw_pickF rfl rfl rfl) ?_
   refine DX.done (by kernel_rfl) (XX.next (V' := [(0, _), (2, .string .empty), (3, _), (4, _), (6, _), (7, _), (11, _), (12, _), (13, _), (15, _), (16, _), (17, _), (18, _), (19, _), (20, _), (21, _), (22, _), (23, _), (24, _), (25, _), (26, _), (27, _), (28, _), (29, _), (30, _), (31, _), (32, _), (33, _), (34, _), (35, _), (36, _), (37, _), (38, _), (39, _), (40, _), (41, _)]) ⟨rfl, rfl, rfl, rfl, rfl, rfl, rfl, rfl, rfl, rfl, rfl, rfl, rfl, rfl, rfl, rfl, rfl, rfl, rfl, rfl, rfl, rfl, rfl, rfl, rfl, rfl, rfl, rfl, rfl, rfl, rfl, rfl, rfl, rfl, rfl, rfl, trivial⟩ ?_)
   refine CX.condF rfl ?_
   refine CX.exit ?_
   refine XX.then_exit ?_
   refine XX.then_exit ?_
   refine XX.block_exit ?_
   refine XX.inBlock (V' := [(0, _), (2, .string .empty), (3, _), (4, _), (6, _), (7, _), (11, _), (12, _), (13, _), (15, _), (16, _), (17, _), (18, _), (19, _), (20, _), (21, _), (22, _), (23, _), (24, _), (25, _), (26, _), (27, _), (28, _), (29, _), (30, _), (31, _), (32, _), (33, _), (34, _), (35, _), (36, _), (37, _), (38, _), (39, _), (40, _), (41, _)]) ⟨rfl, rfl, rfl, rfl, rfl, rfl, rfl, rfl, rfl, rfl, rfl, rfl, rfl, rfl, rfl, rfl, rfl, rfl, rfl, rfl, rfl, rfl, rfl, rfl, rfl, rfl, rfl, rfl, rfl, rfl, rfl, rfl, rfl, rfl, rfl, rfl, trivial⟩ ?_
   refine XX.next (V' := [(0, _), (2, .string .empty), (3, _), (4, _), (6, _), (7, _), (11, _), (12, _), (13, _), (15, _), (16, _), (17, _), (18, _), (19, _), (20, _), (21, _), (22, _), (23, _), (24, _), (25, _), (26, _), (27, _), (28, _), (29, _), (30, _), (31, _), (32, _), (33, _), (34, _), (35, _), (36, _), (37, _), (38, _), (39, _), (40, _), (41, _)]) ⟨rfl, rfl, rfl, rfl, rfl, rfl, rfl, rfl, rfl, rfl, rfl, rfl, rfl, rfl, rfl, rfl, rfl, rfl, rfl, rfl, rfl, rfl, rfl, rfl, rfl, rfl, rfl, rfl, rfl, rfl, rfl, rfl, rfl, rfl, rfl, rfl, trivial⟩ ?_
   refine CX.region ?_
   refine RX.cons rfl rfl (op_w (yw_add rfl rfl rfl (by omega) (by omega)) rfl rfl ?_)
   refine RX.cons rfl rfl (op_w (yw_move rfl rfl) rfl rfl ?_)
   refine RX.nil (XX.againP ([]) (i + 1, (B1, d1), (B2, d2), vs, ms) (by dsimp only; omega) ⟨by dsimp only; omega, E, hE.done hEn, hEf, hvs, hms⟩ ⟨rfl, rfl, rfl, rfl, rfl, rfl, rfl, trivial⟩ ((perm_pick 0 rfl).trans (List.Perm.cons _ ((perm_pick 0 rfl).trans (List.Perm.cons _ (List.Perm.refl _))))))
 ·refine CX.exit ?_
  refine XX.then_exit ?_
  refine XX.then_exit ?_
  refine XX.block_exit ?_
  refine XX.next (V' := [(0, _), (2, .string .empty), (3, _), (4, _), (11, _), (12, _), (13, _), (14, _)]) ⟨rfl, rfl, rfl, rfl, rfl, rfl, rfl, rfl, trivial⟩ ?_
  refine CX.seq ?_
  refine CX.seq ?_
  refine CX.region ?_
  refine RX.cons rfl rfl (op_w (yw_move rfl rfl) rfl rfl ?_)
  refine RX.cons rfl rfl (op_w (yw_lenS rfl Tryz.underlying26 rfl) rfl rfl ?_)
  refine RX.cons rfl rfl (op_w (yw_eql rfl rfl rfl) rfl rfl ?_)
  refine RX.nil (XX.next (V' := [(0, _), (2, .string .empty), (3, _), (4, _), (11, _), (12, _), (13, _), (14, _), (74, _), (75, _), (76, _)]) ⟨rfl, rfl, rfl, rfl, rfl, rfl, rfl, rfl, rfl, rfl, rfl, trivial⟩ ?_)
  refine CX.condD (p := ((List.length (ws : List ByteArray) : Nat) : Int) = 0) rfl (fun c76 => ?_) (fun c76 => ?_)
  ·refine CX.seq ?_
   refine CX.region ?_
   refine RX.cons rfl rfl (op_callV (v := .string (sum .empty)) rfl rfl rfl rfl rfl ent_43 (fun w hw => w_sum .empty (hG.keep hw (by simp)) (by decide)) ?_)
   refine RX.cons rfl rfl (op_w (yw_assign rfl rfl) rfl rfl ?_)
   refine RX.nil (XX.next (V' := [(2, .string (sum .empty))]) ⟨rfl, trivial⟩ ?_)
   refine CX.ret ?_
   refine XX.then_ret ?_
   exact ret_tmpM0 rfl rfl fun w1 hw => ⟨by obtain rfl : C = [] := List.eq_nil_of_length_eq_zero (by omega); rw [List.take_of_length_le (by omega)] at hCf; rw [← hCf]; rfl, hw.sub (List.nil_sublist _)⟩
  ·obtain ⟨c, hc⟩ := get_some (l := C) (k := C.length - 1) (by omega)
   have hw1 : ws[ws.length - 1]? = some (root sum c) := by rw [hwl, hws, List.getElem?_map, hc]; rfl
   have hxs : xs.take i = xs := List.take_of_length_le (by omega)
   refine CX.rowSome 0 rfl (by simp; omega) (fun hA1 => ?_)
   refine CX.rowCap 0 rfl (fun hd1 => ?_)
   have hx32 : ∀ s ∈ List.take (ws.length - 1) ws, s.size = 32 := by
     intro s hs
     have hm := List.mem_of_mem_take hs
     rw [hws] at hm
     obtain ⟨b, _, rfl⟩ := List.mem_map.1 hm
     exact sum_root_size b
   refine CX.skip (XX.next (V' := [(0, _), (2, .string .empty), (3, _), (4, _), (11, _), (12, _), (13, _), (14, _), (74, _), (75, _), (76, _)]) ⟨rfl, rfl, rfl, rfl, rfl, rfl, rfl, rfl, rfl, rfl, rfl, trivial⟩ ?_)
   refine CX.seq ?_
   refine CX.region ?_
   refine RX.cons rfl rfl (op_w (yw_move rfl rfl) rfl rfl ?_)
   refine RX.cons rfl rfl (op_w (yw_move rfl rfl) rfl rfl ?_)
   refine RX.cons rfl rfl (op_w (yw_lenS rfl Tryz.underlying26 rfl) rfl rfl ?_)
   refine RX.cons rfl rfl (op_w (yw_sub rfl rfl rfl (by omega) (by omega)) rfl rfl ?_)
   refine RX.cons rfl rfl (op_w (yw_index (k := (ws.length - 1)) rfl slt_26 rfl rfl (by omega) (by omega) hA1) rfl rfl ?_)
   refine RX.cons rfl rfl (op_yld (y_rowElem1 (i := 0) rfl rfl one_9 rfl (map_get hw1)) rfl rfl ?_)
   refine RX.cons rfl rfl (op_alloc rfl rfl rfl zero_9 fun go => ?_)
   refine RX.cons rfl rfl (op_storeAll (i := 0) rfl rfl rfl rfl szt_9 rfl (plain_of rfl) rfl rfl ?_)
   refine RX.nil (XX.next (V' := [(0, _), (2, .string .empty), (3, _), (4, _), (8, _), (11, _), (12, _), (13, _), (14, _), (74, _), (75, _), (76, _), (78, _), (79, _), (80, _), (81, _), (82, _), (83, _)]) ⟨rfl, rfl, rfl, rfl, rfl, rfl, rfl, rfl, rfl, rfl, rfl, rfl, rfl, rfl, rfl, rfl, rfl, rfl, trivial⟩ ?_)
   refine CX.seq ?_
   refine CX.seq ?_
   refine CX.region ?_
   refine RX.cons rfl rfl (op_w (yw_move rfl rfl) rfl rfl ?_)
   refine RX.cons rfl rfl (op_w (yw_move rfl rfl) rfl rfl ?_)
   refine RX.cons rfl rfl (op_w (yw_lenS rfl Tryz.underlying26 rfl) rfl rfl ?_)
   refine RX.cons rfl rfl (op_w (yw_sub rfl rfl rfl (by omega) (by omega)) rfl rfl ?_)
   refine RX.cons rfl rfl (op_w (yw_sliceTo (k := (ws.length - 1)) rfl slt_26 rfl rfl (by omega) (by omega)) rfl rfl ?_)
   refine RX.cons rfl rfl (op_callE rfl rfl rfl rfl rfl ent_44 (fun w _ => w_backS A1 (ws.length - 1) c1) (fun zbbackS _ => ?_))
   refine RX.nil (XX.next (V' := [(0, _), (2, .string .empty), (3, _), (4, _), (8, _), (11, _), (12, _), (13, _), (14, _), (74, _), (75, _), (76, _), (78, _), (79, _), (80, _), (81, _), (82, _), (83, _), (84, _), (85, _), (86, _), (87, _), (88, _), (89, _)]) ⟨rfl, rfl, rfl, rfl, rfl, rfl, rfl, rfl, rfl, rfl, rfl, rfl, rfl, rfl, rfl, rfl, rfl, rfl, rfl, rfl, rfl, rfl, rfl, rfl, trivial⟩ ?_)
   refine CX.block ?_
   refine CX.rangeFunc (σ := D32) (LL := fun h => [.blk go (.cells (#[.string (Subtype.val h)]) 9 (0, 0))]) (post := fun h => h = (List.foldr (fun a s => nodeD s a) (⟨root sum c, sum_root_size c⟩ : D32) (List.take (ws.length - 1) ws))) [.blk go (.cells (#[.string (Subtype.val (⟨root sum c, sum_root_size c⟩ : D32))]) 9 (0, 0))] [.blk zbbackS (.cells (#[.slice A1 (ws.length - 1) c1]) 26 (0, 0)), .row A1 c1 9 1 (List.map strC ws), .row A2 c2 3 1 (List.map intC ns)] ((perm_pick 1 rfl).trans (List.Perm.cons _ (List.Perm.refl _))) rfl ent_73 ?_ ?_
   ·intro l Dk fn a w1 ha hw hs
    have hM : SL w [] w1 ((RB l Dk (mkRec fn a.tmps _ _ _ Dk) ++ (fun h : D32 => [.blk go (.cells (#[.string (Subtype.val h)]) 9 (0, 0))]) (⟨root sum c, sum_root_size c⟩ : D32)) ++ [.blk zbbackS (.cells (#[.slice A1 (ws.length - 1) c1]) 26 (0, 0)), .row A1 c1 9 1 (List.map strC ws), .row A2 c2 3 1 (List.map intC ns)]) := hw
    have hO0 := hM.fresh (List.subset_append_left _ _) (World.block_lt_of_cell? w _ (hG 0 _ rfl))
    have hGw : Rounds w1 := hG.keep hw (by simp)
    refine (w_backS1 (l := l) (Dk := Dk) (St := (fun h : D32 => [.blk go (.cells (#[.string (Subtype.val h)]) 9 (0, 0))])) (Rl := (fun (h : D32) (x : List Value) (h' : D32) => ∀ q a0, (List.take (ws.length - 1) ws)[List.length (List.take (ws.length - 1) ws) - 1 - q]? = some a0 → x = [.int .i64 ((List.length (List.take (ws.length - 1) ws) - 1 - q : Nat) : Int), .string a0] → h' = nodeD h a0)) (ok := (fun x => ∃ q a0, (List.take (ws.length - 1) ws)[List.length (List.take (ws.length - 1) ws) - 1 - q]? = some a0 ∧ x = [.int .i64 ((List.length (List.take (ws.length - 1) ws) - 1 - q : Nat) : Int), .string a0])) (⟨root sum c, sum_root_size c⟩ : D32) ?_ (List.take (ws.length - 1) ws) (Rd.takeM (Ent.rd (hM.ents _ (List.mem_of_getElem? (i := 4) rfl))) (ws.length - 1)) (hM.apartA hO0 1 rfl) (hM.cellOf (i := 3) rfl (by rw [List.length_take, Nat.min_eq_left (Nat.sub_le _ _)]; rfl)) (hM.apart 0 rfl (by simp [Ent.blocks])) (by simp; omega) (fun q hq => by obtain ⟨a0, ha0⟩ := get_some (l := (List.take (ws.length - 1) ws)) (k := List.length (List.take (ws.length - 1) ws) - 1 - q) (by omega); exact ⟨q, a0, ha0, backI_at ha0⟩) hs).mono ?_
    ·rintro h x w2 ⟨q, a0, ha0, rfl⟩ hag hs2
     have ha32 := hx32 a0 (List.mem_of_getElem? ha0)
     have hh32 := h.2
     have hO3 := hO0
     simp [Ent.blocks, mrow] at hO3
     have hnd := hs2.nodup
     simp [Ent.blocks, mrow] at hnd
     have hG2 : Rounds w2 := fun p y hp => by
            have h0 := hGw p y hp
            rw [← h0]
            exact World.cell?_of_block (hag 0 (World.block_lt_of_cell? w1 _ h0) hO0)
     refine round_of_CX2 (n := Tryz.f21.ntmps) (V0 := [(91, .string a0), (90, .int .i64 ((List.length (List.take (ws.length - 1) ws) - 1 - q : Nat) : Int)), (8, .pointer (some ⟨go, 0, none⟩))]) (σ := Unit) (τ := D32) (M := [.blk go (.cells (#[.string (Subtype.val h)]) 9 (0, 0))]) (fun _ => [(8, .pointer (some ⟨go, 0, none⟩)), (10, .string a0)]) (fun _ => [.blk go (.cells (#[.string (Subtype.val h)]) 9 (0, 0))]) (fun _ => True) (LL := (fun h : D32 => [.blk go (.cells (#[.string (Subtype.val h)]) 9 (0, 0))])) (post := fun h' => ∀ q' a', (List.take (ws.length - 1) ws)[List.length (List.take (ws.length - 1) ws) - 1 - q']? = some a' → [Value.int .i64 ((List.length (List.take (ws.length - 1) ws) - 1 - q : Nat) : Int), .string a0] = [.int .i64 ((List.length (List.take (ws.length - 1) ws) - 1 - q' : Nat) : Int), .string a'] → h' = nodeD h a') rfl rfl rfl ?_ ?_ ?_ hs2
     ·exact ((ha.sub (V' := [(8, .pointer (some ⟨go, 0, none⟩))]) ⟨rfl, trivial⟩).round 90 rfl _).round 91 rfl _
     ·refine CX.region ?_
      refine RX.cons rfl rfl (op_w (yw_assign rfl rfl) rfl rfl ?_)
      refine RX.nil (XX.meetP ([]) () trivial ⟨rfl, rfl, trivial⟩ ((perm_pick 0 rfl).trans (List.Perm.cons _ ((perm_pick 0 rfl).trans (List.Perm.cons _ ((perm_pick 0 rfl).trans (List.Perm.cons _ (List.Perm.refl _))))))))
     ·intro _ _
      refine CX.block ?_
      refine CX.region ?_
      refine RX.cons rfl rfl (op_w (yw_move rfl rfl) rfl rfl ?_)
      refine RX.cons rfl rfl (op_yld (y_load (i := 2) rfl rfl one_9 rfl rfl) rfl rfl ?_)
      refine RX.cons rfl rfl (op_callV (v := .string (nodeH sum a0 (Subtype.val h))) rfl rfl rfl rfl rfl ent_42 (fun w hw => w_node a0 (Subtype.val h) (hG2.keep hw hO0) (by omega)) ?_)
      refine RX.cons rfl rfl (op_storeAll (i := 2) rfl rfl rfl rfl szt_9 rfl (plain_of rfl) rfl rfl ?_)
      refine RX.nil (XX.inBlock (V' := []) trivial ?_)
      refine XX.meetP ([]) (nodeD h a0) (fun q' a' _ he => by rw [str_inj he]) trivial ((perm_pick 0 rfl).trans (List.Perm.cons _ ((perm_pick 0 rfl).trans (List.Perm.cons _ ((perm_pick 0 rfl).trans (List.Perm.cons _ (List.Perm.refl _)))))))
    ·exact fun e w' ⟨h, hst, he, hz⟩ => ⟨h, Steps.backAll (f := strV) (step := fun (h : D32) (a : ByteArray) => nodeD h a) (List.take (ws.length - 1) ws) (fun s q a0 s' h0 hr => hr q a0 h0 (backI_at h0)) hst, ⟨_, he⟩, hz⟩
   ·intro h l Dk ob hh
    have hhv : h.1 = root sum C.flatten := by rw [hh, nodeD_fold]; exact hC.end (by intro e; simp [e] at hc) hc hws
    refine XX.inBlock (V' := [(8, _)]) ⟨rfl, trivial⟩ ?_
    refine XX.next (V' := [(8, _)]) ⟨rfl, trivial⟩ ?_
    refine CX.seq ?_
    refine CX.region ?_
    refine RX.cons rfl rfl (op_yld (y_load (i := 2) rfl rfl one_9 rfl rfl) rfl rfl ?_)
    refine RX.cons rfl rfl (op_w (yw_assign rfl rfl) rfl rfl ?_)
    refine RX.nil (XX.next (V' := [(2, .string (Subtype.val h))]) ⟨rfl, trivial⟩ ?_)
    refine CX.ret ?_
    exact ret_tmpM (k := 1) rfl rfl rfl fun w1 hw => ⟨by rw [hhv, hCf, hxs], hw.sub (List.nil_sublist _)⟩

end Go.Proofs.YtnadipjlhlbfoaaGreatDoor
namespace Go.Proofs.YtnadipjlhlbfoaaGreatDoor
set_option linter.all false
open Go Go.RowKit
section
variable (h : B → B)
theorem pathF_fuel : ∀ (k j : Nat) (l : List B) (i : Nat), l.length ≤ k → l.length ≤ j → pathF h k l i = pathF h j l i
  | 0, 0, _, _, _, _ => rfl
  | 0, j + 1, l, i, h1, _ => by unfold pathF; rw [if_pos (by omega)]
  | k + 1, 0, l, i, _, h2 => by unfold pathF; rw [if_pos (by omega)]
  | k + 1, j + 1, l, i, h1, h2 => by
    unfold pathF
    by_cases hl : l.length ≤ 1
    · rw [if_pos hl, if_pos hl]
    · have hp := lft_pos l.length
      have hq := lft_lt (n := l.length) (by omega)
      rw [if_neg hl, if_neg hl, pathF_fuel k j (l.take _) i (by simp; omega) (by simp; omega), pathF_fuel k j (l.drop _) _ (by simp; omega) (by simp; omega)]
def path (l : List B) (i : Nat) : List B := pathF h l.length l i
theorem path_one {l : List B} (hl : l.length ≤ 1) (i : Nat) : path h l i = [] := by
  unfold path
  match hn : l.length, hl with
  | 0, _ => rfl
  | 1, _ => unfold pathF; rw [if_pos (by omega)]
theorem path_lt {l : List B} (hl : 2 ≤ l.length) {i : Nat} (hi : i < lft l.length) : path h l i = root h (l.drop (lft l.length)) :: path h (l.take (lft l.length)) i := by
  obtain ⟨k, hk⟩ : ∃ k, l.length = k + 1 := ⟨l.length - 1, by omega⟩
  have hp := lft_pos l.length
  have hq := lft_lt (n := l.length) (by omega)
  have e : path h l i = pathF h (k + 1) l i := by unfold path; rw [hk]
  rw [e, pathF, if_neg (by omega), if_pos hi, path, pathF_fuel h k _ (l.take _) i (by simp; omega) (Nat.le_refl _)]
theorem path_ge {l : List B} (hl : 2 ≤ l.length) {i : Nat} (hi : lft l.length ≤ i) : path h l i = root h (l.take (lft l.length)) :: path h (l.drop (lft l.length)) (i - lft l.length) := by
  obtain ⟨k, hk⟩ : ∃ k, l.length = k + 1 := ⟨l.length - 1, by omega⟩
  have hp := lft_pos l.length
  have hq := lft_lt (n := l.length) (by omega)
  have e : path h l i = pathF h (k + 1) l i := by unfold path; rw [hk]
  rw [e, pathF, if_neg (by omega), if_neg (by omega), path, pathF_fuel h k _ (l.drop _) _ (by simp; omega) (Nat.le_refl _)]
theorem extF_fuel : ∀ (k j : Nat) (l : List B) (m : Nat) (w : Bool), 1 ≤ m → m ≤ l.length → l.length ≤ k → l.length ≤ j → extF h k l m w = extF h j l m w
  | 0, _, _, _, _, h0, h3, h1, _ => by omega
  | _ + 1, 0, _, _, _, h0, h3, _, h2 => by omega
  | k + 1, j + 1, l, m, w, h0, h3, h1, h2 => by
    unfold extF
    by_cases hl : l.length ≤ m
    · rw [if_pos hl, if_pos hl]
    · rw [if_neg hl, if_neg hl]
      have hp := lft_pos l.length
      have hq := lft_lt (n := l.length) (by omega)
      by_cases hm : m ≤ lft l.length
      · rw [if_pos hm, if_pos hm, extF_fuel k j (l.take _) m w h0 (by simp; omega) (by simp; omega) (by simp; omega)]
      · rw [if_neg hm, if_neg hm, extF_fuel k j (l.drop _) _ false (by omega) (by simp; omega) (by simp; omega) (by simp; omega)]
def ext (l : List B) (m : Nat) (w : Bool) : List B := extF h l.length l m w
theorem ext_done {l : List B} {m : Nat} (hm : l.length ≤ m) (h0 : 1 ≤ l.length) (w : Bool) : ext h l m w = if w then [] else [root h l] := by
  obtain ⟨k, hk⟩ : ∃ k, l.length = k + 1 := ⟨l.length - 1, by omega⟩
  have e : ext h l m w = extF h (k + 1) l m w := by unfold ext; rw [hk]
  rw [e, extF, if_pos hm]
theorem ext_le {l : List B} {m : Nat} (h1 : 1 ≤ m) (hl : m < l.length) (hm : m ≤ lft l.length) (w : Bool) : ext h l m w = root h (l.drop (lft l.length)) :: ext h (l.take (lft l.length)) m w := by
  obtain ⟨k, hk⟩ : ∃ k, l.length = k + 1 := ⟨l.length - 1, by omega⟩
  have hp := lft_pos l.length
  have hq := lft_lt (n := l.length) (by omega)
  have e : ext h l m w = extF h (k + 1) l m w := by unfold ext; rw [hk]
  rw [e, extF, if_neg (by omega), if_pos hm, ext, extF_fuel h k _ (l.take _) m w h1 (by simp; omega) (by simp; omega) (Nat.le_refl _)]
theorem ext_gt {l : List B} {m : Nat} (h1 : 1 ≤ m) (hl : m < l.length) (hm : lft l.length < m) (w : Bool) : ext h l m w = root h (l.take (lft l.length)) :: ext h (l.drop (lft l.length)) (m - lft l.length) false := by
  obtain ⟨k, hk⟩ : ∃ k, l.length = k + 1 := ⟨l.length - 1, by omega⟩
  have hp := lft_pos l.length
  have hq := lft_lt (n := l.length) (by omega)
  have e : ext h l m w = extF h (k + 1) l m w := by unfold ext; rw [hk]
  rw [e, extF, if_neg (by omega), if_neg (by omega), ext, extF_fuel h k _ (l.drop _) _ false (by omega) (by simp; omega) (by simp; omega) (Nat.le_refl _)]
end
end Go.Proofs.YtnadipjlhlbfoaaGreatDoor
