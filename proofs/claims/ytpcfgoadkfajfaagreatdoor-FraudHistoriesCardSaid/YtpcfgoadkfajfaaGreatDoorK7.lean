/- Walks, printed by a program. Walks, printed by a program. Walks, printed by a program. Walks, printed by a program. Walks, printed by a program. A cluster reached step by step. No program in it. A cluster reached step by step: what holds on the way. No program in it. Walks, printed by a program. Several entries as one. make of a slice; a copy of all of a slice into it. A builder's buffer: a row of bytes to which strings are appended; its bytes as a string; pointers told apart; functions of the table. A slice of a slice between two places; rows picked out of rows. Two Bools compared. append of a part of a slice of one's own; copy into the head of a slice of one's own. A store into one cell of an element of a slice of one's own; an entry taken out of a pack, and put back. -/
import Derived.Test.YtpcfgoadkfajfaaGreatDoorK6
import Derived.Test.YtpcfgoadkfajfaaGreatDoorK5
import Derived.Laws.OwnMore
import Derived.Laws.CopyRow
import Derived.Lib.Builder
import Derived.Lib.MakeNoZero
import Derived.Lib.UnsafeStr
import Derived.Laws.Externs
import Derived.LaidEqlPtr
namespace Go.Proofs.YtpcfgoadkfajfaaGreatDoor
set_option linter.all false
open Go Go.RowKit
set_option maxRecDepth 100000
theorem slt_34 : SlT Tryz.prog 34 39 9 := ⟨(Tryz.prog.info? 39).get!, Tryz.underlying34, by kernel_rfl, by kernel_rfl⟩
theorem ent_101 : ∀ args w, (callFunc 101 args).run Tryz.prog w = .ok (.enter 101 args) w := enters_of Tryz.func101 (by kernel_rfl) rfl
theorem kmapt_187 : KMapT Tryz.prog (fun x : Int => Value.int .i64 x) 187 (.bool false) := ⟨_, _, (Tryz.prog.info? 4).get!, Tryz.underlying187, (keyOk_int Tryz.underlying3), by kernel_rfl, by kernel_rfl⟩
theorem ent_102 : ∀ args w, (callFunc 102 args).run Tryz.prog w = .ok (.enter 102 args) w := enters_of Tryz.func102 (by kernel_rfl) rfl
theorem ent_103 : ∀ args w, (callFunc 103 args).run Tryz.prog w = .ok (.enter 103 args) w := enters_of Tryz.func103 (by kernel_rfl) rfl
/-- What has been seen of a list, and how many different numbers it has. -/
def seenL (xs : List Int) : List (Int × Bool) := xs.foldl (fun kv x => kset x true kv) []
def dcount (xs : List Int) : Nat := (seenL xs).length
theorem seenL_snoc (xs : List Int) (x : Int) : seenL (xs ++ [x]) = kset x true (seenL xs) := by simp [seenL]
set_option maxRecDepth 100000 in
theorem w_diff_account {w : World} {A : Option Addr} {cap : Nat} (l : List Sm) (hr : Rd w A 9 (l.map smC)) (hl : l.length ≤ 1000000) :
    Calls Tryz.prog 100 #[.slice A l.length cap, .func (.func 101) #[] #[]] w (fun e w' => e = .returned (.int .i64 ((dcount (l.map Sm.acc) : Nat) : Int)) ∧ SL w [] w' []) := by
 refine calls_of_CX (O := []) (L := []) (args := [.slice A l.length cap, .func (.func 101) #[] #[]]) Tryz.func100 rfl (by simp [Tryz.ntmps100]) (SL.refl w) ?_
 refine CX.sub (V' := [(0, .slice A l.length cap), (1, .func (.func 101) #[] #[])]) ⟨rfl, rfl, trivial⟩ ?_
 refine CX.seq ?_
 refine CX.region ?_
 refine RX.cons rfl rfl (op_w (yw_assign rfl rfl) rfl rfl ?_)
 refine RX.nil (XX.next (V' := [(0, _), (1, _)]) ⟨rfl, rfl, trivial⟩ ?_)
 refine CX.seq ?_
 refine CX.region ?_
 refine RX.cons rfl rfl (op_kmake (fun x : Int => Value.int .i64 x) Value.bool rfl rfl rfl fun gm => ?_)
 refine RX.cons rfl rfl (op_w (yw_assign rfl rfl) rfl rfl ?_)
 refine RX.nil (XX.next (V' := [(0, _), (1, _), (5, _)]) ⟨rfl, rfl, rfl, trivial⟩ ?_)
 refine CX.seq ?_
 refine CX.seq ?_
 refine CX.region ?_
 refine RX.cons rfl rfl (op_w (yw_move rfl rfl) rfl rfl ?_)
 refine RX.cons rfl rfl (op_w (yw_lenS rfl Tryz.underlying34 rfl) rfl rfl ?_)
 refine RX.cons rfl rfl (op_w (yw_move rfl rfl) rfl rfl ?_)
 refine RX.nil (XX.next (V' := [(1, _), (5, _), (9, _), (10, _), (11, _)]) ⟨rfl, rfl, rfl, rfl, rfl, trivial⟩ ?_)
 refine CX.block ?_
 refine CX.loop (σ := Nat × List (Int × Bool)) (fun z => [(1, .func (.func 101) #[] #[]), (5, .map (some gm)), (9, .slice A l.length cap), (10, .int .i64 ((l.length : Nat) : Int)), (11, .int .i64 ((z.1 : Nat) : Int))]) (fun z => [kmap (fun x : Int => Value.int .i64 x) Value.bool gm z.2]) (fun z => z.1 ≤ l.length ∧ z.2 = seenL ((l.take z.1).map Sm.acc)) (fun z => l.length - z.1) (0, []) ⟨Nat.zero_le _, rfl⟩ ⟨rfl, rfl, rfl, rfl, rfl, trivial⟩ rfl (fun z hI => ?_)
 obtain ⟨i, kv⟩ := z
 dsimp only at hI ⊢
 obtain ⟨hi, hkv⟩ := hI
 refine CX.seq ?_
 refine CX.region ?_
 refine RX.cons rfl rfl (op_w (yw_lss rfl rfl rfl) rfl rfl ?_)
 refine RX.nil (XX.next (V' := [(1, _), (5, _), (9, _), (10, _), (11, _), (12, _)]) ⟨rfl, rfl, rfl, rfl, rfl, rfl, trivial⟩ ?_)
 refine CX.seq ?_
 refine CX.condD (p := ((i : Nat) : Int) < ((l.length : Nat) : Int)) rfl (fun c12 => ?_) (fun c12 => ?_)
 ·obtain ⟨x0, hx0⟩ := get_some (l := l) (k := i) (by omega)
  have hx0m := List.mem_of_getElem? hx0
  have hA : ∃ b j, A = some ⟨b, j, none⟩ := hr.some (k := 0) (by simp; omega)
  refine CX.skip (XX.next (V' := [(1, _), (5, _), (9, _), (10, _), (11, _)]) ⟨rfl, rfl, rfl, rfl, rfl, trivial⟩ ?_)
  refine CX.seq ?_
  refine CX.block ?_
  refine CX.seq ?_
  refine CX.region ?_
  refine RX.cons rfl rfl (op_w (yw_index (k := i) rfl slt_34 rfl rfl (by omega) (by omega) hA) rfl rfl ?_)
  refine RX.cons rfl rfl (op_yld (y_elem rfl rfl agg_39 hr (by simp) (map_get hx0)) rfl rfl ?_)
  refine RX.cons rfl rfl (op_alloc rfl rfl rfl zero_39 fun gx => ?_)
  refine RX.cons rfl rfl (op_storeAll (i := 0) rfl rfl rfl rfl szt_39 rfl (plain_of rfl) rfl rfl ?_)
  refine RX.nil (XX.next (V' := [(1, _), (5, _), (7, _), (9, _), (10, _), (11, _)]) ⟨rfl, rfl, rfl, rfl, rfl, rfl, trivial⟩ ?_)
  refine CX.region ?_
  refine RX.cons rfl rfl (op_w (yw_move rfl rfl) rfl rfl ?_)
  refine RX.cons rfl rfl (op_w (yw_move rfl rfl) rfl rfl ?_)
  refine RX.cons rfl rfl (op_yld (y_loadA (i := 0) rfl rfl agg_39 rfl rfl) rfl rfl ?_)
  refine RX.cons rfl rfl (op_callV (v := .int .i64 (Sm.acc x0)) rfl rfl rfl rfl rfl ent_101 (fun w hw => w_account x0) ?_)
  refine RX.cons rfl rfl (op_kupdate (i := 1) (k := (Sm.acc x0)) (u := true) (kv := kv) (encK := (fun x : Int => Value.int .i64 x)) (encV := Value.bool) (.inl rfl) rfl rfl rfl rfl kmapt_187 rfl ?_)
  refine RX.nil (XX.inBlock (V' := [(1, _), (5, _), (9, _), (10, _), (11, _)]) ⟨rfl, rfl, rfl, rfl, rfl, trivial⟩ ?_)
  refine XX.next (V' := [(1, _), (5, _), (9, _), (10, _), (11, _)]) ⟨rfl, rfl, rfl, rfl, rfl, trivial⟩ ?_
  refine CX.region ?_
  refine RX.cons rfl rfl (op_w (yw_add rfl rfl rfl (by omega) (by omega)) rfl rfl ?_)
  refine RX.cons rfl rfl (op_w (yw_move rfl rfl) rfl rfl ?_)
  refine RX.nil (XX.againP ([.blk gx (.cells (smC x0) 39 (0, 0))]) (i + 1, kset (Sm.acc x0) true kv) (by dsimp only; omega) ⟨by dsimp only; omega, by dsimp only; rw [take_map_succ hx0, seenL_snoc, ← hkv]⟩ ⟨rfl, rfl, rfl, rfl, rfl, trivial⟩ ((perm_pick 1 rfl).trans (List.Perm.cons _ (List.Perm.refl _))))
 ·rw [List.take_of_length_le (by omega)] at hkv
  refine CX.exit ?_
  refine XX.then_exit ?_
  refine XX.then_exit ?_
  refine XX.block_exit ?_
  refine XX.next (V' := [(5, _)]) ⟨rfl, trivial⟩ ?_
  refine CX.seq ?_
  refine CX.region ?_
  refine RX.cons rfl rfl (op_w (yw_move rfl rfl) rfl rfl ?_)
  refine RX.cons rfl rfl (op_yld (y_klen (i := 0) (kv := kv) (encK := (fun x : Int => Value.int .i64 x)) (encV := Value.bool) rfl Tryz.underlying187 rfl rfl) rfl rfl ?_)
  refine RX.cons rfl rfl (op_w (yw_assign rfl rfl) rfl rfl ?_)
  refine RX.nil (XX.next (V' := [(4, .int .i64 ((List.length kv : Nat) : Int))]) ⟨rfl, trivial⟩ ?_)
  refine CX.ret ?_
  exact ret_tmp rfl rfl fun w1 hw => ⟨by rw [hkv]; rfl, hw.sub (List.nil_sublist _)⟩

set_option maxRecDepth 100000 in
theorem w_diff_device {w : World} {A : Option Addr} {cap : Nat} (l : List Sm) (hr : Rd w A 9 (l.map smC)) (hl : l.length ≤ 1000000) :
    Calls Tryz.prog 100 #[.slice A l.length cap, .func (.func 102) #[] #[]] w (fun e w' => e = .returned (.int .i64 ((dcount (l.map Sm.dev) : Nat) : Int)) ∧ SL w [] w' []) := by
 refine calls_of_CX (O := []) (L := []) (args := [.slice A l.length cap, .func (.func 102) #[] #[]]) Tryz.func100 rfl (by simp [Tryz.ntmps100]) (SL.refl w) ?_
 refine CX.sub (V' := [(0, .slice A l.length cap), (1, .func (.func 102) #[] #[])]) ⟨rfl, rfl, trivial⟩ ?_
 refine CX.seq ?_
 refine CX.region ?_
 refine RX.cons rfl rfl (op_w (yw_assign rfl rfl) rfl rfl ?_)
 refine RX.nil (XX.next (V' := [(0, _), (1, _)]) ⟨rfl, rfl, trivial⟩ ?_)
 refine CX.seq ?_
 refine CX.region ?_
 refine RX.cons rfl rfl (op_kmake (fun x : Int => Value.int .i64 x) Value.bool rfl rfl rfl fun gm => ?_)
 refine RX.cons rfl rfl (op_w (yw_assign rfl rfl) rfl rfl ?_)
 refine RX.nil (XX.next (V' := [(0, _), (1, _), (5, _)]) ⟨rfl, rfl, rfl, trivial⟩ ?_)
 refine CX.seq ?_
 refine CX.seq ?_
 refine CX.region ?_
 refine RX.cons rfl rfl (op_w (yw_move rfl rfl) rfl rfl ?_)
 refine RX.cons rfl rfl (op_w (yw_lenS rfl Tryz.underlying34 rfl) rfl rfl ?_)
 refine RX.cons rfl rfl (op_w (yw_move rfl rfl) rfl rfl ?_)
 refine RX.nil (XX.next (V' := [(1, _), (5, _), (9, _), (10, _), (11, _)]) ⟨rfl, rfl, rfl, rfl, rfl, trivial⟩ ?_)
 refine CX.block ?_
 refine CX.loop (σ := Nat × List (Int × Bool)) (fun z => [(1, .func (.func 102) #[] #[]), (5, .map (some gm)), (9, .slice A l.length cap), (10, .int .i64 ((l.length : Nat) : Int)), (11, .int .i64 ((z.1 : Nat) : Int))]) (fun z => [kmap (fun x : Int => Value.int .i64 x) Value.bool gm z.2]) (fun z => z.1 ≤ l.length ∧ z.2 = seenL ((l.take z.1).map Sm.dev)) (fun z => l.length - z.1) (0, []) ⟨Nat.zero_le _, rfl⟩ ⟨rfl, rfl, rfl, rfl, rfl, trivial⟩ rfl (fun z hI => ?_)
 obtain ⟨i, kv⟩ := z
 dsimp only at hI ⊢
 obtain ⟨hi, hkv⟩ := hI
 refine CX.seq ?_
 refine CX.region ?_
 refine RX.cons rfl rfl (op_w (yw_lss rfl rfl rfl) rfl rfl ?_)
 refine RX.nil (XX.next (V' := [(1, _), (5, _), (9, _), (10, _), (11, _), (12, _)]) ⟨rfl, rfl, rfl, rfl, rfl, rfl, trivial⟩ ?_)
 refine CX.seq ?_
 refine CX.condD (p := ((i : Nat) : Int) < ((l.length : Nat) : Int)) rfl (fun c12 => ?_) (fun c12 => ?_)
 ·obtain ⟨x0, hx0⟩ := get_some (l := l) (k := i) (by omega)
  have hx0m := List.mem_of_getElem? hx0
  have hA : ∃ b j, A = some ⟨b, j, none⟩ := hr.some (k := 0) (by simp; omega)
  refine CX.skip (XX.next (V' := [(1, _), (5, _), (9, _), (10, _), (11, _)]) ⟨rfl, rfl, rfl, rfl, rfl, trivial⟩ ?_)
  refine CX.seq ?_
  refine CX.block ?_
  refine CX.seq ?_
  refine CX.region ?_
  refine RX.cons rfl rfl (op_w (yw_index (k := i) rfl slt_34 rfl rfl (by omega) (by omega) hA) rfl rfl ?_)
  refine RX.cons rfl rfl (op_yld (y_elem rfl rfl agg_39 hr (by simp) (map_get hx0)) rfl rfl ?_)
  refine RX.cons rfl rfl (op_alloc rfl rfl rfl zero_39 fun gx => ?_)
  refine RX.cons rfl rfl (op_storeAll (i := 0) rfl rfl rfl rfl szt_39 rfl (plain_of rfl) rfl rfl ?_)
  refine RX.nil (XX.next (V' := [(1, _), (5, _), (7, _), (9, _), (10, _), (11, _)]) ⟨rfl, rfl, rfl, rfl, rfl, rfl, trivial⟩ ?_)
  refine CX.region ?_
  refine RX.cons rfl rfl (op_w (yw_move rfl rfl) rfl rfl ?_)
  refine RX.cons rfl rfl (op_w (yw_move rfl rfl) rfl rfl ?_)
  refine RX.cons rfl rfl (op_yld (y_loadA (i := 0) rfl rfl agg_39 rfl rfl) rfl rfl ?_)
  refine RX.cons rfl rfl (op_callV (v := .int .i64 (Sm.dev x0)) rfl rfl rfl rfl rfl ent_102 (fun w hw => w_device x0) ?_)
  refine RX.cons rfl rfl (op_kupdate (i := 1) (k := (Sm.dev x0)) (u := true) (kv := kv) (encK := (fun x : Int => Value.int .i64 x)) (encV := Value.bool) (.inl rfl) rfl rfl rfl rfl kmapt_187 rfl ?_)
  refine RX.nil (XX.inBlock (V' := [(1, _), (5, _), (9, _), (10, _), (11, _)]) ⟨rfl, rfl, rfl, rfl, rfl, trivial⟩ ?_)
  refine XX.next (V' := [(1, _), (5, _), (9, _), (10, _), (11, _)]) ⟨rfl, rfl, rfl, rfl, rfl, trivial⟩ ?_
  refine CX.region ?_
  refine RX.cons rfl rfl (op_w (yw_add rfl rfl rfl (by omega) (by omega)) rfl rfl ?_)
  refine RX.cons rfl rfl (op_w (yw_move rfl rfl) rfl rfl ?_)
  refine RX.nil (XX.againP ([.blk gx (.cells (smC x0) 39 (0, 0))]) (i + 1, kset (Sm.dev x0) true kv) (by dsimp only; omega) ⟨by dsimp only; omega, by dsimp only; rw [take_map_succ hx0, seenL_snoc, ← hkv]⟩ ⟨rfl, rfl, rfl, rfl, rfl, trivial⟩ ((perm_pick 1 rfl).trans (List.Perm.cons _ (List.Perm.refl _))))
 ·rw [List.take_of_length_le (by omega)] at hkv
  refine CX.exit ?_
  refine XX.then_exit ?_
  refine XX.then_exit ?_
  refine XX.block_exit ?_
  refine XX.next (V' := [(5, _)]) ⟨rfl, trivial⟩ ?_
  refine CX.seq ?_
  refine CX.region ?_
  refine RX.cons rfl rfl (op_w (yw_move rfl rfl) rfl rfl ?_)
  refine RX.cons rfl rfl (op_yld (y_klen (i := 0) (kv := kv) (encK := (fun x : Int => Value.int .i64 x)) (encV := Value.bool) rfl Tryz.underlying187 rfl rfl) rfl rfl ?_)
  refine RX.cons rfl rfl (op_w (yw_assign rfl rfl) rfl rfl ?_)
  refine RX.nil (XX.next (V' := [(4, .int .i64 ((List.length kv : Nat) : Int))]) ⟨rfl, trivial⟩ ?_)
  refine CX.ret ?_
  exact ret_tmp rfl rfl fun w1 hw => ⟨by rw [hkv]; rfl, hw.sub (List.nil_sublist _)⟩

set_option maxRecDepth 100000 in
theorem w_diff_recording {w : World} {A : Option Addr} {cap : Nat} (l : List Sm) (hr : Rd w A 9 (l.map smC)) (hl : l.length ≤ 1000000) :
    Calls Tryz.prog 100 #[.slice A l.length cap, .func (.func 103) #[] #[]] w (fun e w' => e = .returned (.int .i64 ((dcount (l.map Sm.song) : Nat) : Int)) ∧ SL w [] w' []) := by
 refine calls_of_CX (O := []) (L := []) (args := [.slice A l.length cap, .func (.func 103) #[] #[]]) Tryz.func100 rfl (by simp [Tryz.ntmps100]) (SL.refl w) ?_
 refine CX.sub (V' := [(0, .slice A l.length cap), (1, .func (.func 103) #[] #[])]) ⟨rfl, rfl, trivial⟩ ?_
 refine CX.seq ?_
 refine CX.region ?_
 refine RX.cons rfl rfl (op_w (yw_assign rfl rfl) rfl rfl ?_)
 refine RX.nil (XX.next (V' := [(0, _), (1, _)]) ⟨rfl, rfl, trivial⟩ ?_)
 refine CX.seq ?_
 refine CX.region ?_
 refine RX.cons rfl rfl (op_kmake (fun x : Int => Value.int .i64 x) Value.bool rfl rfl rfl fun gm => ?_)
 refine RX.cons rfl rfl (op_w (yw_assign rfl rfl) rfl rfl ?_)
 refine RX.nil (XX.next (V' := [(0, _), (1, _), (5, _)]) ⟨rfl, rfl, rfl, trivial⟩ ?_)
 refine CX.seq ?_
 refine CX.seq ?_
 refine CX.region ?_
 refine RX.cons rfl rfl (op_w (yw_move rfl rfl) rfl rfl ?_)
 refine RX.cons rfl rfl (op_w (yw_lenS rfl Tryz.underlying34 rfl) rfl rfl ?_)
 refine RX.cons rfl rfl (op_w (yw_move rfl rfl) rfl rfl ?_)
 refine RX.nil (XX.next (V' := [(1, _), (5, _), (9, _), (10, _), (11, _)]) ⟨rfl, rfl, rfl, rfl, rfl, trivial⟩ ?_)
 refine CX.block ?_
 refine CX.loop (σ := Nat × List (Int × Bool)) (fun z => [(1, .func (.func 103) #[] #[]), (5, .map (some gm)), (9, .slice A l.length cap), (10, .int .i64 ((l.length : Nat) : Int)), (11, .int .i64 ((z.1 : Nat) : Int))]) (fun z => [kmap (fun x : Int => Value.int .i64 x) Value.bool gm z.2]) (fun z => z.1 ≤ l.length ∧ z.2 = seenL ((l.take z.1).map Sm.song)) (fun z => l.length - z.1) (0, []) ⟨Nat.zero_le _, rfl⟩ ⟨rfl, rfl, rfl, rfl, rfl, trivial⟩ rfl (fun z hI => ?_)
 obtain ⟨i, kv⟩ := z
 dsimp only at hI ⊢
 obtain ⟨hi, hkv⟩ := hI
 refine CX.seq ?_
 refine CX.region ?_
 refine RX.cons rfl rfl (op_w (yw_lss rfl rfl rfl) rfl rfl ?_)
 refine RX.nil (XX.next (V' := [(1, _), (5, _), (9, _), (10, _), (11, _), (12, _)]) ⟨rfl, rfl, rfl, rfl, rfl, rfl, trivial⟩ ?_)
 refine CX.seq ?_
 refine CX.condD (p := ((i : Nat) : Int) < ((l.length : Nat) : Int)) rfl (fun c12 => ?_) (fun c12 => ?_)
 ·obtain ⟨x0, hx0⟩ := get_some (l := l) (k := i) (by omega)
  have hx0m := List.mem_of_getElem? hx0
  have hA : ∃ b j, A = some ⟨b, j, none⟩ := hr.some (k := 0) (by simp; omega)
  refine CX.skip (XX.next (V' := [(1, _), (5, _), (9, _), (10, _), (11, _)]) ⟨rfl, rfl, rfl, rfl, rfl, trivial⟩ ?_)
  refine CX.seq ?_
  refine CX.block ?_
  refine CX.seq ?_
  refine CX.region ?_
  refine RX.cons rfl rfl (op_w (yw_index (k := i) rfl slt_34 rfl rfl (by omega) (by omega) hA) rfl rfl ?_)
  refine RX.cons rfl rfl (op_yld (y_elem rfl rfl agg_39 hr (by simp) (map_get hx0)) rfl rfl ?_)
  refine RX.cons rfl rfl (op_alloc rfl rfl rfl zero_39 fun gx => ?_)
  refine RX.cons rfl rfl (op_storeAll (i := 0) rfl rfl rfl rfl szt_39 rfl (plain_of rfl) rfl rfl ?_)
  refine RX.nil (XX.next (V' := [(1, _), (5, _), (7, _), (9, _), (10, _), (11, _)]) ⟨rfl, rfl, rfl, rfl, rfl, rfl, trivial⟩ ?_)
  refine CX.region ?_
  refine RX.cons rfl rfl (op_w (yw_move rfl rfl) rfl rfl ?_)
  refine RX.cons rfl rfl (op_w (yw_move rfl rfl) rfl rfl ?_)
  refine RX.cons rfl rfl (op_yld (y_loadA (i := 0) rfl rfl agg_39 rfl rfl) rfl rfl ?_)
  refine RX.cons rfl rfl (op_callV (v := .int .i64 (Sm.song x0)) rfl rfl rfl rfl rfl ent_103 (fun w hw => w_recording x0) ?_)
  refine RX.cons rfl rfl (op_kupdate (i := 1) (k := (Sm.song x0)) (u := true) (kv := kv) (encK := (fun x : Int => Value.int .i64 x)) (encV := Value.bool) (.inl rfl) rfl rfl rfl rfl kmapt_187 rfl ?_)
  refine RX.nil (XX.inBlock (V' := [(1, _), (5, _), (9, _), (10, _), (11, _)]) ⟨rfl, rfl, rfl, rfl, rfl, trivial⟩ ?_)
  refine XX.next (V' := [(1, _), (5, _), (9, _), (10, _), (11, _)]) ⟨rfl, rfl, rfl, rfl, rfl, trivial⟩ ?_
  refine CX.region ?_
  refine RX.cons rfl rfl (op_w (yw_add rfl rfl rfl (by omega) (by omega)) rfl rfl ?_)
  refine RX.cons rfl rfl (op_w (yw_move rfl rfl) rfl rfl ?_)
  refine RX.nil (XX.againP ([.blk gx (.cells (smC x0) 39 (0, 0))]) (i + 1, kset (Sm.song x0) true kv) (by dsimp only; omega) ⟨by dsimp only; omega, by dsimp only; rw [take_map_succ hx0, seenL_snoc, ← hkv]⟩ ⟨rfl, rfl, rfl, rfl, rfl, trivial⟩ ((perm_pick 1 rfl).trans (List.Perm.cons _ (List.Perm.refl _))))
 ·rw [List.take_of_length_le (by omega)] at hkv
  refine CX.exit ?_
  refine XX.then_exit ?_
  refine XX.then_exit ?_
  refine XX.block_exit ?_
  refine XX.next (V' := [(5, _)]) ⟨rfl, trivial⟩ ?_
  refine CX.seq ?_
  refine CX.region ?_
  refine RX.cons rfl rfl (op_w (yw_move rfl rfl) rfl rfl ?_)
  refine RX.cons rfl rfl (op_yld (y_klen (i := 0) (kv := kv) (encK := (fun x : Int => Value.int .i64 x)) (encV := Value.bool) rfl Tryz.underlying187 rfl rfl) rfl rfl ?_)
  refine RX.cons rfl rfl (op_w (yw_assign rfl rfl) rfl rfl ?_)
  refine RX.nil (XX.next (V' := [(4, .int .i64 ((List.length kv : Nat) : Int))]) ⟨rfl, trivial⟩ ?_)
  refine CX.ret ?_
  exact ret_tmp rfl rfl fun w1 hw => ⟨by rw [hkv]; rfl, hw.sub (List.nil_sublist _)⟩

end Go.Proofs.YtpcfgoadkfajfaaGreatDoor
namespace Go.Proofs.YtpcfgoadkfajfaaGreatDoor
set_option linter.all false
open Go Go.RowKit
set_option maxRecDepth 100000
theorem ent_100 : ∀ args w, (callFunc 100 args).run Tryz.prog w = .ok (.enter 100 args) w := enters_of Tryz.func100 (by kernel_rfl) rfl
/-- A measure of streams. -/
def cnt (l : List Sm) (m : Int) : Nat := if m = 1 then l.length else if m = 2 then dcount (l.map Sm.acc) else if m = 3 then dcount (l.map Sm.dev) else if m = 4 then dcount (l.map Sm.song) else 0
set_option maxRecDepth 100000 in
theorem w_count {w : World} {A : Option Addr} {cap : Nat} (l : List Sm) (hr : Rd w A 9 (l.map smC)) (hl : l.length ≤ 1000000) (m : Int) :
    Calls Tryz.prog 50 #[.slice A l.length cap, .int .i64 m] w (fun e w' => e = .returned (.int .i64 ((cnt l m : Nat) : Int)) ∧ SL w [] w' []) := by
 refine calls_of_CX (O := []) (L := []) (args := [.slice A l.length cap, .int .i64 m]) Tryz.func50 rfl (by simp [Tryz.ntmps50]) (SL.refl w) ?_
 refine CX.sub (V' := [(0, .slice A l.length cap), (1, .int .i64 m)]) ⟨rfl, rfl, trivial⟩ ?_
 refine CX.seq ?_
 refine CX.region ?_
 refine RX.cons rfl rfl (op_w (yw_assign rfl rfl) rfl rfl ?_)
 refine RX.nil (XX.next (V' := [(0, _), (1, _)]) ⟨rfl, rfl, trivial⟩ ?_)
 refine CX.seq ?_
 refine CX.seq ?_
 refine CX.region ?_
 refine RX.cons rfl rfl (op_w (yw_move rfl rfl) rfl rfl ?_)
 refine RX.nil (XX.next (V' := [(0, _), (5, _)]) ⟨rfl, rfl, trivial⟩ ?_)
 refine CX.block ?_
 refine CX.seq ?_
 refine CX.region ?_
 refine RX.cons rfl rfl (op_w (yw_eql rfl rfl rfl) rfl rfl ?_)
 refine RX.cons rfl rfl (op_w (yw_assign rfl rfl) rfl rfl ?_)
 refine RX.nil (XX.next (V' := [(0, _), (5, _), (6, _)]) ⟨rfl, rfl, rfl, trivial⟩ ?_)
 refine CX.condD (p := m = 1) rfl (fun c6 => ?_) (fun c6 => ?_)
 ·refine CX.seq ?_
  refine CX.region ?_
  refine RX.cons rfl rfl (op_w (yw_move rfl rfl) rfl rfl ?_)
  refine RX.cons rfl rfl (op_w (yw_lenS rfl Tryz.underlying34 rfl) rfl rfl ?_)
  refine RX.cons rfl rfl (op_w (yw_assign rfl rfl) rfl rfl ?_)
  refine RX.nil (XX.next (V' := [(4, .int .i64 ((l.length : Nat) : Int))]) ⟨rfl, trivial⟩ ?_)
  refine CX.ret ?_
  refine XX.block_ret ?_
  refine XX.then_ret ?_
  exact ret_tmp rfl rfl fun w1 hw => ⟨by unfold cnt; first | rw [if_pos (by omega)] | rw [if_neg (by omega), if_pos (by omega)] | rw [if_neg (by omega), if_neg (by omega), if_pos (by omega)] | rw [if_neg (by omega), if_neg (by omega), if_neg (by omega), if_pos (by omega)] | rw [if_neg (by omega), if_neg (by omega), if_neg (by omega), if_neg (by omega)]; rfl, hw.sub (List.nil_sublist _)⟩
 ·refine CX.seq ?_
  refine CX.region ?_
  refine RX.cons rfl rfl (op_w (yw_eql rfl rfl rfl) rfl rfl ?_)
  refine RX.cons rfl rfl (op_w (yw_assign rfl rfl) rfl rfl ?_)
  refine RX.nil (XX.next (V' := [(0, _), (5, _), (10, _)]) ⟨rfl, rfl, rfl, trivial⟩ ?_)
  refine CX.condD (p := m = 2) rfl (fun c10 => ?_) (fun c10 => ?_)
  ·refine CX.seq ?_
   refine CX.region ?_
   refine RX.cons rfl rfl (op_w (yw_move rfl rfl) rfl rfl ?_)
   refine RX.cons rfl rfl (op_callV (v := .int .i64 ((dcount (List.map Sm.acc l) : Nat) : Int)) rfl rfl rfl rfl rfl ent_100 (fun w hw => w_diff_account l (hw.rd hr (by simp)) hl) ?_)
   refine RX.cons rfl rfl (op_w (yw_assign rfl rfl) rfl rfl ?_)
   refine RX.nil (XX.next (V' := [(4, .int .i64 ((dcount (List.map Sm.acc l) : Nat) : Int))]) ⟨rfl, trivial⟩ ?_)
   refine CX.ret ?_
   refine XX.block_ret ?_
   refine XX.then_ret ?_
   exact ret_tmp rfl rfl fun w1 hw => ⟨by unfold cnt; first | rw [if_pos (by omega)] | rw [if_neg (by omega), if_pos (by omega)] | rw [if_neg (by omega), if_neg (by omega), if_pos (by omega)] | rw [if_neg (by omega), if_neg (by omega), if_neg (by omega), if_pos (by omega)] | rw [if_neg (by omega), if_neg (by omega), if_neg (by omega), if_neg (by omega)]; rfl, hw.sub (List.nil_sublist _)⟩
  ·refine CX.seq ?_
   refine CX.region ?_
   refine RX.cons rfl rfl (op_w (yw_eql rfl rfl rfl) rfl rfl ?_)
   refine RX.cons rfl rfl (op_w (yw_assign rfl rfl) rfl rfl ?_)
   refine RX.nil (XX.next (V' := [(0, _), (5, _), (14, _)]) ⟨rfl, rfl, rfl, trivial⟩ ?_)
   refine CX.condD (p := m = 3) rfl (fun c14 => ?_) (fun c14 => ?_)
   ·refine CX.seq ?_
    refine CX.region ?_
    refine RX.cons rfl rfl (op_w (yw_move rfl rfl) rfl rfl ?_)
    refine RX.cons rfl rfl (op_callV (v := .int .i64 ((dcount (List.map Sm.dev l) : Nat) : Int)) rfl rfl rfl rfl rfl ent_100 (fun w hw => w_diff_device l (hw.rd hr (by simp)) hl) ?_)
    refine RX.cons rfl rfl (op_w (yw_assign rfl rfl) rfl rfl ?_)
    refine RX.nil (XX.next (V' := [(4, .int .i64 ((dcount (List.map Sm.dev l) : Nat) : Int))]) ⟨rfl, trivial⟩ ?_)
    refine CX.ret ?_
    refine XX.block_ret ?_
    refine XX.then_ret ?_
    exact ret_tmp rfl rfl fun w1 hw => ⟨by unfold cnt; first | rw [if_pos (by omega)] | rw [if_neg (by omega), if_pos (by omega)] | rw [if_neg (by omega), if_neg (by omega), if_pos (by omega)] | rw [if_neg (by omega), if_neg (by omega), if_neg (by omega), if_pos (by omega)] | rw [if_neg (by omega), if_neg (by omega), if_neg (by omega), if_neg (by omega)]; rfl, hw.sub (List.nil_sublist _)⟩
   ·refine CX.seq ?_
    refine CX.region ?_
    refine RX.cons rfl rfl (op_w (yw_eql rfl rfl rfl) rfl rfl ?_)
    refine RX.cons rfl rfl (op_w (yw_assign rfl rfl) rfl rfl ?_)
    refine RX.nil (XX.next (V' := [(0, _), (18, _)]) ⟨rfl, rfl, trivial⟩ ?_)
    refine CX.condD (p := m = 4) rfl (fun c18 => ?_) (fun c18 => ?_)
    ·refine CX.seq ?_
     refine CX.region ?_
     refine RX.cons rfl rfl (op_w (yw_move rfl rfl) rfl rfl ?_)
     refine RX.cons rfl rfl (op_callV (v := .int .i64 ((dcount (List.map Sm.song l) : Nat) : Int)) rfl rfl rfl rfl rfl ent_100 (fun w hw => w_diff_recording l (hw.rd hr (by simp)) hl) ?_)
     refine RX.cons rfl rfl (op_w (yw_assign rfl rfl) rfl rfl ?_)
     refine RX.nil (XX.next (V' := [(4, .int .i64 ((dcount (List.map Sm.song l) : Nat) : Int))]) ⟨rfl, trivial⟩ ?_)
     refine CX.ret ?_
     refine XX.block_ret ?_
     refine XX.then_ret ?_
     exact ret_tmp rfl rfl fun w1 hw => ⟨by unfold cnt; first | rw [if_pos (by omega)] | rw [if_neg (by omega), if_pos (by omega)] | rw [if_neg (by omega), if_neg (by omega), if_pos (by omega)] | rw [if_neg (by omega), if_neg (by omega), if_neg (by omega), if_pos (by omega)] | rw [if_neg (by omega), if_neg (by omega), if_neg (by omega), if_neg (by omega)]; rfl, hw.sub (List.nil_sublist _)⟩
    ·refine CX.skip (XX.inBlock (V' := []) trivial ?_)
     refine XX.next (V' := []) trivial ?_
     refine CX.seq ?_
     refine CX.region ?_
     refine RX.cons rfl rfl (op_w (yw_assign rfl rfl) rfl rfl ?_)
     refine RX.nil (XX.next (V' := [(4, .int .i64 0)]) ⟨rfl, trivial⟩ ?_)
     refine CX.ret ?_
     exact ret_tmp rfl rfl fun w1 hw => ⟨by unfold cnt; first | rw [if_pos (by omega)] | rw [if_neg (by omega), if_pos (by omega)] | rw [if_neg (by omega), if_neg (by omega), if_pos (by omega)] | rw [if_neg (by omega), if_neg (by omega), if_neg (by omega), if_pos (by omega)] | rw [if_neg (by omega), if_neg (by omega), if_neg (by omega), if_neg (by omega)]; rfl, hw.sub (List.nil_sublist _)⟩

end Go.Proofs.YtpcfgoadkfajfaaGreatDoor
namespace Go.Proofs.YtpcfgoadkfajfaaGreatDoor
set_option linter.all false
open Go Go.RowKit
set_option maxRecDepth 100000
theorem slb_119 : SlB Tryz.prog 119 9 1 16 (.string .empty) := ⟨Tryz.underlying119, ⟨(Tryz.prog.info? 9).get!, by kernel_rfl, by kernel_rfl, by kernel_rfl, by kernel_rfl⟩, by decide, by decide⟩
set_option maxRecDepth 100000 in
theorem w_wordsHas {w : World} {A : Option Addr} {cap : Nat} (n : Nat) (k : Int) :
    Calls Tryz.prog 53 #[.slice A n cap, .int .i64 k] w (fun e w' => e = .returned (.bool (decide (1 ≤ k ∧ k ≤ (n : Int)))) ∧ SL w [] w' []) := by
 refine calls_of_CX (O := []) (L := []) (args := [.slice A n cap, .int .i64 k]) Tryz.func53 rfl (by simp [Tryz.ntmps53]) (SL.refl w) ?_
 refine CX.sub (V' := [(0, .slice A n cap), (1, .int .i64 k)]) ⟨rfl, rfl, trivial⟩ ?_
 refine CX.seq ?_
 refine CX.region ?_
 refine RX.cons rfl rfl (op_w (yw_assign rfl rfl) rfl rfl ?_)
 refine RX.nil (XX.next (V' := [(0, _), (1, _)]) ⟨rfl, rfl, trivial⟩ ?_)
 refine CX.seq ?_
 refine CX.region ?_
 refine RX.cons rfl rfl (op_w (yw_move rfl rfl) rfl rfl ?_)
 refine RX.cons rfl rfl (op_w (yw_geq rfl rfl rfl) rfl rfl ?_)
 refine RX.cons rfl rfl (op_w (yw_move rfl rfl) rfl rfl ?_)
 refine RX.splitD (t := 7) (p := 1 ≤ k) rfl (fun d7 => ?_) (fun d7 => ?_)
 ·refine RX.consG rfl rfl rfl rfl rfl (op_w (yw_move rfl rfl) rfl rfl ?_)
  refine RX.consG rfl rfl rfl rfl rfl (op_w (yw_move rfl rfl) rfl rfl ?_)
  refine RX.consG rfl rfl rfl rfl rfl (op_w (yw_lenS rfl Tryz.underlying119 rfl) rfl rfl ?_)
  refine RX.consG rfl rfl rfl rfl rfl (op_w (yw_leq rfl rfl rfl) rfl rfl ?_)
  refine RX.cons rfl rfl (op_w (yw_pickT rfl rfl rfl) rfl rfl ?_)
  refine RX.cons rfl rfl (op_w (yw_assign rfl rfl) rfl rfl ?_)
  refine RX.nil (XX.next (V' := [(4, .bool (decide (k ≤ ((n : Nat) : Int))))]) ⟨rfl, trivial⟩ ?_)
  refine CX.ret ?_
  exact ret_tmp rfl rfl fun w1 hw => ⟨congrArg (fun b => Ending.returned (Value.bool b)) (by first | exact (decide_eq_false (by omega)).symm | exact decide_eq_decide.2 (by omega) | exact (decide_eq_true (by omega)).symm), hw.sub (List.nil_sublist _)⟩
 ·refine RX.skip rfl rfl rfl rfl rfl rfl rfl ?_
  refine RX.skip rfl rfl rfl rfl rfl rfl rfl ?_
  refine RX.skip rfl rfl rfl rfl rfl rfl rfl ?_
  refine RX.skip rfl rfl rfl rfl rfl rfl rfl ?_
  refine RX.cons rfl rfl (op_w (yw_pickF rfl rfl rfl) rfl rfl ?_)
  refine RX.cons rfl rfl (op_w (yw_assign rfl rfl) rfl rfl ?_)
  refine RX.nil (XX.next (V' := [(4, .bool false)]) ⟨rfl, trivial⟩ ?_)
  refine CX.ret ?_
  exact ret_tmp rfl rfl fun w1 hw => ⟨congrArg (fun b => Ending.returned (Value.bool b)) (by first | exact (decide_eq_false (by omega)).symm | exact decide_eq_decide.2 (by omega) | exact (decide_eq_true (by omega)).symm), hw.sub (List.nil_sublist _)⟩

set_option maxRecDepth 100000 in
theorem w_actions {w : World} :
    Calls Tryz.prog 52 #[] w (fun e w' => ∃ A : Option Addr, True ∧ e = .returned (.slice A 3 3) ∧ SL w [] w' []) := by
 refine calls_of_CX (O := []) (L := []) (args := []) Tryz.func52 rfl (by simp [Tryz.ntmps52]) (SL.refl w) ?_
 refine CX.sub (V' := []) trivial ?_
 refine CX.seq ?_
 refine CX.region ?_
 refine RX.cons rfl rfl (op_w (yw_assign rfl rfl) rfl rfl ?_)
 refine RX.nil (XX.next (V' := []) trivial ?_)
 refine CX.seq ?_
 refine CX.region ?_
 refine RX.cons rfl rfl (op_buildSlice rfl rfl rfl slb_119 rfl rfl (by intro v hv; simp only [List.mem_cons, List.not_mem_nil, or_false] at hv; rcases hv with rfl | rfl | rfl <;> exact ⟨rfl, (plain_of rfl)⟩) (by decide) fun gw => ?_)
 refine RX.cons rfl rfl (op_w (yw_assign rfl rfl) rfl rfl ?_)
 refine RX.nil (XX.next (V' := [(0, .slice (some ⟨gw, 0, none⟩) 3 3)]) ⟨rfl, trivial⟩ ?_)
 refine CX.ret ?_
 exact ret_tmp rfl rfl fun w1 hw => ⟨some ⟨gw, 0, none⟩, trivial, rfl, hw.sub (List.nil_sublist _)⟩

set_option maxRecDepth 100000 in
theorem w_subjects {w : World} :
    Calls Tryz.prog 54 #[] w (fun e w' => ∃ A : Option Addr, True ∧ e = .returned (.slice A 3 3) ∧ SL w [] w' []) := by
 refine calls_of_CX (O := []) (L := []) (args := []) Tryz.func54 rfl (by simp [Tryz.ntmps54]) (SL.refl w) ?_
 refine CX.sub (V' := []) trivial ?_
 refine CX.seq ?_
 refine CX.region ?_
 refine RX.cons rfl rfl (op_w (yw_assign rfl rfl) rfl rfl ?_)
 refine RX.nil (XX.next (V' := []) trivial ?_)
 refine CX.seq ?_
 refine CX.region ?_
 refine RX.cons rfl rfl (op_buildSlice rfl rfl rfl slb_119 rfl rfl (by intro v hv; simp only [List.mem_cons, List.not_mem_nil, or_false] at hv; rcases hv with rfl | rfl | rfl <;> exact ⟨rfl, (plain_of rfl)⟩) (by decide) fun gw => ?_)
 refine RX.cons rfl rfl (op_w (yw_assign rfl rfl) rfl rfl ?_)
 refine RX.nil (XX.next (V' := [(0, .slice (some ⟨gw, 0, none⟩) 3 3)]) ⟨rfl, trivial⟩ ?_)
 refine CX.ret ?_
 exact ret_tmp rfl rfl fun w1 hw => ⟨some ⟨gw, 0, none⟩, trivial, rfl, hw.sub (List.nil_sublist _)⟩

set_option maxRecDepth 100000 in
theorem w_measures {w : World} :
    Calls Tryz.prog 55 #[] w (fun e w' => ∃ A : Option Addr, True ∧ e = .returned (.slice A 4 4) ∧ SL w [] w' []) := by
 refine calls_of_CX (O := []) (L := []) (args := []) Tryz.func55 rfl (by simp [Tryz.ntmps55]) (SL.refl w) ?_
 refine CX.sub (V' := []) trivial ?_
 refine CX.seq ?_
 refine CX.region ?_
 refine RX.cons rfl rfl (op_w (yw_assign rfl rfl) rfl rfl ?_)
 refine RX.nil (XX.next (V' := []) trivial ?_)
 refine CX.seq ?_
 refine CX.region ?_
 refine RX.cons rfl rfl (op_buildSlice rfl rfl rfl slb_119 rfl rfl (by intro v hv; simp only [List.mem_cons, List.not_mem_nil, or_false] at hv; rcases hv with rfl | rfl | rfl | rfl <;> exact ⟨rfl, (plain_of rfl)⟩) (by decide) fun gw => ?_)
 refine RX.cons rfl rfl (op_w (yw_assign rfl rfl) rfl rfl ?_)
 refine RX.nil (XX.next (V' := [(0, .slice (some ⟨gw, 0, none⟩) 4 4)]) ⟨rfl, trivial⟩ ?_)
 refine CX.ret ?_
 exact ret_tmp rfl rfl fun w1 hw => ⟨some ⟨gw, 0, none⟩, trivial, rfl, hw.sub (List.nil_sublist _)⟩

end Go.Proofs.YtpcfgoadkfajfaaGreatDoor
namespace Go.Proofs.YtpcfgoadkfajfaaGreatDoor
set_option linter.all false
open Go Go.RowKit
set_option maxRecDepth 100000
theorem fld_42_0 : Fld Tryz.prog 42 0 0 := ⟨_, _, (Tryz.prog.info? 3).get!, Tryz.underlying42, rfl, rfl, by kernel_rfl, by decide +kernel⟩
theorem agg_42 : AggT Tryz.prog 42 4 := ⟨_, _, Tryz.underlying42, rfl, (by kernel_rfl : Tryz.prog.info? 42 = some (Tryz.prog.info? 42).get!), by kernel_rfl⟩
theorem fld_42_3 : Fld Tryz.prog 42 3 3 := ⟨_, _, (Tryz.prog.info? 3).get!, Tryz.underlying42, rfl, rfl, by kernel_rfl, by decide +kernel⟩
theorem eqg_42 : Tryz.prog.eqGuardType Tryz.prog.depth 42 = false := by kernel_rfl
theorem ent_52 : ∀ args w, (callFunc 52 args).run Tryz.prog w = .ok (.enter 52 args) w := enters_of Tryz.func52 (by kernel_rfl) rfl
theorem ent_53 : ∀ args w, (callFunc 53 args).run Tryz.prog w = .ok (.enter 53 args) w := enters_of Tryz.func53 (by kernel_rfl) rfl
theorem fld_42_1 : Fld Tryz.prog 42 1 1 := ⟨_, _, (Tryz.prog.info? 3).get!, Tryz.underlying42, rfl, rfl, by kernel_rfl, by decide +kernel⟩
theorem ent_54 : ∀ args w, (callFunc 54 args).run Tryz.prog w = .ok (.enter 54 args) w := enters_of Tryz.func54 (by kernel_rfl) rfl
theorem fld_42_2 : Fld Tryz.prog 42 2 2 := ⟨_, _, (Tryz.prog.info? 3).get!, Tryz.underlying42, rfl, rfl, by kernel_rfl, by decide +kernel⟩
theorem ent_55 : ∀ args w, (callFunc 55 args).run Tryz.prog w = .ok (.enter 55 args) w := enters_of Tryz.func55 (by kernel_rfl) rfl
theorem held_42 : Tryz.prog.stoodInHeld 42 = false := by kernel_rfl
theorem eq_ru (f g : Ru) (w : World) : (Op.equalIn 10000 42 (.agg (ruC f)) (.agg (ruC g))).run Tryz.prog w = .ok (f.act == g.act && (f.sub == g.sub && (f.mea == g.mea && (f.n == g.n && true)))) w :=
  equal_of Tryz.underlying42 held_42 (eqF_int rfl Tryz.underlying3 rfl rfl (eqF_int rfl Tryz.underlying3 rfl rfl (eqF_int rfl Tryz.underlying3 rfl rfl (eqF_int rfl Tryz.underlying3 rfl rfl eqF_nil))))
set_option maxRecDepth 100000 in
theorem w_validR {w : World} (r : Ru) :
    Calls Tryz.prog 30 #[.agg (ruC r)] w (fun e w' => e = .returned (.bool (okR r)) ∧ SL w [] w' []) := by
 refine calls_of_CX (O := []) (L := []) (args := [.agg (ruC r)]) Tryz.func30 rfl (by simp [Tryz.ntmps30]) (SL.refl w) ?_
 refine CX.sub (V' := [(0, .agg (ruC r))]) ⟨rfl, trivial⟩ ?_
 refine CX.seq ?_
 refine CX.region ?_
 refine RX.cons rfl rfl (op_box rfl rfl rfl rfl fun gr => ?_)
 refine RX.cons rfl rfl (op_w (yw_assign rfl rfl) rfl rfl ?_)
 refine RX.nil (XX.next (V' := [(1, _)]) ⟨rfl, trivial⟩ ?_)
 refine CX.seq ?_
 refine CX.seq ?_
 refine CX.region ?_
 refine RX.cons rfl rfl (op_w (yw_field0 rfl fld_42_0 rfl) rfl rfl ?_)
 refine RX.cons rfl rfl (op_yld (y_load (i := 0) rfl rfl one_3 rfl rfl) rfl rfl ?_)
 refine RX.cons rfl rfl (op_w (yw_eql rfl rfl rfl) rfl rfl ?_)
 refine RX.nil (XX.next (V' := [(1, _), (5, _)]) ⟨rfl, rfl, trivial⟩ ?_)
 refine CX.condD (p := Ru.act r = 3) rfl (fun c5 => ?_) (fun c5 => ?_)
 ·refine CX.seq ?_
  refine CX.region ?_
  refine RX.cons rfl rfl (op_yld (y_loadA (i := 0) rfl rfl agg_42 rfl rfl) rfl rfl ?_)
  refine RX.cons rfl rfl (op_w (yw_fieldAddr rfl fld_42_3 rfl) rfl rfl ?_)
  refine RX.cons rfl rfl (op_yld (y_load (i := 0) rfl rfl one_3 rfl rfl) rfl rfl ?_)
  refine RX.cons rfl rfl (op_w (yw_build (v := .agg (#[.int .i64 3, .int .i64 1, .int .i64 0, .int .i64 (Ru.n r)])) rfl rfl (fun _ => by kernel_rfl)) rfl rfl ?_)
  refine RX.cons rfl rfl (op_w (yw_eqlAgg (b := (Ru.act r == 3 && (Ru.sub r == 1 && (Ru.mea r == 0 && (Ru.n r == Ru.n r && true))))) rfl rfl rfl eqg_42 (fun w => eq_ru r ⟨3, 1, 0, Ru.n r⟩ w)) rfl rfl ?_)
  refine RX.know (t := 10) (u := .bool (decide (Ru.sub r = 1 ∧ Ru.mea r = 0))) rfl (congrArg Value.bool (by rw [Bool.eq_iff_iff]; simp; omega)) ?_
  refine RX.cons rfl rfl (op_w (yw_move rfl rfl) rfl rfl ?_)
  refine RX.splitD (t := 11) (p := Ru.sub r = 1 ∧ Ru.mea r = 0) rfl (fun d11 => ?_) (fun d11 => ?_)
  ·refine RX.consG rfl rfl rfl rfl rfl (op_w (yw_fieldAddr rfl fld_42_3 rfl) rfl rfl ?_)
   refine RX.consG rfl rfl rfl rfl rfl (op_yld (y_load (i := 0) rfl rfl one_3 rfl rfl) rfl rfl ?_)
   refine RX.consG rfl rfl rfl rfl rfl (op_w (yw_geq rfl rfl rfl) rfl rfl ?_)
   refine RX.cons rfl rfl (op_w (yw_pickT rfl rfl rfl) rfl rfl ?_)
   refine RX.cons rfl rfl (op_w (yw_move rfl rfl) rfl rfl ?_)
   refine RX.splitD (t := 16) (p := 1 ≤ Ru.n r) rfl (fun d16 => ?_) (fun d16 => ?_)
   ·refine RX.consG rfl rfl rfl rfl rfl (op_w (yw_fieldAddr rfl fld_42_3 rfl) rfl rfl ?_)
    refine RX.consG rfl rfl rfl rfl rfl (op_yld (y_load (i := 0) rfl rfl one_3 rfl rfl) rfl rfl ?_)
    refine RX.consG rfl rfl rfl rfl rfl (op_w (yw_leq rfl rfl rfl) rfl rfl ?_)
    refine RX.cons rfl rfl (op_w (yw_pickT rfl rfl rfl) rfl rfl ?_)
    refine RX.cons rfl rfl (op_w (yw_assign rfl rfl) rfl rfl ?_)
    refine RX.nil (XX.next (V' := [(2, .bool (decide (Ru.n r ≤ 1000000)))]) ⟨rfl, trivial⟩ ?_)
    refine CX.ret ?_
    refine XX.then_ret ?_
    exact ret_tmp rfl rfl fun w1 hw => ⟨congrArg (fun b => Ending.returned (Value.bool b)) (by unfold okR; first | exact (decide_eq_false (by omega)).symm | exact decide_eq_decide.2 (by omega) | exact (decide_eq_true (by omega)).symm), hw.sub (List.nil_sublist _)⟩
   ·refine RX.skip rfl rfl rfl rfl rfl rfl rfl ?_
    refine RX.skip rfl rfl rfl rfl rfl rfl rfl ?_
    refine RX.skip rfl rfl rfl rfl rfl rfl rfl ?_
    refine RX.cons rfl rfl (op_w (yw_pickF rfl rfl rfl) rfl rfl ?_)
    refine RX.cons rfl rfl (op_w (yw_assign rfl rfl) rfl rfl ?_)
    refine RX.nil (XX.next (V' := [(2, .bool false)]) ⟨rfl, trivial⟩ ?_)
    refine CX.ret ?_
    refine XX.then_ret ?_
    exact ret_tmp rfl rfl fun w1 hw => ⟨congrArg (fun b => Ending.returned (Value.bool b)) (by unfold okR; first | exact (decide_eq_false (by omega)).symm | exact decide_eq_decide.2 (by omega) | exact (decide_eq_true (by omega)).symm), hw.sub (List.nil_sublist _)⟩
  ·refine RX.skip rfl rfl rfl rfl rfl rfl rfl ?_
   refine RX.skip rfl rfl rfl rfl rfl rfl rfl ?_
   refine RX.skip rfl rfl rfl rfl rfl rfl rfl ?_
   refine RX.cons rfl rfl (op_w (yw_pickF rfl rfl rfl) rfl rfl ?_)
   refine RX.cons rfl rfl (op_w (yw_move rfl rfl) rfl rfl ?_)
   refine RX.skip rfl rfl rfl rfl rfl rfl rfl ?_
   refine RX.skip rfl rfl rfl rfl rfl rfl rfl ?_
   refine RX.skip rfl rfl rfl rfl rfl rfl rfl ?_
   refine RX.cons rfl rfl (op_w (yw_pickF rfl rfl rfl) rfl rfl ?_)
   refine RX.cons rfl rfl (op_w (yw_assign rfl rfl) rfl rfl ?_)
   refine RX.nil (XX.next (V' := [(2, .bool false)]) ⟨rfl, trivial⟩ ?_)
   refine CX.ret ?_
   refine XX.then_ret ?_
   exact ret_tmp rfl rfl fun w1 hw => ⟨congrArg (fun b => Ending.returned (Value.bool b)) (by unfold okR; first | exact (decide_eq_false (by omega)).symm | exact decide_eq_decide.2 (by omega) | exact (decide_eq_true (by omega)).symm), hw.sub (List.nil_sublist _)⟩
 ·refine CX.skip (XX.next (V' := [(1, _)]) ⟨rfl, trivial⟩ ?_)
  refine CX.seq ?_
  refine CX.draw 27 [(0, 0, 2097152), (0, 2, 4194304), (2, 4194304, 8388608), (5, 10485760, 16777216), (8, 16777216, 33554432), (16, 33554432, 67108864), (16, 33554434, 134217728), (80, 167772160, 268435456), (176, 369098752, 536870912), (272, 570425344, 1073741824), (768, 1073741824, 2147483648), (1024, 2147483648, 4294967296), (1024, 2147483650, 8589934592), (5120, 10737418240, 17179869184), (11264, 23622320128, 34359738368), (17408, 36507222016, 68719476736), (49152, 68719476736, 137438953472), (65536, 137438953474, 274877906944), (196608, 412316860416, 549755813888), (327680, 687194767360, 1099511627776), (589824, 1236950581248, 2199023255552), (1114112, 2199023255552, 4398046511104), (2097152, 4398046511106, 8796093022208), (6291456, 13194139533312, 17592186044416), (10485760, 21990232555520, 35184372088832), (18874368, 39582418599936, 70368744177664), (67108863, 70368744177664, 4)] (by kernel_rfl) (by kernel_rfl) (by kernel_rfl) ?_
  refine DX.takeW 1 2 (by kernel_rfl) rfl rfl rfl rfl rfl (yw_field0 rfl fld_42_0 rfl) ?_
  refine DX.take 2 6 (by kernel_rfl) rfl rfl rfl rfl rfl (List.Sublist.refl _) (y_load (i := 0) rfl rfl one_3 rfl rfl) ?_
  refine DX.step 0 7 (by kernel_rfl) rfl rfl rfl (op_callE rfl rfl rfl rfl rfl ent_52 (fun w hw => w_actions) (fun Aactions _ => (DXs.mk (List.Sublist.refl _) ?_)))
  refine DX.step 3 15 (by kernel_rfl) rfl rfl rfl (op_callV (v := .bool (decide (1 ≤ Ru.act r ∧ Ru.act r ≤ ((3 : Nat) : Int)))) rfl rfl rfl rfl rfl ent_53 (fun w hw => w_wordsHas 3 (Ru.act r)) (DXs.mk (List.Sublist.refl _) ?_))
  refine DX.takeW 4 31 (by kernel_rfl) rfl rfl rfl rfl rfl (yw_move rfl rfl) ?_
  refine DX.splitD (t := 25) (p := 1 ≤ Ru.act r ∧ Ru.act r ≤ ((3 : Nat) : Int)) rfl (fun d25 => ?_) (fun d25 => ?_)
  ·refine DX.takeWG 6 95 (by kernel_rfl) rfl rfl rfl rfl rfl rfl rfl rfl (yw_fieldAddr rfl fld_42_1 rfl) ?_
   refine DX.takeG 7 223 (by kernel_rfl) rfl rfl rfl rfl rfl rfl rfl rfl (List.Sublist.refl _) (y_load (i := 0) rfl rfl one_3 rfl rfl) ?_
   refine DX.stepG 5 255 (by kernel_rfl) rfl rfl rfl rfl rfl rfl (op_callE rfl rfl rfl rfl rfl ent_54 (fun w hw => w_subjects) (fun Asubjects _ => (DXs.mk (List.Sublist.refl _) ?_)))
   refine DX.stepG 8 511 (by kernel_rfl) rfl rfl rfl rfl rfl rfl (op_callV (v := .bool (decide (1 ≤ Ru.sub r ∧ Ru.sub r ≤ ((3 : Nat) : Int)))) rfl rfl rfl rfl rfl ent_53 (fun w hw => w_wordsHas 3 (Ru.sub r)) (DXs.mk (List.Sublist.refl _) ?_))
   refine DX.takeW 9 1023 (by kernel_rfl) rfl rfl rfl rfl rfl (yw_pickT rfl rfl rfl) ?_
   refine DX.takeW 10 2047 (by kernel_rfl) rfl rfl rfl rfl rfl (yw_move rfl rfl) ?_
   refine DX.splitD (t := 31) (p := 1 ≤ Ru.sub r ∧ Ru.sub r ≤ ((3 : Nat) : Int)) rfl (fun d31 => ?_) (fun d31 => ?_)
   ·refine DX.takeWG 12 6143 (by kernel_rfl) rfl rfl rfl rfl rfl rfl rfl rfl (yw_fieldAddr rfl fld_42_2 rfl) ?_
    refine DX.takeG 13 14335 (by kernel_rfl) rfl rfl rfl rfl rfl rfl rfl rfl (List.Sublist.refl _) (y_load (i := 0) rfl rfl one_3 rfl rfl) ?_
    refine DX.stepG 11 16383 (by kernel_rfl) rfl rfl rfl rfl rfl rfl (op_callE rfl rfl rfl rfl rfl ent_55 (fun w hw => w_measures) (fun Ameasures _ => (DXs.mk (List.Sublist.refl _) ?_)))
    refine DX.stepG 14 32767 (by kernel_rfl) rfl rfl rfl rfl rfl rfl (op_callV (v := .bool (decide (1 ≤ Ru.mea r ∧ Ru.mea r ≤ ((4 : Nat) : Int)))) rfl rfl rfl rfl rfl ent_53 (fun w hw => w_wordsHas 4 (Ru.mea r)) (DXs.mk (List.Sublist.refl _) ?_))
    refine DX.takeW 15 65535 (by kernel_rfl) rfl rfl rfl rfl rfl (yw_pickT rfl rfl rfl) ?_
    refine DX.takeW 16 131071 (by kernel_rfl) rfl rfl rfl rfl rfl (yw_move rfl rfl) ?_
    refine DX.splitD (t := 37) (p := 1 ≤ Ru.mea r ∧ Ru.mea r ≤ ((4 : Nat) : Int)) rfl (fun d37 => ?_) (fun d37 => ?_)
    ·refine DX.takeWG 17 262143 (by kernel_rfl) rfl rfl rfl rfl rfl rfl rfl rfl (yw_fieldAddr rfl fld_42_3 rfl) ?_
     refine DX.takeG 18 524287 (by kernel_rfl) rfl rfl rfl rfl rfl rfl rfl rfl (List.Sublist.refl _) (y_load (i := 0) rfl rfl one_3 rfl rfl) ?_
     refine DX.takeWG 19 1048575 (by kernel_rfl) rfl rfl rfl rfl rfl rfl rfl rfl (yw_geq rfl rfl rfl) ?_
     refine DX.takeW 20 2097151 (by kernel_rfl) rfl rfl rfl rfl rfl (yw_pickT rfl rfl rfl) ?_
     refine DX.takeW 21 4194303 (by kernel_rfl) rfl rfl rfl rfl rfl (yw_move rfl rfl) ?_
     refine DX.splitD (t := 42) (p := 0 ≤ Ru.n r) rfl (fun d42 => ?_) (fun d42 => ?_)
     ·refine DX.takeWG 22 8388607 (by kernel_rfl) rfl rfl rfl rfl rfl rfl rfl rfl (yw_fieldAddr rfl fld_42_3 rfl) ?_
      refine DX.takeG 23 16777215 (by kernel_rfl) rfl rfl rfl rfl rfl rfl rfl rfl (List.Sublist.refl _) (y_load (i := 0) rfl rfl one_3 rfl rfl) ?_
      refine DX.takeWG 24 33554431 (by kernel_rfl) rfl rfl rfl rfl rfl rfl rfl rfl (yw_leq rfl rfl rfl) ?_
      refine DX.takeW 25 67108863 (by kernel_rfl) rfl rfl rfl rfl rfl (yw_pickT rfl rfl rfl) ?_
      refine DX.takeW 26 134217727 (by kernel_rfl) rfl rfl rfl rfl rfl (yw_assign rfl rfl) ?_
      refine DX.done (by kernel_rfl) (XX.next (V' := [(2, .bool (decide (Ru.n r ≤ 1000000)))]) ⟨rfl, trivial⟩ ?_)
      refine CX.ret ?_
      exact ret_tmp rfl rfl fun w1 hw => ⟨congrArg (fun b => Ending.returned (Value.bool b)) (by unfold okR; first | exact (decide_eq_false (by omega)).symm | exact decide_eq_decide.2 (by omega) | exact (decide_eq_true (by omega)).symm), hw.sub (List.nil_sublist _)⟩
     ·refine DX.skip 22 8388607 (by kernel_rfl) rfl rfl rfl rfl rfl rfl rfl rfl ?_
      refine DX.skip 23 16777215 (by kernel_rfl) rfl rfl rfl rfl rfl rfl rfl rfl ?_
      refine DX.skip 24 33554431 (by kernel_rfl) rfl rfl rfl rfl rfl rfl rfl rfl ?_
      refine DX.takeW 25 67108863 (by kernel_rfl) rfl rfl rfl rfl rfl (yw_pickF rfl rfl rfl) ?_
      refine DX.takeW 26 134217727 (by kernel_rfl) rfl rfl rfl rfl rfl (yw_assign rfl rfl) ?_
      refine DX.done (by kernel_rfl) (XX.next (V' := [(2, .bool false)]) ⟨rfl, trivial⟩ ?_)
      refine CX.ret ?_
      exact ret_tmp rfl rfl fun w1 hw => ⟨congrArg (fun b => Ending.returned (Value.bool b)) (by unfold okR; first | exact (decide_eq_false (by omega)).symm | exact decide_eq_decide.2 (by omega) | exact (decide_eq_true (by omega)).symm), hw.sub (List.nil_sublist _)⟩
    ·refine DX.skip 17 262143 (by kernel_rfl) rfl rfl rfl rfl rfl rfl rfl rfl ?_
     refine DX.skip 18 524287 (by kernel_rfl) rfl rfl rfl rfl rfl rfl rfl rfl ?_
     refine DX.skip 19 1048575 (by kernel_rfl) rfl rfl rfl rfl rfl rfl rfl rfl ?_
     refine DX.takeW 20 2097151 (by kernel_rfl) rfl rfl rfl rfl rfl (yw_pickF rfl rfl rfl) ?_
     refine DX.takeW 21 4194303 (by kernel_rfl) rfl rfl rfl rfl rfl (yw_move rfl rfl) ?_
     refine DX.skip 22 8388607 (by kernel_rfl) rfl rfl rfl rfl rfl rfl rfl rfl ?_
     refine DX.skip 23 16777215 (by kernel_rfl) rfl rfl rfl rfl rfl rfl rfl rfl ?_
     refine DX.skip 24 33554431 (by kernel_rfl) rfl rfl rfl rfl rfl rfl rfl rfl ?_
     refine DX.takeW 25 67108863 (by kernel_rfl) rfl rfl rfl rfl rfl (yw_pickF rfl rfl rfl) ?_
     refine DX.takeW 26 134217727 (by kernel_rfl) rfl rfl rfl rfl rfl (yw_assign rfl rfl) ?_
     refine DX.done (by kernel_rfl) (XX.next (V' := [(2, .bool false)]) ⟨rfl, trivial⟩ ?_)
     refine CX.ret ?_
     exact ret_tmp rfl rfl fun w1 hw => ⟨congrArg (fun b => Ending.returned (Value.bool b)) (by unfold okR; first | exact (decide_eq_false (by omega)).symm | exact decide_eq_decide.2 (by omega) | exact (decide_eq_true (by omega)).symm), hw.sub (List.nil_sublist _)⟩
   ·refine DX.skip 11 4095 (by kernel_rfl) rfl rfl rfl rfl rfl rfl rfl rfl ?_
    refine DX.skip 12 8191 (by kernel_rfl) rfl rfl rfl rfl rfl rfl rfl rfl ?_
    refine DX.skip 13 16383 (by kernel_rfl) rfl rfl rfl rfl rfl rfl rfl rfl ?_
    refine DX.skip 14 32767 (by kernel_rfl) rfl rfl rfl rfl rfl rfl rfl rfl ?_
    refine DX.takeW 15 65535 (by kernel_rfl) rfl rfl rfl rfl rfl (yw_pickF rfl rfl rfl) ?_
    refine DX.takeW 16 131071 (by kernel_rfl) rfl rfl rfl rfl rfl (yw_move rfl rfl) ?_
    refine DX.skip 17 262143 (by kernel_rfl) rfl rfl rfl rfl rfl rfl rfl rfl ?_
    refine DX.skip 18 524287 (by kernel_rfl) rfl rfl rfl rfl rfl rfl rfl rfl ?_
    refine DX.skip 19 1048575 (by kernel_rfl) rfl rfl rfl rfl rfl rfl rfl rfl ?_
    refine DX.takeW 20 2097151 (by kernel_rfl) rfl rfl rfl rfl rfl (yw_pickF rfl rfl rfl) ?_
    refine DX.takeW 21 4194303 (by kernel_rfl) rfl rfl rfl rfl rfl (yw_move rfl rfl) ?_
    refine DX.skip 22 8388607 (by kernel_rfl) rfl rfl rfl rfl rfl rfl rfl rfl ?_
    refine DX.skip 23 16777215 (by kernel_rfl) rfl rfl rfl rfl rfl rfl rfl rfl ?_
    refine DX.skip 24 33554431 (by kernel_rfl) rfl rfl rfl rfl rfl rfl rfl rfl ?_
    refine DX.takeW 25 67108863 (by kernel_rfl) rfl rfl rfl rfl rfl (yw_pickF rfl rfl rfl) ?_
    refine DX.takeW 26 134217727 (by kernel_rfl) rfl rfl rfl rfl rfl (yw_assign rfl rfl) ?_
    refine DX.done (by kernel_rfl) (XX.next (V' := [(2, .bool false)]) ⟨rfl, trivial⟩ ?_)
    refine CX.ret ?_
    exact ret_tmp rfl rfl fun w1 hw => ⟨congrArg (fun b => Ending.returned (Value.bool b)) (by unfold okR; first | exact (decide_eq_false (by omega)).symm | exact decide_eq_decide.2 (by omega) | exact (decide_eq_true (by omega)).symm), hw.sub (List.nil_sublist _)⟩
  ·refine DX.skip 5 63 (by kernel_rfl) rfl rfl rfl rfl rfl rfl rfl rfl ?_
   refine DX.skip 6 127 (by kernel_rfl) rfl rfl rfl rfl rfl rfl rfl rfl ?_
   refine DX.skip 7 255 (by kernel_rfl) rfl rfl rfl rfl rfl rfl rfl rfl ?_
   refine DX.skip 8 511 (by kernel_rfl) rfl rfl rfl rfl rfl rfl rfl rfl ?_
   refine DX.takeW 9 1023 (by kernel_rfl) rfl rfl rfl rfl rfl (yw_pickF rfl rfl rfl) ?_
   refine DX.takeW 10 2047 (by kernel_rfl) rfl rfl rfl rfl rfl (yw_move rfl rfl) ?_
   refine DX.skip 11 4095 (by kernel_rfl) rfl rfl rfl rfl rfl rfl rfl rfl ?_
   refine DX.skip 12 8191 (by kernel_rfl) rfl rfl rfl rfl rfl rfl rfl rfl ?_
   refine DX.skip 13 16383 (by kernel_rfl) rfl rfl rfl rfl rfl rfl rfl rfl ?_
   refine DX.skip 14 32767 (by kernel_rfl) rfl rfl rfl rfl rfl rfl rfl rfl ?_
   refine DX.takeW 15 65535 (by kernel_rfl) rfl rfl rfl rfl rfl (yw_pickF rfl rfl rfl) ?_
   refine DX.takeW 16 131071 (by kernel_rfl) rfl rfl rfl rfl rfl (yw_move rfl rfl) ?_
   refine DX.skip 17 262143 (by kernel_rfl) rfl rfl rfl rfl rfl rfl rfl rfl ?_
   refine DX.skip 18 524287 (by kernel_rfl) rfl rfl rfl rfl rfl rfl rfl rfl ?_
   refine DX.skip 19 1048575 (by kernel_rfl) rfl rfl rfl rfl rfl rfl rfl rfl ?_
   refine DX.takeW 20 2097151 (by kernel_rfl) rfl rfl rfl rfl rfl (yw_pickF rfl rfl rfl) ?_
   refine DX.takeW 21 4194303 (by kernel_rfl) rfl rfl rfl rfl rfl (yw_move rfl rfl) ?_
   refine DX.skip 22 8388607 (by kernel_rfl) rfl rfl rfl rfl rfl rfl rfl rfl ?_
   refine DX.skip 23 16777215 (by kernel_rfl) rfl rfl rfl rfl rfl rfl rfl rfl ?_
   refine DX.skip 24 33554431 (by kernel_rfl) rfl rfl rfl rfl rfl rfl rfl rfl ?_
   refine DX.takeW 25 67108863 (by kernel_rfl) rfl rfl rfl rfl rfl (yw_pickF rfl rfl rfl) ?_
   refine DX.takeW 26 134217727 (by kernel_rfl) rfl rfl rfl rfl rfl (yw_assign rfl rfl) ?_
   refine DX.done (by kernel_rfl) (XX.next (V' := [(2, .bool false)]) ⟨rfl, trivial⟩ ?_)
   refine CX.ret ?_
   exact ret_tmp rfl rfl fun w1 hw => ⟨congrArg (fun b => Ending.returned (Value.bool b)) (by unfold okR; first | exact (decide_eq_false (by omega)).symm | exact decide_eq_decide.2 (by omega) | exact (decide_eq_true (by omega)).symm), hw.sub (List.nil_sublist _)⟩

end Go.Proofs.YtpcfgoadkfajfaaGreatDoor
namespace Go.Proofs.YtpcfgoadkfajfaaGreatDoor
set_option linter.all false
open Go Go.RowKit
set_option maxRecDepth 100000
theorem ent_30 : ∀ args w, (callFunc 30 args).run Tryz.prog w = .ok (.enter 30 args) w := enters_of Tryz.func30 (by kernel_rfl) rfl
set_option maxRecDepth 100000 in
theorem w_judge1 {w : World} (r : Ru) :
    Calls Tryz.prog 29 #[.agg (ruC r)] w (fun e w' => e = .returned (.bool (!(okR r))) ∧ SL w [] w' []) := by
 refine calls_of_CX (O := []) (L := []) (args := [.agg (ruC r)]) Tryz.func29 rfl (by simp [Tryz.ntmps29]) (SL.refl w) ?_
 refine CX.sub (V' := [(0, .agg (ruC r))]) ⟨rfl, trivial⟩ ?_
 refine CX.seq ?_
 refine CX.region ?_
 refine RX.cons rfl rfl (op_box rfl rfl rfl rfl fun gr => ?_)
 refine RX.cons rfl rfl (op_w (yw_assign rfl rfl) rfl rfl ?_)
 refine RX.nil (XX.next (V' := [(1, _)]) ⟨rfl, trivial⟩ ?_)
 refine CX.seq ?_
 refine CX.region ?_
 refine RX.cons rfl rfl (op_yld (y_loadA (i := 0) rfl rfl agg_42 rfl rfl) rfl rfl ?_)
 refine RX.cons rfl rfl (op_callV (v := .bool (okR r)) rfl rfl rfl rfl rfl ent_30 (fun w hw => w_validR r) ?_)
 refine RX.cons rfl rfl (op_w (yw_not rfl rfl) rfl rfl ?_)
 refine RX.cons rfl rfl (op_w (yw_assign rfl rfl) rfl rfl ?_)
 refine RX.nil (XX.next (V' := [(2, .bool (!(okR r)))]) ⟨rfl, trivial⟩ ?_)
 refine CX.ret ?_
 exact ret_tmp rfl rfl fun w1 hw => ⟨rfl, hw.sub (List.nil_sublist _)⟩

end Go.Proofs.YtpcfgoadkfajfaaGreatDoor
namespace Go.Proofs.YtpcfgoadkfajfaaGreatDoor
set_option linter.all false
def inS (As Ds : List Int) (x : Nd) : Prop := if x.1 = true then x.2 ∈ Ds else x.2 ∈ As
theorem closed_conn {E : List (Int × Int)} {As Ds : List Int} (h : ∀ e ∈ E, (e.1 ∈ As ↔ e.2 ∈ Ds)) {x y : Nd} (hc : Conn E x y) : inS As Ds x ↔ inS As Ds y := by
  induction hc with
  | refl => exact Iff.rfl
  | edge he => simpa [inS] using h _ he
  | symm _ ih => exact ih.symm
  | trans _ _ i1 i2 => exact i1.trans i2
/-- How many ends of edges are not reached. -/
def out1 (E : List (Int × Int)) (As : List Int) : Nat := (E.filter fun e => !decide (e.1 ∈ As)).length
def out2 (E : List (Int × Int)) (Ds : List Int) : Nat := (E.filter fun e => !decide (e.2 ∈ Ds)).length
theorem filter_lt {α : Type} {p q : α → Bool} : ∀ {l : List α} {x : α}, x ∈ l → p x = true → q x = false → (∀ y, q y = true → p y = true) → (l.filter q).length < (l.filter p).length := by
  intro l
  induction l with
  | nil => intro x h; cases h
  | cons a l ih =>
    intro x hx hp hq hs
    have hle : (l.filter q).length ≤ (l.filter p).length := by
      clear ih hx
      induction l with
      | nil => simp
      | cons b l ih2 =>
        simp only [List.filter_cons]
        cases hb : q b with
        | false => cases p b <;> simp <;> omega
        | true => rw [hs b hb]; simpa using ih2
    simp only [List.filter_cons]
    rcases List.mem_cons.1 hx with rfl | hx
    · rw [hp, hq]; simp; omega
    · have := ih hx hp hq hs
      cases ha : q a with
      | false => cases p a <;> simp <;> omega
      | true => rw [hs a ha]; simpa using this
theorem out1_lt {E : List (Int × Int)} {As As' : List Int} {e : Int × Int} (he : e ∈ E) (h1 : e.1 ∉ As) (h2 : e.1 ∈ As') (hs : ∀ x ∈ As, x ∈ As') : out1 E As' < out1 E As :=
  filter_lt he (by simpa using h1) (by simpa using h2) (fun y hy => by simp only [Bool.not_eq_true', decide_eq_false_iff_not] at *; exact fun h => hy (hs _ h))
theorem out2_lt {E : List (Int × Int)} {Ds Ds' : List Int} {e : Int × Int} (he : e ∈ E) (h1 : e.2 ∉ Ds) (h2 : e.2 ∈ Ds') (hs : ∀ x ∈ Ds, x ∈ Ds') : out2 E Ds' < out2 E Ds :=
  filter_lt he (by simpa using h1) (by simpa using h2) (fun y hy => by simp only [Bool.not_eq_true', decide_eq_false_iff_not] at *; exact fun h => hy (hs _ h))
theorem out1_le (E : List (Int × Int)) (As : List Int) : out1 E As ≤ E.length := List.length_filter_le _ _
theorem out2_le (E : List (Int × Int)) (Ds : List Int) : out2 E Ds ≤ E.length := List.length_filter_le _ _
end Go.Proofs.YtpcfgoadkfajfaaGreatDoor
namespace Go.Proofs.YtpcfgoadkfajfaaGreatDoor
set_option linter.all false
structure ClS (E : List (Int × Int)) (a : Int) (As Ds : List Int) : Prop where
  sa : ∀ x ∈ As, Conn E (false, x) (false, a)
  sd : ∀ x ∈ Ds, Conn E (true, x) (false, a)
  inn : a ∈ E.map Prod.fst → a ∈ As
  out : a ∉ E.map Prod.fst → As = [] ∧ Ds = []
  n1 : As.length + out1 E As ≤ 1 + E.length
  n2 : Ds.length + out2 E Ds ≤ E.length
def mu (E : List (Int × Int)) (As Ds : List Int) : Nat := out1 E As + out2 E Ds
variable {E : List (Int × Int)} {a : Int} {As Ds : List Int}
theorem ClS.start (E : List (Int × Int)) (a : Int) : ClS E a (if a ∈ E.map Prod.fst then [a] else []) [] := by
  have h1 := out1_le E (if a ∈ E.map Prod.fst then [a] else [])
  have h2 := out2_le E []
  refine ⟨fun x hx => ?_, fun x hx => (by cases hx), fun h => ?_, fun h => ?_, ?_, by simpa using h2⟩
  · split at hx
    · rw [List.mem_singleton.1 hx]; exact .refl _
    · cases hx
  · rw [if_pos h]; exact List.mem_singleton.2 rfl
  · rw [if_neg h]; exact ⟨rfl, rfl⟩
  · split at h1 <;> rename_i h <;> simp only [h, if_true, if_false, List.length_singleton, List.length_nil] at * <;> omega
theorem ClS.dev (h : ClS E a As Ds) {e : Int × Int} (he : e ∈ E) (h1 : e.1 ∈ As) (h2 : e.2 ∉ Ds) {Ds' : List Int} (hm : ∀ x, x ∈ Ds' ↔ x ∈ Ds ∨ x = e.2) (hl : Ds'.length ≤ Ds.length + 1) : ClS E a As Ds' ∧ mu E As Ds' < mu E As Ds := by
  have hlt : out2 E Ds' < out2 E Ds := out2_lt he h2 ((hm _).2 (.inr rfl)) fun x hx => (hm x).2 (.inl hx)
  refine ⟨⟨h.sa, fun x hx => ?_, h.inn, fun hn => ?_, h.n1, ?_⟩, by unfold mu; omega⟩
  · rcases (hm x).1 hx with hx | rfl
    · exact h.sd x hx
    · exact (Conn.symm (.edge he)).trans (h.sa _ h1)
  · have := (h.out hn).1; rw [this] at h1; cases h1
  · have := h.n2; omega
theorem ClS.acc (h : ClS E a As Ds) {e : Int × Int} (he : e ∈ E) (h1 : e.1 ∉ As) (h2 : e.2 ∈ Ds) {As' : List Int} (hm : ∀ x, x ∈ As' ↔ x ∈ As ∨ x = e.1) (hl : As'.length ≤ As.length + 1) : ClS E a As' Ds ∧ mu E As' Ds < mu E As Ds := by
  have hlt : out1 E As' < out1 E As := out1_lt he h1 ((hm _).2 (.inr rfl)) fun x hx => (hm x).2 (.inl hx)
  refine ⟨⟨fun x hx => ?_, h.sd, fun hn => (hm a).2 (.inl (h.inn hn)), fun hn => ?_, ?_, h.n2⟩, by unfold mu; omega⟩
  · rcases (hm x).1 hx with hx | rfl
    · exact h.sa x hx
    · exact (Conn.edge he).trans (h.sd _ h2)
  · have := (h.out hn).2; rw [this] at h2; cases h2
  · have := h.n1; omega
theorem ClS.done (h : ClS E a As Ds) (hc : ∀ e ∈ E, (e.1 ∈ As ↔ e.2 ∈ Ds)) (x : Int) : x ∈ As ↔ a ∈ E.map Prod.fst ∧ Conn E (false, x) (false, a) := by
  constructor
  · intro hx
    refine ⟨?_, h.sa x hx⟩
    by_cases hn : a ∈ E.map Prod.fst
    · exact hn
    · rw [(h.out hn).1] at hx; cases hx
  · intro ⟨hn, hx⟩
    have := closed_conn hc hx
    simp only [inS, Bool.false_eq_true, if_false] at this
    exact this.2 (h.inn hn)
theorem closed_snoc {i : Nat} {e : Int × Int} (he : E[i]? = some e) (h : ∀ e ∈ E.take i, (e.1 ∈ As ↔ e.2 ∈ Ds)) (h2 : e.1 ∈ As ↔ e.2 ∈ Ds) : ∀ e ∈ E.take (i + 1), (e.1 ∈ As ↔ e.2 ∈ Ds) := by
  intro d hd
  rw [List.take_add_one, he] at hd
  rcases List.mem_append.1 hd with hd | hd
  · exact h d hd
  · have : d = e := by simpa using hd
    rw [this]; exact h2
theorem first_snoc {i : Nat} {e : Int × Int} (he : E[i]? = some e) (h : ¬ e.1 = a) : (if a ∈ (E.take (i + 1)).map Prod.fst then [a] else []) = (if a ∈ (E.take i).map Prod.fst then [a] else []) := by
  have : a ∈ (E.take (i + 1)).map Prod.fst ↔ a ∈ (E.take i).map Prod.fst := by
    rw [List.take_add_one, he, List.map_append, List.mem_append]
    simp only [Option.toList_some, List.map_cons, List.map_nil, List.mem_singleton]
    exact ⟨fun h2 => h2.elim id fun e2 => absurd e2.symm h, .inl⟩
  simp only [this]
theorem first_here {i : Nat} {e : Int × Int} (he : E[i]? = some e) (h : e.1 = a) : (if a ∈ (E.take (i + 1)).map Prod.fst then [a] else []) = [a] := by
  rw [if_pos]
  rw [List.take_add_one, he, List.map_append, List.mem_append]
  exact .inr (by simp [h])
end Go.Proofs.YtpcfgoadkfajfaaGreatDoor
namespace Go.Proofs.YtpcfgoadkfajfaaGreatDoor
set_option linter.all false
open Go Go.RowKit
set_option maxRecDepth 100000

end Go.Proofs.YtpcfgoadkfajfaaGreatDoor
namespace Go.Proofs.YtpcfgoadkfajfaaGreatDoor
set_option linter.all false
open Go Go.RowKit
def packB : List Ent → List Nat
  | [] => []
  | e :: es => e.blocks ++ packB es
theorem packB_eq (es : List Ent) : packB es = es.flatMap Ent.blocks := by
  induction es with
  | nil => rfl
  | cons e es ih => rw [List.flatMap_cons, ← ih]; rfl
/-- Entries packed into one. -/
def pack (es : List Ent) : Ent :=
  .gen (es.flatMap Ent.blocks) (fun w => ∀ e ∈ es, e.sat w)
    (fun w h b hb => by
      obtain ⟨e, he, hbe⟩ := List.mem_flatMap.1 hb
      exact Ent.lt (h e he) hbe)
    (fun w w' h hk e he => Ent.keep (h e he) (fun b hb => hk b (List.mem_flatMap.2 ⟨e, he, hb⟩)))
theorem pack_blocks (es : List Ent) : (pack es).blocks = es.flatMap Ent.blocks := rfl
section
variable {P : Program} {w0 : World} {O : List Nat} {n : Nat} {D : List Deferred} {o : Oper} {V : List (Nat × Value)} {L : List Ent} {T : List (Nat × Value) → List Ent → Prop} {Q : Exit → Act → World → Prop} {c : Code} {r : Option Nat}
theorem SL.pack {w : World} {es : List Ent} (h : SL w0 O w (es ++ L)) : SL w0 O w (pack es :: L) := by
  refine ⟨h.os, h.tape, h.output, h.size, h.same, ?_, ?_, ?_⟩
  · intro p hp
    rcases List.mem_cons.1 hp with rfl | hp
    · exact fun e he => h.ents e (List.mem_append_left _ he)
    · exact h.ents p (List.mem_append_right _ hp)
  · have := h.nodup
    rw [List.flatMap_append] at this
    rw [List.flatMap_cons, pack_blocks]
    exact this
  · intro p hp b hb
    rcases List.mem_cons.1 hp with rfl | hp
    · rw [pack_blocks] at hb
      obtain ⟨e, he, hbe⟩ := List.mem_flatMap.1 hb
      exact h.own e (List.mem_append_left _ he) b hbe
    · exact h.own p (List.mem_append_right _ hp) b hb
theorem SL.unpack {w : World} {es : List Ent} (h : SL w0 O w (Go.Proofs.YtpcfgoadkfajfaaGreatDoor.pack es :: L)) : SL w0 O w (es ++ L) := by
  refine ⟨h.os, h.tape, h.output, h.size, h.same, ?_, ?_, ?_⟩
  · intro p hp
    rcases List.mem_append.1 hp with hp | hp
    · exact h.ents (Go.Proofs.YtpcfgoadkfajfaaGreatDoor.pack es) List.mem_cons_self p hp
    · exact h.ents p (List.mem_cons_of_mem _ hp)
  · have := h.nodup
    rw [List.flatMap_cons, pack_blocks] at this
    rw [List.flatMap_append]
    exact this
  · intro p hp b hb
    rcases List.mem_append.1 hp with hp | hp
    · exact h.own (Go.Proofs.YtpcfgoadkfajfaaGreatDoor.pack es) List.mem_cons_self b (List.mem_flatMap.2 ⟨p, hp, hb⟩)
    · exact h.own p (List.mem_cons_of_mem _ hp) b hb
/-- An entry more in a pack. -/
theorem SL.packMore {w : World} {es : List Ent} {e : Ent} (h : SL w0 O w (e :: Go.Proofs.YtpcfgoadkfajfaaGreatDoor.pack es :: L)) : SL w0 O w (Go.Proofs.YtpcfgoadkfajfaaGreatDoor.pack (es ++ [e]) :: L) := by
  have h1 : SL w0 O w (Go.Proofs.YtpcfgoadkfajfaaGreatDoor.pack es :: e :: L) := h.perm (List.Perm.swap _ _ _)
  have h2 := h1.unpack
  have h3 : SL w0 O w ((es ++ [e]) ++ L) := by rw [List.append_assoc]; exact h2
  exact h3.pack
theorem SL.packNil {w : World} (h : SL w0 O w L) : SL w0 O w (Go.Proofs.YtpcfgoadkfajfaaGreatDoor.pack [] :: L) := SL.pack (es := []) h
theorem SL.packRd {w : World} (h : SL w0 O w L) {i : Nat} {es : List Ent} (hL : L[i]? = some (Go.Proofs.YtpcfgoadkfajfaaGreatDoor.pack es)) {A : Option Addr} {cap : Nat} {e : TypeId} {sz : Nat} {xs : List (Array Value)} (he : Ent.row A cap e sz xs ∈ es) : Rd w A sz xs :=
  Ent.rd ((h.ents _ (List.mem_of_getElem? hL) : ∀ e ∈ es, e.sat w) _ he)
theorem CX.packNil (h : CX P r Q w0 O n D c V (pack [] :: L)) : CX P r Q w0 O n D c V L := fun a w ha hw => h a w ha hw.packNil
/-- Entry i goes into the pack j. -/
theorem CX.packMore {L' : List Ent} {e : Ent} {es : List Ent} (hL : L.Perm (e :: pack es :: L')) (h : CX P r Q w0 O n D c V (pack (es ++ [e]) :: L')) : CX P r Q w0 O n D c V L := fun a w ha hw => h a w ha (SL.packMore (hw.perm hL))
theorem CX.packMoreE {L' : List Ent} {e : Ent} {es es' : List Ent} (he : es' = es ++ [e]) (hL : L.Perm (e :: pack es :: L')) (h : CX P r Q w0 O n D c V (pack es' :: L')) : CX P r Q w0 O n D c V L := by
  subst he
  exact CX.packMore hL h
end
end Go.Proofs.YtpcfgoadkfajfaaGreatDoor
namespace Go.Proofs.YtpcfgoadkfajfaaGreatDoor
set_option linter.all false
open Go Go.RowKit
theorem made_flat {z : Array Value} {sz : Nat} (hz : z.size = sz) (h0 : 0 < sz) : ∀ n : Nat, (madeCells z (n * sz)).toList = flat (List.replicate n z) := by
  intro n
  apply List.ext_getElem?
  intro q
  have hlen : (flat (List.replicate n z)).length = n * sz := by
    rw [flat_length (sz := sz) (fun c hc => by rw [(List.mem_replicate.1 hc).2]; exact hz), List.length_replicate]
  by_cases hq : q < n * sz
  · have hk : q / sz < n := Nat.div_lt_of_lt_mul (by rw [Nat.mul_comm]; exact hq)
    have hr : q % sz < sz := Nat.mod_lt _ h0
    have hqe : q = q / sz * sz + q % sz := by rw [Nat.mul_comm]; exact (Nat.div_add_mod q sz).symm
    have h1 := flat_get (xs := List.replicate n z) (sz := sz) (k := q / sz) (j := q % sz) (c := z) (fun c hc => by rw [(List.mem_replicate.1 hc).2]; exact hz) (by rw [List.getElem?_replicate, if_pos hk]) hr
    rw [← hqe] at h1
    rw [h1]
    have h2 : q < (madeCells z (n * sz)).size := by rw [size_madeCells]; exact hq
    rw [Array.getElem?_toList, Array.getElem?_eq_getElem h2]
    simp [madeCells, hz]
    rw [Array.getElem?_eq_getElem (by omega), getElem!_pos z _ (by omega)]
  · rw [List.getElem?_eq_none (l := (madeCells z (n * sz)).toList) (by rw [Array.length_toList, size_madeCells]; omega), List.getElem?_eq_none (by rw [hlen]; omega)]
section
variable {P : Program} {w0 : World} {O : List Nat} {n : Nat} {D : List Deferred} {o : Oper} {V : List (Nat × Value)} {L : List Ent} {T : List (Nat × Value) → List Ent → Prop}
theorem op_makeSlice {t e : TypeId} {x y : Operand} {d sz bytes m : Nat} {z : Value} {q1 q2 : Int} (ho : o.op = .makeSlice t x y) (hd : o.dst = some d) (hdn : Nat.blt d n = true) (ht : SlB P t e sz bytes z) (hx : ev V x = some (.int .i64 q1)) (hy : ev V y = some (.int .i64 q2)) (h1 : q1 = (m : Int)) (h2 : q2 = (m : Int)) (hp : ∀ u ∈ z.cells.toList, u.oneCell' = true)
    (hb : bytes * m ≤ 281474976710656) (hm : m ≤ 281474976710656)
    (hT : ∀ g, T ((d, .slice (some ⟨g, 0, none⟩) m m) :: V) (.row (some ⟨g, 0, none⟩) m e sz (List.replicate m z.cells) :: L)) : OpS P w0 O n D o V L T := by
  intro a w ha hw
  subst h1; subst h2
  obtain ⟨i, hi, hz, hsz, hbb⟩ := ht.info
  have hr0 := run_make (P := P) w t e i z ht.under hi hz .i64 .i64 (m : Int) (m : Int) (by omega) (by omega) (by rw [hbb, ← Int.natCast_mul]; omega) (by omega)
  rw [hsz] at hr0
  simp only [Int.toNat_natCast] at hr0
  have hr : (execOp a.eval o).run P w = .ok (.value (.slice (some ⟨w.heap.size, 0, none⟩) m m)) (w.alloc (.cells (madeCells z.cells (m * sz)) e)) := by
    simp only [execOp, ho, ha.eval hx, ha.eval hy, Sem.run_bind, hr0, Result.andThen_ok, Sem.run_pure]
  unfold Does
  rw [hr, hd]
  refine ⟨_, _, hT w.heap.size, ha.put hdn _, ?_⟩
  have hall := hw.alloc (.cells (madeCells z.cells (m * sz)) e)
  have hfl := made_flat ht.zs ht.pos m
  have := hall.set (A := []) (R := L) (w' := w.alloc (.cells (madeCells z.cells (m * sz)) e)) (p := .blk w.heap.size (.cells (madeCells z.cells (m * sz)) e)) (p' := .row (some ⟨w.heap.size, 0, none⟩) m e sz (List.replicate m z.cells)) rfl rfl rfl rfl (Nat.le_refl _)
    ⟨⟨by rw [flat_length (sz := sz) (fun c hc => by rw [(List.mem_replicate.1 hc).2]; exact ht.zs)], .inr ⟨w.heap.size, m, _, by simp, Nat.zero_le _, heap_alloc_new w _, by simp, by unfold maxLen; omega, by rw [size_madeCells], by rw [List.length_replicate, hfl]; exact List.take_of_length_le (by rw [flat_length (sz := sz) (fun c hc => by rw [(List.mem_replicate.1 hc).2]; exact ht.zs), List.length_replicate]; exact Nat.le_refl _)⟩⟩, fun c hc => by rw [(List.mem_replicate.1 hc).2]; exact ⟨ht.zs, hp⟩⟩
    (by simp [Ent.blocks]) (fun b hb => .inl (by simpa [Ent.blocks] using hb)) (fun _ _ _ => rfl)
  simpa using this
theorem run_copy_rd {w : World} {t ty e : TypeId} {sz bytes : Nat} {z : Value} (ht : SlB P t e sz bytes z) {g cap : Nat} {ds : List (Array Value)} (hrow : (Ent.row (some ⟨g, 0, none⟩) cap e sz ds).sat w) {B : Option Addr} {c : Nat} {xs : List (Array Value)} (hB : Rd w B sz xs) (hl : xs.length = ds.length) :
    ∃ w', (Builtin.copy_ #[t, t] ty #[.slice (some ⟨g, 0, none⟩) ds.length cap, .slice B xs.length c]).run P w = .ok (.int .i64 ((xs.length : Nat) : Int)) w' ∧ (Ent.row (some ⟨g, 0, none⟩) cap e sz xs).sat w' ∧ w.grownBy w' (some g) := by
  obtain ⟨i, hi, hz, hsz, hbb⟩ := ht.info
  obtain ⟨⟨hd1, hd2⟩, hds⟩ := hrow
  rcases hd2 with ⟨hv, _⟩ | ⟨g', cp, cur, hv, hbg, hg, hnc, hcm, hcs, htake⟩
  · cases hv
  injection hv with h1 h2 h3
  injection h1 with h1
  injection h1 with h1
  subst h1; subst h3
  rcases xs with _ | ⟨x, xs⟩
  · obtain rfl := List.eq_nil_of_length_eq_zero hl.symm
    refine ⟨w, ?_, ⟨⟨hd1, .inr ⟨g, cap, cur, rfl, hbg, hg, hnc, hcm, hcs, htake⟩⟩, hds⟩, World.grownBy.refl w _⟩
    cases B with
    | none => simp [Builtin.copy_, run_underlying ht.under, Builtin.lenOf, Builtin.firstCells, sizeOf, typeInfo, hi, storeCells, goInt]
    | some b => simp [Builtin.copy_, run_underlying ht.under, Builtin.lenOf, Builtin.firstCells, sizeOf, typeInfo, hi, storeCells, goInt, loadCells, loadCellsFrom]
  · have hy := fun k c hk => hB.at_ k c hk
    obtain ⟨_, ⟨b, j, rfl⟩, _, _⟩ := hy 0 x (by simp)
    have hxs : ∀ c ∈ (x :: xs), c.size = sz ∧ ∀ u ∈ c.toList, u.oneCell' = true := by
      intro c hc
      obtain ⟨k, hk⟩ := List.mem_iff_getElem?.1 hc
      exact ⟨(hy k c hk).1, (hy k c hk).2.2.2.1⟩
    have hfl := flat_length (fun c hc => (hxs c hc).1)
    have hsrc : ∀ q u, (flat (x :: xs))[q]? = some u → w.cell? ((⟨b, j, none⟩ : Addr).add q) = some u := by
      intro q u hq
      have hqlt : q < (x :: xs).length * sz := by
        have := (List.getElem?_eq_some_iff.1 hq).1
        omega
      have hk : q / sz < (x :: xs).length := Nat.div_lt_of_lt_mul (by rw [Nat.mul_comm]; exact hqlt)
      have hr : q % sz < sz := Nat.mod_lt _ ht.pos
      have hqe : q = q / sz * sz + q % sz := by rw [Nat.mul_comm]; exact (Nat.div_add_mod q sz).symm
      have hget := flat_get (fun c hc => (hxs c hc).1) (List.getElem?_eq_getElem hk) hr
      rw [← hqe] at hget
      obtain ⟨_, _, _, _, hc⟩ := hy (q / sz) _ (List.getElem?_eq_getElem hk)
      have h1 := hc (q % sz) hr
      rw [add_none]
      rw [show ab (some ⟨b, j, none⟩) = b from rfl, show ao (some ⟨b, j, none⟩) = j from rfl, Nat.add_assoc, ← hqe] at h1
      rw [h1, ← hget, hq]
    have hle : (x :: xs).length * sz ≤ cap * sz := Nat.mul_le_mul_right _ (by rw [hl]; exact hnc)
    have hf := run_firstCells_some (P := P) w i.size (x :: xs).length ⟨b, j, none⟩ (x :: xs).length c (flat (x :: xs)) (by rw [hsz]; exact hfl) hsrc
    have hst := run_storeCells_at P g 0 e (flat (x :: xs)) 0 cur w hg (by rw [hcs, hfl]; omega) (fun u hu => by obtain ⟨c, hc, hcu⟩ := mem_flat.1 hu; exact (hxs c hc).2 u hcu)
    simp only [Nat.add_zero] at hst
    refine ⟨w.setRow g (cur.toList.take 0 ++ flat (x :: xs) ++ cur.toList.drop (0 + (flat (x :: xs)).length)).toArray, ?_, ⟨⟨hfl, .inr ⟨g, cap, _, rfl, hbg, setRow_heap w g cur _ e _ hg, by rw [hl]; exact hnc, hcm, ?_, ?_⟩⟩, hxs⟩, ⟨rfl, rfl, rfl, by simp, fun k _ hk => setRow_other w g k _ (fun e => hk (by simp [e]))⟩⟩
    · have hmin : Nat.min (x :: xs).length ds.length = (x :: xs).length := by rw [hl]; exact Nat.min_self _
      simp at hmin hf hst
      have hmin' : Nat.min (xs.length + 1) ds.length = xs.length + 1 := hmin
      simp [Builtin.copy_, run_underlying ht.under, Builtin.lenOf, sizeOf, typeInfo, hi, hmin', hf, hst, goInt]
    · simp only [List.size_toArray, List.length_append, List.length_take, List.length_drop, Array.length_toList, hfl, hcs]
      omega
    · simp only [Nat.zero_add, List.take_zero, List.nil_append]
      rw [← hfl]
      exact List.take_left
/-- copy of all of a slice into one of one's own of the same length. -/
theorem op_copyRd {α : Type} (enc : α → Array Value) {x y : Operand} {t e : TypeId} {d g i m cap c sz bytes : Nat} {z : Value} {ds : List (Array Value)} {B : Option Addr} {xs : List α} (ho : o.op = .call { callee := .builtin .copy, args := #[x, y], argTypes := #[t, t] }) (hd : o.dst = some d) (hdn : Nat.blt d n = true) (ht : SlB P t e sz bytes z)
    (hx : ev V x = some (.slice (some ⟨g, 0, none⟩) m cap)) (hL : L[i]? = some (.row (some ⟨g, 0, none⟩) cap e sz ds)) (hm : ds.length = m) (hy : ev V y = some (.slice B m c)) (hr : ∀ w, SL w0 O w L → Rd w B sz (xs.map enc)) (hl : xs.length = m)
    (hT : T ((d, .int .i64 ((m : Nat) : Int)) :: V) (L.set i (.row (some ⟨g, 0, none⟩) cap e sz (xs.map enc)))) : OpS P w0 O n D o V L T := by
  intro a w ha hw
  subst hm
  have hl' : (xs.map enc).length = ds.length := by rw [List.length_map, hl]
  obtain ⟨w', h1, h2, h3⟩ := run_copy_rd (P := P) (w := w) (ty := o.type) (c := c) ht (hw.ents _ (List.mem_of_getElem? hL)) (hr w hw) hl'
  rw [hl'] at h1
  have hr' : (execOp a.eval o).run P w = .ok (.value (.int .i64 ((ds.length : Nat) : Int))) w' := by
    simp only [execOp, ho, resolve, invoke, builtin, Sem.run_bind, Sem.run_pure, Result.andThen_ok, List.map_toArray, List.map_cons, List.map_nil, ha.eval hx, ha.eval hy, h1]
  unfold Does
  rw [hr', hd]
  refine ⟨_, _, hT, ha.put hdn _, hw.setI hL h3.os h3.tape h3.output h3.size h2 row_blocks_nodup (fun b hb => .inl hb) (fun k hk hkb => h3.block k hk (fun e => hkb ?_))⟩
  injection e with e
  simp [Ent.blocks, e]
end
end Go.Proofs.YtpcfgoadkfajfaaGreatDoor
namespace Go.Proofs.YtpcfgoadkfajfaaGreatDoor
set_option linter.all false
open Go Go.RowKit
theorem flat_u8 (xs : List UInt8) : flat (xs.map u8c) = xs.map u8v := by
  induction xs with
  | nil => rfl
  | cons x xs ih => simp [flat] at ih ⊢; exact ih
theorem strCells_u8 (s : ByteArray) : Lib.strCells s = s.data.toList.map u8v := rfl
theorem size_list (s : ByteArray) : s.data.toList.length = s.size := by rw [Array.length_toList]; rfl
section
variable {P : Program} {w0 : World} {O : List Nat} {n : Nat} {D : List Deferred} {o : Oper} {V : List (Nat × Value)} {L : List Ent} {T : List (Nat × Value) → List Ent → Prop}

theorem row_u8 {w : World} {A : Option Addr} {cap : Nat} {e : TypeId} {xs : List UInt8} : (Ent.row A cap e 1 (xs.map u8c)).sat w ↔ w.ownsRow 0 e 1 (.slice A xs.length cap) xs.length (xs.map u8v) := by
  constructor
  · rintro ⟨h, _⟩
    rw [flat_u8] at h
    simpa using h
  · intro h
    refine ⟨by rw [flat_u8]; simpa using h, ?_⟩
    intro c hc
    obtain ⟨b, _, rfl⟩ := List.mem_map.1 hc
    exact ⟨rfl, by intro u hu; simp at hu; subst hu; rfl⟩

theorem run_append_str {w : World} {t u ty e : TypeId} (ht : SlB P t e 1 1 (.int .u8 0)) (hu : P.underlying u = some .string) {A : Option Addr} {cap : Nat} {xs : List UInt8} (hrow : (Ent.row A cap e 1 (xs.map u8c)).sat w) (s : ByteArray) (hby : xs.length + s.size ≤ 140737488355328) :
    ∃ A' cap' w', (Builtin.append_ #[t, u] ty #[.slice A xs.length cap, .string s]).run P w = .ok (.slice A' (xs ++ s.data.toList).length cap') w' ∧ (Ent.row A' cap' e 1 ((xs ++ s.data.toList).map u8c)).sat w' ∧ w.grownBy w' (Value.slice A xs.length cap).ownBlock ∧
      (A'.map Addr.block = A.map Addr.block ∨ A'.map Addr.block = some w.heap.size) ∧ (A = none → s.size = 0 → A' = none) := by
  obtain ⟨i, hi, hz, hsz, hbb⟩ := ht.info
  have hown := row_u8.1 hrow
  have hsl := size_list s
  obtain ⟨v', w', h1, h2, h3, h4⟩ := Lib.run_append_own_string (P := P) w 0 t u ty e i ht.under hu hi hz hsz hbb _ _ _ hown s (by unfold maxLen; omega) hby (Nat.zero_le _)
  rw [strCells_u8, ← List.map_append] at h2
  have hn : xs.length + s.size = (xs ++ s.data.toList).length := by simp [hsl]
  rw [hn] at h2
  obtain ⟨A', cap', rfl⟩ : ∃ A' cap', v' = .slice A' (xs ++ s.data.toList).length cap' := by
    rcases h2.2 with ⟨hv, hn⟩ | ⟨g, cp, cur, hv, _⟩
    · exact ⟨none, 0, by rw [hv, hn]⟩
    · exact ⟨_, _, hv⟩
  have hnn : A = none → s.size = 0 → A' = none := by
    intro hA hs
    rcases hown.2 with ⟨hv, h0⟩ | ⟨g, cap, cur, hv, _⟩
    · have := h4.2 ⟨hv, hs⟩
      injection this
    · rw [hA] at hv; cases hv
  refine ⟨A', cap', w', h1, row_u8.2 h2, h3, ?_, hnn⟩
  rcases hown.2 with ⟨hv, h0⟩ | ⟨g, cap, cur, hv, hbg, hg, hnc, hcm, hcs, htake⟩
  · injection hv with hA hl hc
    subst hA; subst hc
    by_cases hs : s.size = 0
    · have : A' = none := by
        have := (h4.2 ⟨by rw [h0], hs⟩)
        injection this
      left; rw [this]
    · have hr := run_append_nil_string (P := P) w t u ty e i (.int .u8 0) ht.under hu hi hz s (by omega) (by omega) (by rw [hbb]; omega)
      rw [h0] at h1
      rw [h1] at hr
      injection hr with hr1 hr2
      injection hr1 with hr3
      right; rw [hr3]; rfl
  · injection hv with hA hl hc
    subst hA; subst hc
    by_cases hroom : xs.length + s.size ≤ cap
    · have hcs' : cur.size = cap := by simpa using hcs
      have hr := Lib.run_append_room_string (P := P) w t u ty e i ht.under hu hi hsz g xs.length cap cur hg s hroom (by omega)
      rw [h1] at hr
      injection hr with hr1 hr2
      injection hr1 with hr3
      left; rw [hr3]
    · have holds : ∀ j u, (xs.map u8v)[j]? = some u → w.cell? ((⟨g, 0, none⟩ : Addr).add j) = some u := hown.cells (g := g) rfl
      have hr := Lib.run_append_grow_string (P := P) w t u ty e i (.int .u8 0) ht.under hu hi hz ⟨g, 0, none⟩ xs.length cap (xs.map u8v) (by rw [hsz]; simp) holds s (by omega) (by omega) (by rw [hbb]; exact growslice_fits (by omega) (by omega))
      rw [h1] at hr
      injection hr with hr1 hr2
      injection hr1 with hr3
      right; rw [hr3]; rfl

/-- append(buf, s...), s a string. -/
theorem op_appendStr {x y : Operand} {t u e : TypeId} {d i cap : Nat} {A : Option Addr} {xs : List UInt8} {s : ByteArray}
    (ho : o.op = .call { callee := .builtin .append, args := #[x, y], argTypes := #[t, u] }) (hd : o.dst = some d) (hdn : Nat.blt d n = true) (ht : SlB P t e 1 1 (.int .u8 0)) (hu : P.underlying u = some .string) (hx : ev V x = some (.slice A xs.length cap)) (hL : L[i]? = some (.row A cap e 1 (xs.map u8c)))
    (hy : ev V y = some (.string s)) (hby : xs.length + s.size ≤ 140737488355328)
    (hT : ∀ A' cap', (A = none → s.size = 0 → A' = none) → T ((d, .slice A' (xs ++ s.data.toList).length cap') :: V) (L.set i (.row A' cap' e 1 ((xs ++ s.data.toList).map u8c)))) : OpS P w0 O n D o V L T := by
  intro a w ha hw
  obtain ⟨A', cap', w', hrun, hsat, hgr, hbl, hnn⟩ := run_append_str (P := P) (w := w) (ty := o.type) ht hu (hw.ents _ (List.mem_of_getElem? hL)) s hby
  have hr : (execOp a.eval o).run P w = .ok (.value (.slice A' (xs ++ s.data.toList).length cap')) w' := by
    simp only [execOp, ho, resolve, invoke, builtin, Sem.run_bind, Sem.run_pure, Result.andThen_ok, List.map_toArray, List.map_cons, List.map_nil, ha.eval hx, ha.eval hy, hrun]
  unfold Does
  rw [hr, hd]
  refine ⟨_, _, hT A' cap' hnn, ha.put hdn _, hw.setI hL hgr.os hgr.tape hgr.output hgr.size hsat row_blocks_nodup ?_ ?_⟩
  · intro b hb
    have hb' : A'.map Addr.block = some b := by simpa [Ent.blocks] using hb
    rcases hbl with h | h
    · left; rw [h] at hb'; simpa [Ent.blocks] using hb'
    · right; rw [h] at hb'; simp at hb'; omega
  · intro k hk hkb
    refine hgr.block k hk ?_
    intro hkk
    apply hkb
    cases A with
    | none => simp [Value.ownBlock] at hkk
    | some a => simp [Value.ownBlock] at hkk; simp [Ent.blocks, hkk]

/-- The rest of a slice, of which something is left. -/
theorem yw_sliceFromS {t e : TypeId} {x l : Operand} {A : Option Addr} {b q0 len cap sz k : Nat} {q : Int} (hA : A = some ⟨b, q0, none⟩) (ho : o.op = .slice t x (some l) none none) (ht : SlT P t e sz) (hx : ev V x = some (.slice A len cap)) (hl : ev V l = some (.int .i64 q)) (hq : q = (k : Int)) (hk : k ≤ len) (hc : len ≤ cap) (hkc : k < cap) :
    YldW P n D o V (.slice (some ⟨b, q0 + k * sz, none⟩) (len - k) (cap - k)) := by
  subst hA
  have := yw_sliceFrom (P := P) (n := n) (D := D) (k := k) ho ht hx hl hq (by first | exact hk | exact ⟨hk, hc⟩)
  rw [if_neg (by omega), Option.map_some, add_none] at this
  exact this
theorem Rd.dropM {α : Type} {f : α → Array Value} {w : World} {A : Option Addr} {b q0 sz : Nat} {xs : List α} (h : Rd w A sz (xs.map f)) (hA : A = Option.some ⟨b, q0, none⟩) (k : Nat) : Rd w (Option.some ⟨b, q0 + k * sz, none⟩) sz ((xs.drop k).map f) := by
  subst hA
  refine ⟨fun i c hc => ?_⟩
  rw [List.getElem?_map, List.getElem?_drop, ← List.getElem?_map] at hc
  obtain ⟨h1, _, h3, h4, h5⟩ := h.at_ (k + i) c hc
  refine ⟨h1, ⟨b, q0 + k * sz, rfl⟩, h3, h4, fun j hj => ?_⟩
  have := h5 j hj
  have e : (⟨ab (Option.some ⟨b, q0 + k * sz, none⟩), ao (Option.some ⟨b, q0 + k * sz, none⟩) + i * sz + j, none⟩ : Addr) = ⟨ab (Option.some ⟨b, q0, none⟩), ao (Option.some ⟨b, q0, none⟩) + (k + i) * sz + j, none⟩ := by
    simp [ab, ao, Nat.add_mul]; omega
  rw [e]; exact this
theorem Rd.takeM {α : Type} {f : α → Array Value} {w : World} {A : Option Addr} {sz : Nat} {xs : List α} (h : Rd w A sz (xs.map f)) (k : Nat) : Rd w A sz ((xs.take k).map f) := by
  rw [List.map_take]
  exact ⟨fun j c hc => by
    rw [List.getElem?_take] at hc
    split at hc
    · exact h.at_ j c hc
    · cases hc⟩

/-- The bytes of a row as a string. -/
theorem y_bytesRow {s d e ey : TypeId} {x : Operand} {A : Option Addr} {i cap c : Nat} {l : List UInt8} (ho : o.op = .convert s d x) (hx : ev V x = some (.slice A l.length c)) (hs : P.underlying s = some (.slice e)) (he : P.underlying e = some (.int .u8)) (hd : P.underlying d = some .string)
    (hL : L[i]? = some (.row A cap ey 1 (l.map u8c))) (hl : 0 < l.length) : Yld P w0 O n D o V L (.string ⟨l.toArray⟩) := by
  intro a w ha hw
  have hr := Ent.rd (hw.ents _ (List.mem_of_getElem? hL))
  obtain ⟨b, j, hA⟩ := hr.some (k := 0) (by simpa using hl)
  subst hA
  exact y_bytesRd (P := P) (O := O) (L := L) (w0 := w0) l ho hx hs he hd (fun w hw => Ent.rd (hw.ents _ (List.mem_of_getElem? hL))) rfl a w ha hw
/-- The rest of a map of a row whose place is known. -/
theorem u8c_bv (b : BitVec 8) : u8c (UInt8.ofBitVec b) = #[.int .u8 (wi b)] := rfl

/-! ### Functions of the model's table -/
theorem op_ext1 {x fo : Operand} {t : TypeId} {f d : Nat} {fn : Func} {e : Array Value → Sem Value} {v : Value} (ho : o.op = .call { callee := .value fo, args := #[x], argTypes := #[t] }) (hd : o.dst = some d) (hdn : Nat.blt d n = true) (hfo : ev V fo = some (.func (.func f) #[] #[])) (hx : ev V x = some v)
    (hf : P.funcs[f]? = some fn) (hname : (fn.name == "runtime.NumGoroutine") = false) (hb : fn.body.isNone = true) (hn : Extern.findNext fn = none) (he : Extern.find fn = some e) (hE : e = Extern.AbiNoEscape.same)
    (hT : T ((d, v) :: V) L) : OpS P w0 O n D o V L T := by
  intro a w ha hw
  subst hE
  have hr : (execOp a.eval o).run P w = .ok (.value v) w := by
    have h1 := run_callFunc_extern (P := P) hf hname hb hn he #[v] w
    rw [Lib.run_noEscape] at h1
    simp [execOp, ho, resolve, invoke, ha.eval hfo, ha.eval hx, Deferred.ofValue, h1]
  unfold Does
  rw [hr, hd]
  exact ⟨_, _, hT, ha.put hdn _, hw⟩
/-- New bytes for a buffer. -/
theorem op_makeNoZero {x fo : Operand} {t ts e : TypeId} {f d : Nat} {fn : Func} {ex : Array Value → Sem Value} {q : Int} {m : Nat} {ps : Array TypeId} (ho : o.op = .call { callee := .value fo, args := #[x], argTypes := #[t] }) (hd : o.dst = some d) (hdn : Nat.blt d n = true) (hfo : ev V fo = some (.func (.func f) #[] #[])) (hx : ev V x = some (.int .i64 q)) (hq : q = (m : Int))
    (hf : P.funcs[f]? = some fn) (hname : (fn.name == "runtime.NumGoroutine") = false) (hb : fn.body.isNone = true) (hn : Extern.findNext fn = none) (he : Extern.find fn = some ex) (hE : ex = Extern.BytealgMakeNoZero.makeNoZero ps #[ts]) (ht : P.underlying ts = some (.slice e)) (hm : m ≤ 281474976710656) (h0 : 0 < m)
    (hT : ∀ g cap, T ((d, .slice (some ⟨g, 0, none⟩) m cap) :: V) (.row (some ⟨g, 0, none⟩) cap e 1 (([] : List UInt8).map u8c) :: L)) : OpS P w0 O n D o V L T := by
  intro a w ha hw
  subst hE
  subst hq
  obtain ⟨cs, hrun, hle, hmax⟩ := Lib.run_makeNoZero (P := P) w ps ts e ht m hm
  have hr : (execOp a.eval o).run P w = .ok (.value (.slice (some ⟨w.heap.size, 0, none⟩) m cs.size)) (w.drew.drew.alloc (.cells cs e)) := by
    have h1 := run_callFunc_extern (P := P) hf hname hb hn he #[.int .i64 m] w
    rw [hrun] at h1
    simp [execOp, ho, resolve, invoke, ha.eval hfo, ha.eval hx, Deferred.ofValue, h1]
  unfold Does
  rw [hr, hd]
  refine ⟨_, _, hT w.heap.size cs.size, ha.put hdn _, ?_⟩
  have hw2 : SL w0 O w.drew.drew L := ⟨hw.os, hw.tape, hw.output, hw.size, hw.same, fun p hp => Ent.keep (hw.ents p hp) (fun _ _ => rfl), hw.nodup, hw.own⟩
  have hall := hw2.alloc (.cells cs e)
  have := hall.set (A := []) (R := L) (w' := w.drew.drew.alloc (.cells cs e)) (p := .blk w.heap.size (.cells cs e)) (p' := .row (some ⟨w.heap.size, 0, none⟩) cs.size e 1 (([] : List UInt8).map u8c)) rfl rfl rfl rfl (Nat.le_refl _)
    (row_u8.2 ⟨by simp, .inr ⟨w.heap.size, cs.size, cs, rfl, Nat.zero_le _, heap_alloc_new w.drew.drew _, by simp, hmax (by unfold maxLen; omega), by simp, by simp⟩⟩) (by simp [Ent.blocks]) (fun b hb => .inl (by simpa [Ent.blocks] using hb)) (fun _ _ _ => rfl)
  simpa using this
theorem yw_copyNone {x y : Operand} {t u e : TypeId} {A B : Option Addr} {m c m2 c2 : Nat} (ho : o.op = .call { callee := .builtin .copy, args := #[x, y], argTypes := #[t, u] }) (ht : SlT P t e 1) (hx : ev V x = some (.slice A m c)) (hy : ev V y = some (.slice B m2 c2)) (h0 : Nat.min m2 m = 0) : YldW P n D o V (.int .i64 0) := by
  intro a w ha
  obtain ⟨f, g1, g2, g3⟩ := ht
  have := run_copy_none (P := P) w t u o.type e A B m c m2 c2 g1 (by rw [g2]; simp [g3]) h0
  simp only [execOp, ho, resolve, invoke, builtin, Sem.run_bind, Sem.run_pure, Result.andThen_ok, List.map_toArray, List.map_cons, List.map_nil, ha.eval hx, ha.eval hy, this]
  rfl

theorem yw_capS {x : Operand} {t e : TypeId} {A : Option Addr} {m c : Nat} (ho : o.op = .call { callee := .builtin .cap, args := #[x], argTypes := #[t] }) (ht : P.underlying t = some (.slice e)) (hx : ev V x = some (.slice A m c)) : YldW P n D o V (.int .i64 c) := by
  intro a w ha
  simp [execOp, ho, resolve, invoke, builtin, ha.eval hx, Builtin.cap_, run_underlying ht, goInt]

/-! ### Pointers -/
/-- A pointer's type, whose element has a size. -/
def PtrT (P : Program) (t e : TypeId) : Prop := ∃ i, P.underlying t = some (.pointer e) ∧ P.info? e = some i ∧ i.size ≠ 0
theorem yw_ptrNil {t e u : TypeId} {x y : Operand} (ho : o.op = .binOp .eql t x y u) (ht : PtrT P t e) (hx : ev V x = some (.pointer none)) (hy : ev V y = some (.pointer none)) : YldW P n D o V (.bool true) := by
  intro a w ha
  obtain ⟨i, h1, h2, h3⟩ := ht
  have h : ∀ d : Nat, (Op.equalIn (d + 1) t (.pointer none) (.pointer none)).run P w = .ok true w := fun d => by
    simp [Op.equalIn, run_underlying h1, sizeOf, typeInfo, h2]
  simp [execOp, ho, ha.eval hx, ha.eval hy, eqGuard, binOp, Op.equal, Op.maxDepth, h 9999]
theorem yw_ptrSome {t e u : TypeId} {x y : Operand} {p : Addr} (ho : o.op = .binOp .eql t x y u) (ht : PtrT P t e) (hx : ev V x = some (.pointer (some p))) (hy : ev V y = some (.pointer none)) : YldW P n D o V (.bool false) := by
  intro a w ha
  obtain ⟨i, h1, h2, h3⟩ := ht
  have h : ∀ d : Nat, (Op.equalIn (d + 1) t (.pointer (some p)) (.pointer none)).run P w = .ok false w := fun d => by
    simp [Op.equalIn, run_underlying h1, sizeOf, typeInfo, h2]
  simp [execOp, ho, ha.eval hx, ha.eval hy, eqGuard, binOp, Op.equal, Op.maxDepth, h 9999]
theorem yw_ptrNe {t e u : TypeId} {x y : Operand} {p : Addr} (ho : o.op = .binOp .neq t x y u) (ht : PtrT P t e) (hx : ev V x = some (.pointer (some p))) (hy : ev V y = some (.pointer (some p))) : YldW P n D o V (.bool false) := by
  intro a w ha
  obtain ⟨i, h1, h2, h3⟩ := ht
  have := Lib.run_neq_ptr_same (P := P) w p h1 h2
  simp only [execOp, ho, ha.eval hx, ha.eval hy, Sem.run_bind]
  rw [show (eqGuard .neq t x y (.pointer (some p)) (.pointer (some p))) = pure () from by simp [eqGuard]]
  simp [this]
theorem y_toUnsafe {s d t e : TypeId} {x : Operand} {g i : Nat} {cs : Array Value} (ho : o.op = .convert s d x) (hs : PtrT P s t) (hd : P.underlying d = some .unsafePointer) (hx : ev V x = some (.pointer (some ⟨g, 0, none⟩))) (hL : L[i]? = some (.blk g (.cells cs e (0, 0)))) (h0 : 0 < cs.size) : Yld P w0 O n D o V L (.pointer (some ⟨g, 0, none⟩)) := by
  intro a w ha hw
  obtain ⟨j, h1, h2, h3⟩ := hs
  have hg : w.heap[g]? = some (.cells cs e (0, 0)) := hw.ents _ (List.mem_of_getElem? hL)
  have := Lib.run_to_unsafe (P := P) w ⟨g, 0, none⟩ h1 hd h2 h3 (e := e) (cells := cs.size) (by simp [World.shape?, hg]) h0
  simp only [execOp, ho, ha.eval hx, Sem.run_bind, this, Result.andThen_ok, Sem.run_pure]
theorem y_fromUnsafe {s d t e : TypeId} {x : Operand} {g i : Nat} {cs : Array Value} (ho : o.op = .convert s d x) (hs : P.underlying s = some .unsafePointer) (hd : PtrT P d t) (hx : ev V x = some (.pointer (some ⟨g, 0, none⟩))) (hL : L[i]? = some (.blk g (.cells cs e (0, 0)))) (hlies : liesAt P P.depth e (cs.size / P.cellsOf e) 0 t 1 = true) : Yld P w0 O n D o V L (.pointer (some ⟨g, 0, none⟩)) := by
  intro a w ha hw
  obtain ⟨j, h1, h2, h3⟩ := hd
  have hg : w.heap[g]? = some (.cells cs e (0, 0)) := hw.ents _ (List.mem_of_getElem? hL)
  have := Lib.run_from_unsafe (P := P) w ⟨g, 0, none⟩ hs h1 h2 (e := e) (cells := cs.size) (by simp [World.shape?, hg]) hlies
  simp only [execOp, ho, ha.eval hx, Sem.run_bind, this, Result.andThen_ok, Sem.run_pure]

/-! ### The bytes of a buffer as a string -/
theorem yw_sliceData0 {x : Operand} {ts : Array TypeId} {m c : Nat} (ho : o.op = .call { callee := .builtin .unsafeSliceData, args := #[x], argTypes := ts }) (hx : ev V x = some (.slice none m c)) : YldW P n D o V (.pointer none) := by
  intro a w ha
  have := Lib.run_unsafeSliceData_nil (P := P) w ts o.type m c
  simp only [execOp, ho, resolve, invoke, builtin, Sem.run_bind, Sem.run_pure, Result.andThen_ok, List.map_toArray, List.map_cons, List.map_nil, ha.eval hx, this]
theorem yw_sliceData {x : Operand} {ts : Array TypeId} {p : Addr} {m c : Nat} (ho : o.op = .call { callee := .builtin .unsafeSliceData, args := #[x], argTypes := ts }) (hx : ev V x = some (.slice (some p) m c)) (hc : c ≠ 0) : YldW P n D o V (.pointer (some p)) := by
  intro a w ha
  have := Lib.run_unsafeSliceData_row (P := P) w ts o.type p m c hc
  simp only [execOp, ho, resolve, invoke, builtin, Sem.run_bind, Sem.run_pure, Result.andThen_ok, List.map_toArray, List.map_cons, List.map_nil, ha.eval hx, this]
theorem yw_unsafeString0 {x y : Operand} {t u : TypeId} {p : Option Addr} (ho : o.op = .call { callee := .builtin .unsafeString, args := #[x, y], argTypes := #[t, u] }) (hx : ev V x = some (.pointer p)) (hy : ev V y = some (.int .i64 0)) : YldW P n D o V (.string .empty) := by
  intro a w ha
  have := Lib.run_unsafeString_none (P := P) w t u o.type p
  simp only [execOp, ho, resolve, invoke, builtin, Sem.run_bind, Sem.run_pure, Result.andThen_ok, List.map_toArray, List.map_cons, List.map_nil, ha.eval hx, ha.eval hy, this]
/-- The row is given up: its bytes are frozen. -/
theorem op_unsafeString {x y : Operand} {t u e : TypeId} {d g cap : Nat} {xs : List UInt8} {q : Int} (L' : List Ent) (ho : o.op = .call { callee := .builtin .unsafeString, args := #[x, y], argTypes := #[t, u] }) (hd : o.dst = some d) (hdn : Nat.blt d n = true) (hx : ev V x = some (.pointer (some ⟨g, 0, none⟩))) (hy : ev V y = some (.int .i64 q)) (hq : q = ((xs.length : Nat) : Int))
    (hp : P.underlying t = some (.pointer e)) (hc : P.cellsOf e = 1) (hL : L.Perm (.row (some ⟨g, 0, none⟩) cap e 1 (xs.map u8c) :: L')) (h0 : xs ≠ [])
    (hT : T ((d, .string ⟨xs.toArray⟩) :: V) L') : OpS P w0 O n D o V L T := by
  intro a w ha hw
  subst hq
  have hw1 := hw.perm hL
  have hown := row_u8.1 (hw1.ents _ List.mem_cons_self)
  obtain ⟨g', cp, cur, hv, _, hg, hnc, hcm, hcs, htk⟩ : ∃ g' cp cur, Value.slice (some ⟨g, 0, none⟩) xs.length cap = .slice (some ⟨g', 0, none⟩) xs.length cp ∧ 0 ≤ g' ∧ w.heap[g']? = some (.cells cur e (0, 0)) ∧ xs.length ≤ cp ∧ cp ≤ maxLen ∧ cur.size = cp * 1 ∧ cur.toList.take (xs.length * 1) = xs.map u8v := by
    rcases hown.2 with ⟨hv, _⟩ | h
    · cases hv
    · exact h
  obtain rfl : g = g' := by injection hv with h1; injection h1 with h1; injection h1
  have hrun := Lib.run_unsafeString_row (P := P) w t u o.type e hp hc g cur.size (by simp [World.shape?, hg]) xs h0 (by omega) (by unfold maxLen at hcm; omega) (fun j x hx => by
    have hjl := (List.getElem?_eq_some_iff.1 hx).1
    have h1 : (cur.toList.take (xs.length * 1))[j]? = some (u8v x) := by rw [htk, List.getElem?_map, hx]; rfl
    rw [List.getElem?_take_of_lt (by omega), Array.getElem?_toList] at h1
    rw [add_none, cell_of_row w _ _ cur e _ hg]
    simpa using h1)
  have hr : (execOp a.eval o).run P w = .ok (.value (.string ⟨xs.toArray⟩)) (w.freeze ⟨g, 0, none⟩ xs.length) := by
    simp only [execOp, ho, resolve, invoke, builtin, Sem.run_bind, Sem.run_pure, Result.andThen_ok, List.map_toArray, List.map_cons, List.map_nil, ha.eval hx, ha.eval hy, hrun]
  unfold Does
  rw [hr, hd]
  refine ⟨_, _, hT, ha.put hdn _, ?_⟩
  have hne : xs.length ≠ 0 := by simpa using h0
  have hsame : ∀ k, k ≠ g → (w.freeze ⟨g, 0, none⟩ xs.length).heap[k]? = w.heap[k]? := fun k hk => by
    simp only [World.freeze, hne, if_false, Array.getElem?_modify]
    rw [if_neg (fun h => hk h.symm)]
  have hsz : (w.freeze ⟨g, 0, none⟩ xs.length).heap.size = w.heap.size := by simp [World.freeze, hne]
  have := hw1.set (A := []) (R := L') (w' := w.freeze ⟨g, 0, none⟩ xs.length) (p := .row (some ⟨g, 0, none⟩) cap e 1 (xs.map u8c)) (p' := .row none 0 e 1 []) rfl (by simp [World.freeze, hne]) (by simp [World.freeze, hne]) (by simp [World.freeze, hne]) (Nat.le_of_eq hsz.symm) (sat_nil _ e 1) (by simp [Ent.blocks]) (by simp [Ent.blocks]) (fun k _ hkb => hsame k (by simpa [Ent.blocks] using hkb))
  exact this.sub (List.sublist_cons_self _ _)
end
end Go.Proofs.YtpcfgoadkfajfaaGreatDoor
namespace Go.Proofs.YtpcfgoadkfajfaaGreatDoor
set_option linter.all false
open Go Go.RowKit
section
variable {P : Program} {n : Nat} {D : List Deferred} {o : Oper} {V : List (Nat × Value)}
/-- x[lo:hi] -/
theorem yw_sliceMid {t e : TypeId} {x l h : Operand} {A : Option Addr} {b q0 len cap sz i j mm cc : Nat} {qi qj : Int} (hA : A = some ⟨b, q0, none⟩) (ho : o.op = .slice t x (some l) (some h) none) (ht : SlT P t e sz) (hx : ev V x = some (.slice A len cap)) (hl : ev V l = some (.int .i64 qi)) (hh : ev V h = some (.int .i64 qj))
    (e1 : qi = (i : Int)) (e2 : qj = (j : Int)) (h1 : i ≤ j) (h2 : j ≤ cap) (h4 : i < cap) (hmm : j - i = mm) (hcc : cap - i = cc) :
    YldW P n D o V (.slice (some ⟨b, q0 + i * sz, none⟩) mm cc) := by
  intro a w ha
  subst hA
  obtain ⟨f, g1, g2, g3⟩ := ht
  subst e1; subst e2; subst g3; subst hmm; subst hcc
  have a1 : (i : Int) ≤ (j : Int) := by omega
  have a3 : (j : Int) ≤ (cap : Int) := by omega
  have a4 : ¬ cap = i := by omega
  have := add_none
  simp [execOp, ho, ha.eval hx, ha.eval hl, ha.eval hh, Instr.sliceAt, Instr.slice, run_underlying g1, Instr.sliceBounds, Instr.sliceBound, asIntOf, h1, h2, sizeOf, typeInfo, g2, a4, add_none]
end
theorem Rd.mid {α : Type} {f : α → Array Value} {w : World} {A : Option Addr} {b q0 sz : Nat} {xs : List α} (h : Rd w A sz (xs.map f)) (hA : A = Option.some ⟨b, q0, none⟩) {k : Nat} {x : α} (hx : xs[k]? = Option.some x) : Rd w (Option.some ⟨b, q0 + k * sz, none⟩) sz ([x].map f) := by
  have h1 := (h.dropM hA k).takeM 1
  have hk := (List.getElem?_eq_some_iff.1 hx).1
  have e : (xs.drop k).take 1 = [x] := by
    rw [List.drop_eq_getElem_cons hk, List.take_succ_cons, List.take_zero]
    rw [List.getElem?_eq_getElem hk, Option.some.injEq] at hx
    rw [hx]
  rw [e] at h1
  exact h1
/-- A row with an element lies somewhere. -/
theorem Ent.rowAt {w : World} {A : Option Addr} {cap : Nat} {e : TypeId} {sz : Nat} {xs : List (Array Value)} (h : (Ent.row A cap e sz xs).sat w) (hl : 0 < xs.length) : ∃ g, A = Option.some ⟨g, 0, none⟩ := by
  obtain ⟨⟨_, h2⟩, _⟩ := h
  rcases h2 with ⟨_, h0⟩ | ⟨g, c, cur, hv, _⟩
  · omega
  · injection hv with hA _ _
    exact ⟨g, hA⟩
end Go.Proofs.YtpcfgoadkfajfaaGreatDoor
namespace Go.Proofs.YtpcfgoadkfajfaaGreatDoor
set_option linter.all false
open Go Go.RowKit
section
variable {P : Program} {n : Nat} {D : List Deferred} {o : Oper} {V : List (Nat × Value)}
theorem yw_beql {t u : TypeId} {x y : Operand} {a b : Bool} (ho : o.op = .binOp .eql t x y u) (ht : P.underlying t = some .bool) (hx : ev V x = some (.bool a)) (hy : ev V y = some (.bool b)) : YldW P n D o V (.bool (a == b)) := by
  intro c w ha
  have h : ∀ d : Nat, (Op.equalIn (d + 1) t (.bool a) (.bool b)).run P w = .ok (a == b) w := fun d => by
    simp [Op.equalIn, run_underlying ht]
  simp [execOp, ho, ha.eval hx, ha.eval hy, eqGuard, binOp, Op.equal, Op.maxDepth, h 9999]
theorem yw_bneq {t u : TypeId} {x y : Operand} {a b : Bool} (ho : o.op = .binOp .neq t x y u) (ht : P.underlying t = some .bool) (hx : ev V x = some (.bool a)) (hy : ev V y = some (.bool b)) : YldW P n D o V (.bool (!(a == b))) := by
  intro c w ha
  have h : ∀ d : Nat, (Op.equalIn (d + 1) t (.bool a) (.bool b)).run P w = .ok (a == b) w := fun d => by
    simp [Op.equalIn, run_underlying ht]
  simp [execOp, ho, ha.eval hx, ha.eval hy, eqGuard, binOp, Op.equal, Op.maxDepth, h 9999]
end
end Go.Proofs.YtpcfgoadkfajfaaGreatDoor
namespace Go.Proofs.YtpcfgoadkfajfaaGreatDoor
set_option linter.all false
open Go Go.RowKit
theorem run_copy_head {P : Program} {w : World} {t ty e : TypeId} {sz bytes : Nat} {z : Value} (ht : SlB P t e sz bytes z) {A : Option Addr} {cap : Nat} {ds : List (Array Value)} (hrow : (Ent.row A cap e sz ds).sat w) {B : Option Addr} {c : Nat} {xs : List (Array Value)} (hB : Rd w B sz xs) (hl : xs.length ≤ ds.length) :
    ∃ w', (Builtin.copy_ #[t, t] ty #[.slice A ds.length cap, .slice B xs.length c]).run P w = .ok (.int .i64 ((xs.length : Nat) : Int)) w' ∧ (Ent.row A cap e sz (xs ++ ds.drop xs.length)).sat w' ∧ w.grownBy w' (A.map Addr.block) := by
  obtain ⟨i, hi, hz, hsz, hbb⟩ := ht.info
  rcases xs with _ | ⟨x, xs⟩
  · refine ⟨w, ?_, by simpa using hrow, World.grownBy.refl w _⟩
    have h0 : Nat.min 0 ds.length = 0 := Nat.zero_min _
    cases B with
    | none => cases A <;> simp [Builtin.copy_, run_underlying ht.under, Builtin.lenOf, Builtin.firstCells, sizeOf, typeInfo, hi, storeCells, goInt, h0]
    | some b => cases A <;> simp [Builtin.copy_, run_underlying ht.under, Builtin.lenOf, Builtin.firstCells, sizeOf, typeInfo, hi, storeCells, goInt, loadCells, loadCellsFrom, h0]
  · obtain ⟨⟨hd1, hd2⟩, hds⟩ := hrow
    rcases hd2 with ⟨hv, hn0⟩ | ⟨g, cp, cur, hv, hbg, hg, hnc, hcm, hcs, htake⟩
    · rw [hn0] at hl; simp at hl
    injection hv with h1 h2 h3
    subst h1; subst h3
    have hy := fun k c hk => hB.at_ k c hk
    obtain ⟨_, ⟨b, j, rfl⟩, _, _⟩ := hy 0 x (by simp)
    have hxs : ∀ c ∈ (x :: xs), c.size = sz ∧ ∀ u ∈ c.toList, u.oneCell' = true := by
      intro c hc
      obtain ⟨k, hk⟩ := List.mem_iff_getElem?.1 hc
      exact ⟨(hy k c hk).1, (hy k c hk).2.2.2.1⟩
    have hfl := flat_length (fun c hc => (hxs c hc).1)
    have hsrc : ∀ q u, (flat (x :: xs))[q]? = some u → w.cell? ((⟨b, j, none⟩ : Addr).add q) = some u := by
      intro q u hq
      have hqlt : q < (x :: xs).length * sz := by
        have := (List.getElem?_eq_some_iff.1 hq).1
        omega
      have hk : q / sz < (x :: xs).length := Nat.div_lt_of_lt_mul (by rw [Nat.mul_comm]; exact hqlt)
      have hr : q % sz < sz := Nat.mod_lt _ ht.pos
      have hqe : q = q / sz * sz + q % sz := by rw [Nat.mul_comm]; exact (Nat.div_add_mod q sz).symm
      have hget := flat_get (fun c hc => (hxs c hc).1) (List.getElem?_eq_getElem hk) hr
      rw [← hqe] at hget
      obtain ⟨_, _, _, _, hc⟩ := hy (q / sz) _ (List.getElem?_eq_getElem hk)
      have h1 := hc (q % sz) hr
      rw [add_none]
      rw [show ab (some ⟨b, j, none⟩) = b from rfl, show ao (some ⟨b, j, none⟩) = j from rfl, Nat.add_assoc, ← hqe] at h1
      rw [h1, ← hget, hq]
    have hle : (x :: xs).length * sz ≤ cap * sz := Nat.mul_le_mul_right _ (by omega)
    have hf := run_firstCells_some (P := P) w i.size (x :: xs).length ⟨b, j, none⟩ (x :: xs).length c (flat (x :: xs)) (by rw [hsz]; exact hfl) hsrc
    have hst := run_storeCells_at P g 0 e (flat (x :: xs)) 0 cur w hg (by rw [hcs, hfl]; omega) (fun u hu => by obtain ⟨c, hc, hcu⟩ := mem_flat.1 hu; exact (hxs c hc).2 u hcu)
    simp only [Nat.add_zero] at hst
    have hsplit : flat ds = flat (ds.take (x :: xs).length) ++ flat (ds.drop (x :: xs).length) := by rw [← flat_append, List.take_append_drop]
    have htl : (flat (ds.take (x :: xs).length)).length = (x :: xs).length * sz := by
      rw [flat_length (sz := sz) (fun c hc => (hds c (List.mem_of_mem_take hc)).1), List.length_take, Nat.min_eq_left hl]
    have hdl : (flat (ds.drop (x :: xs).length)).length = (ds.length - (x :: xs).length) * sz := by
      rw [flat_length (sz := sz) (fun c hc => (hds c (List.mem_of_mem_drop hc)).1), List.length_drop]
    have hall : ∀ c ∈ ((x :: xs) ++ ds.drop (x :: xs).length), c.size = sz ∧ ∀ u ∈ c.toList, u.oneCell' = true := by
      intro c hc
      rcases List.mem_append.1 hc with hc | hc
      · exact hxs c hc
      · exact hds c (List.mem_of_mem_drop hc)
    have hlen : ((x :: xs) ++ ds.drop (x :: xs).length).length = ds.length := by rw [List.length_append, List.length_drop]; omega
    refine ⟨w.setRow g (cur.toList.take 0 ++ flat (x :: xs) ++ cur.toList.drop (0 + (flat (x :: xs)).length)).toArray, ?_, ⟨⟨flat_length (fun c hc => (hall c hc).1), .inr ⟨g, cap, _, by rw [hlen], hbg, setRow_heap w g cur _ e _ hg, by rw [hlen]; exact hnc, hcm, ?_, ?_⟩⟩, hall⟩, ⟨rfl, rfl, rfl, by simp, fun k _ hk => setRow_other w g k _ (fun e => hk (by simp [e]))⟩⟩
    · have hmin : Nat.min (x :: xs).length ds.length = (x :: xs).length := Nat.min_eq_left hl
      simp at hmin hf hst
      have hmin' : Nat.min (xs.length + 1) ds.length = xs.length + 1 := by simpa using hmin
      simp [Builtin.copy_, run_underlying ht.under, Builtin.lenOf, sizeOf, typeInfo, hi, hmin', hf, hst, goInt]
    · simp only [List.size_toArray, List.length_append, List.length_take, List.length_drop, Array.length_toList, hfl, hcs]
      omega
    · simp only [Nat.zero_add, List.take_zero, List.nil_append]
      rw [hlen, flat_append, List.take_append, hfl]
      have e1 : (flat (x :: xs)).take (ds.length * sz) = flat (x :: xs) := List.take_of_length_le (by rw [hfl]; exact Nat.mul_le_mul_right _ hl)
      rw [e1, ← Nat.sub_mul]
      congr 1
      have e2 : (cur.toList.drop ((x :: xs).length * sz)).take ((ds.length - (x :: xs).length) * sz) = (cur.toList.take (ds.length * sz)).drop ((x :: xs).length * sz) := by
        rw [List.drop_take, Nat.sub_mul]
      rw [e2, htake, hsplit, List.drop_left' htl]
section
variable {P : Program} {w0 : World} {O : List Nat} {n : Nat} {D : List Deferred} {o : Oper} {V : List (Nat × Value)} {L : List Ent} {T : List (Nat × Value) → List Ent → Prop}
theorem op_copyHead {α : Type} (enc : α → Array Value) {x y : Operand} {t e : TypeId} {d i m k cap c sz bytes : Nat} {z : Value} {A B : Option Addr} {ds xs : List α} (ho : o.op = .call { callee := .builtin .copy, args := #[x, y], argTypes := #[t, t] }) (hd : o.dst = some d) (hdn : Nat.blt d n = true) (ht : SlB P t e sz bytes z)
    (hx : ev V x = some (.slice A m cap)) (hL : L[i]? = some (.row A cap e sz (ds.map enc))) (hm : ds.length = m) (hy : ev V y = some (.slice B k c)) (hk : xs.length = k) (hle : k ≤ m) (hr : ∀ w, SL w0 O w L → Rd w B sz (xs.map enc))
    (hT : T ((d, .int .i64 ((k : Nat) : Int)) :: V) (L.set i (.row A cap e sz ((xs ++ ds.drop k).map enc)))) : OpS P w0 O n D o V L T := by
  intro a w ha hw
  subst hm; subst hk
  obtain ⟨w', h1, h2, h3⟩ := run_copy_head (P := P) (w := w) (ty := o.type) (c := c) ht (hw.ents _ (List.mem_of_getElem? hL)) (hr w hw) (by rw [List.length_map, List.length_map]; exact hle)
  rw [List.length_map, List.length_map] at h1
  rw [List.length_map, ← List.map_drop, ← List.map_append] at h2
  have hr' : (execOp a.eval o).run P w = .ok (.value (.int .i64 ((xs.length : Nat) : Int))) w' := by
    simp only [execOp, ho, resolve, invoke, builtin, Sem.run_bind, Sem.run_pure, Result.andThen_ok, List.map_toArray, List.map_cons, List.map_nil, ha.eval hx, ha.eval hy, h1]
  unfold Does
  rw [hr', hd]
  refine ⟨_, _, hT, ha.put hdn _, hw.setI hL h3.os h3.tape h3.output h3.size h2 row_blocks_nodup (fun b hb => .inl hb) (fun k hk hkb => h3.block k hk (fun e => hkb ?_))⟩
  cases A with
  | none => cases e
  | some a =>
    injection e with e
    simp [Ent.blocks, e]
/-- append of elements that can be read. -/
theorem op_appendMR {α : Type} (enc : α → Array Value) {x y : Operand} {t e : TypeId} {d sz bytes i : Nat} {z : Value} {A B : Option Addr} {cap c m : Nat} {xs : List α} (ys : List α)
    (ho : o.op = .call { callee := .builtin .append, args := #[x, y], argTypes := #[t, t] }) (hd : o.dst = some d) (hdn : Nat.blt d n = true) (ht : SlB P t e sz bytes z) (hx : ev V x = some (.slice A xs.length cap)) (hL : L[i]? = some (.row A cap e sz (xs.map enc)))
    (hy : ev V y = some (.slice B m c)) (hm : ys.length = m) (hr : ∀ w, SL w0 O w L → Rd w B sz (ys.map enc)) (h63 : xs.length + ys.length ≤ 9223372036854775807) (hby : (xs.length + ys.length) * bytes ≤ 140737488355328)
    (hT : ∀ A' cap', T ((d, .slice A' (xs ++ ys).length cap') :: V) (L.set i (.row A' cap' e sz ((xs ++ ys).map enc)))) : OpS P w0 O n D o V L T := by
  subst hm
  have e1 : (xs.map enc).length = xs.length := List.length_map _
  have e2 : (xs.map enc ++ ys.map enc) = (xs ++ ys).map enc := List.map_append.symm
  refine op_append_core (xs := xs.map enc) (ys := ys.map enc) ho hd hdn ht (by rw [e1]; exact hx) hL hy (List.length_map _) hr (by rw [e1]; exact h63) (by rw [e1]; exact hby) fun A' cap' => ?_
  rw [e2, List.length_map]
  exact hT A' cap'
end
end Go.Proofs.YtpcfgoadkfajfaaGreatDoor
namespace Go.Proofs.YtpcfgoadkfajfaaGreatDoor
set_option linter.all false
open Go Go.RowKit
theorem flat_setF {sz : Nat} : ∀ {xs : List (Array Value)}, (∀ c ∈ xs, c.size = sz) → ∀ {k j : Nat} {c : Array Value} (v : Value), xs[k]? = some c → j < sz → flat (xs.set k (c.setIfInBounds j v)) = (flat xs).set (k * sz + j) v
  | [], _, k, j, c, v, h, _ => by simp at h
  | d :: xs, hs, 0, j, c, v, h, hj => by
    have hd := hs d List.mem_cons_self
    obtain rfl : d = c := by simpa using h
    have hdl : d.toList.length = sz := by rw [Array.length_toList, hd]
    rw [List.set_cons_zero, flat_cons, flat_cons, Nat.zero_mul, Nat.zero_add, List.set_append_left _ _ (by omega), Array.toList_setIfInBounds]
  | d :: xs, hs, k + 1, j, c, v, h, hj => by
    have hd := hs d List.mem_cons_self
    have hdl : d.toList.length = sz := by rw [Array.length_toList, hd]
    rw [List.set_cons_succ, flat_cons, flat_cons, flat_setF (fun c hc => hs c (List.mem_cons_of_mem _ hc)) v (by simpa using h) hj, List.set_append_right _ _ (by rw [Nat.add_mul]; omega), hdl]
    congr 2
    rw [Nat.add_mul]; omega
section
variable {P : Program} {w0 : World} {O : List Nat} {n : Nat} {D : List Deferred} {o : Oper} {V : List (Nat × Value)} {L : List Ent} {T : List (Nat × Value) → List Ent → Prop}
theorem op_storeElemF {t e : TypeId} {x y : Operand} {A : Option Addr} {cap sz k j i : Nat} {v : Value} {c : Array Value} {xs ys : List (Array Value)} (ho : o.op = .store t x y) (hd : o.dst = none) (hx : ev V x = some (.pointer (some ⟨ab A, ao A + k * sz + j, none⟩))) (hy : ev V y = some v) (hs : SzT P t 1)
    (hv : v.cells = #[v]) (h1 : v.oneCell' = true) (hL : L[i]? = some (.row A cap e sz xs)) (hk : xs[k]? = some c) (hj : j < sz) (hset : xs.set k (c.setIfInBounds j v) = ys)
    (hT : T V (L.set i (.row A cap e sz ys))) : OpS P w0 O n D o V L T := by
  intro a w ha hw
  subst hset
  have hkl := (List.getElem?_eq_some_iff.1 hk).1
  have hsat := hw.ents _ (List.mem_of_getElem? hL)
  obtain ⟨⟨hl, h2⟩, hxs⟩ := hsat
  have hcm' := hxs c (List.mem_of_getElem? hk)
  rcases h2 with ⟨hvv, hn⟩ | ⟨g, cp, cur, hvv, _, hg, hnc, hcm, hcs, htake⟩
  · omega
  · injection hvv with hA hn hc
    subst hA; subst hc
    have hle : (k + 1) * sz ≤ xs.length * sz := Nat.mul_le_mul_right _ hkl
    have hle2 : xs.length * sz ≤ cap * sz := Nat.mul_le_mul_right _ hnc
    rw [Nat.add_mul, Nat.one_mul] at hle
    have hx' : a.eval x = .pointer (some ⟨g, k * sz + j, none⟩) := by
      rw [ha.eval hx]
      show Value.pointer (some ⟨g, 0 + k * sz + j, none⟩) = _
      rw [Nat.zero_add]
    have hr := run_store_row (P := P) (w := w) (g := g) (j := k * sz + j) (v := v) hs (by rw [hv]; rfl) (by rw [hv]; intro u hu; simp at hu; rw [hu]; exact h1) hg (by omega)
    rw [hv] at hr
    have hr' : (execOp a.eval o).run P w = .ok .skip (w.setRow g (cur.toList.take (k * sz + j) ++ [v] ++ cur.toList.drop (k * sz + j + 1)).toArray) := by
      simp only [execOp, ho, hx', ha.eval hy, Instr.storeAt, Instr.sureAddr]
      simp only [Sem.run_bind, Sem.run_pure, Result.andThen_ok, hr]
    unfold Does
    rw [hr', hd]
    refine ⟨_, _, hT, ha, hw.setI hL rfl rfl rfl (by simp) ?_ row_blocks_nodup (fun b hb => .inl hb) (fun j _ hj => setRow_other w g j _ (by simpa [Ent.blocks] using hj))⟩
    have hxs' : ∀ d ∈ xs.set k (c.setIfInBounds j v), d.size = sz ∧ ∀ u ∈ d.toList, u.oneCell' = true := by
      intro d hd
      rcases List.mem_or_eq_of_mem_set hd with hd | rfl
      · exact hxs d hd
      · refine ⟨by rw [Array.size_setIfInBounds]; exact hcm'.1, fun u hu => ?_⟩
        rw [Array.toList_setIfInBounds] at hu
        rcases List.mem_or_eq_of_mem_set hu with hu | rfl
        · exact hcm'.2 u hu
        · exact h1
    have hclen : cur.toList.length = cap * sz := by rw [Array.length_toList]; exact hcs
    have hcur : cur.toList.take (k * sz + j) ++ [v] ++ cur.toList.drop (k * sz + j + 1) = cur.toList.set (k * sz + j) v := by
      rw [List.set_eq_take_append_cons_drop, if_pos (by omega), List.append_assoc]; rfl
    refine ⟨⟨by rw [flat_length (fun d hd => (hxs' d hd).1)], .inr ⟨g, cap, _, by simp, Nat.zero_le _, setRow_heap w g cur _ e _ hg, by simpa using hnc, hcm, ?_, ?_⟩⟩, hxs'⟩
    · rw [hcur, List.size_toArray, List.length_set, hclen]
    · rw [hcur, flat_setF (fun c hc => (hxs c hc).1) v hk hj, List.length_set, ← htake, List.toList_toArray, List.take_set]
end
section
variable {P : Program} {w0 : World} {O : List Nat} {n : Nat} {D : List Deferred} {V : List (Nat × Value)} {L : List Ent} {Q : Exit → Act → World → Prop} {c : Code} {r : Option Nat}
/-- An entry comes out of a pack. -/
theorem CX.packOut {L' : List Ent} {e : Ent} {es es' : List Ent} (hL : L.Perm (pack es :: L')) (he : es.Perm (e :: es')) (h : CX P r Q w0 O n D c V (e :: pack es' :: L')) : CX P r Q w0 O n D c V L := fun a w ha hw => by
  have h1 : SL w0 O w (pack es :: L') := hw.perm hL
  have h2 : SL w0 O w ((e :: es') ++ L') := h1.unpack.perm (he.append_right _)
  have h3 : SL w0 O w (es' ++ (e :: L')) := h2.perm (by
    rw [List.cons_append]
    exact List.perm_middle.symm)
  exact h a w ha (h3.pack.perm (List.Perm.swap _ _ _))
/-- .. and goes back into it, changed. -/
theorem CX.packIn {L' : List Ent} {e : Ent} {es es' : List Ent} (hL : L.Perm (e :: pack es' :: L')) (he : es.Perm (e :: es')) (h : CX P r Q w0 O n D c V (pack es :: L')) : CX P r Q w0 O n D c V L := fun a w ha hw => by
  have h1 : SL w0 O w (pack es' :: e :: L') := (hw.perm hL).perm (List.Perm.swap _ _ _)
  have h3 : SL w0 O w (es ++ L') := h1.unpack.perm (by
    refine List.perm_middle.trans ?_
    rw [← List.cons_append]
    exact (he.symm).append_right _)
  exact h a w ha h3.pack
end
/-- An entry known otherwise. -/
theorem DX.know1 {P : Program} {ops : Array Oper} {tab : Tab} {Q : Exit → Act → World → Prop} {w0 : World} {O : List Nat} {n : Nat} {D : List Deferred} {th fuel m : Nat} {LS : List Ent} {V : List (Nat × Value)} {L : List Ent} (i : Nat) {p q : Ent} (hL : L[i]? = some p) (e : p = q) (h : DX P ops tab Q w0 O n D th LS fuel m V (L.set i q)) : DX P ops tab Q w0 O n D th LS fuel m V L := by
  subst e
  have : L.set i p = L := by
    obtain ⟨hi, h⟩ := List.getElem?_eq_some_iff.1 hL
    subst h; exact List.set_getElem_self hi
  rw [this] at h
  exact h
theorem set_perm {α : Type} : ∀ {l : List α} {i : Nat} {x : α} (y : α), l[i]? = some x → (l.set i y).Perm (y :: l.eraseIdx i)
  | [], i, x, y, h => by simp at h
  | a :: l, 0, x, y, h => by simp
  | a :: l, i + 1, x, y, h => by
    have h' : l[i]? = some x := by simpa using h
    simp only [List.set_cons_succ, List.eraseIdx_cons_succ]
    exact ((set_perm y h').cons a).trans (List.Perm.swap _ _ _)
end Go.Proofs.YtpcfgoadkfajfaaGreatDoor
