/- Walks, printed by a program. Walks, printed by a program. Walks, printed by a program. Walks, printed by a program. Walks, printed by a program. A cluster reached step by step. No program in it. A cluster reached step by step: what holds on the way. No program in it. Walks, printed by a program. Ranges over functions, and scopes, in the calculus. Ranges over functions whose rounds go on to the end: what an iterator hands over, one item a round. Blocks of the call's own and others; rounds. Several entries as one. -/
import Derived.Test.YtpcfgoadkfajfaaK4
import Derived.Test.YtpcfgoadkfajfaaK2
import Derived.RangeFuncLeaves
import Derived.RangeFuncRecord
import Derived.Scope
namespace Go.Proofs.Ytpcfgoadkfajfaa
set_option linter.all false
open Go Go.RowKit
set_option maxRecDepth 100000
theorem ent_64 : ∀ args w, (callFunc 64 args).run Try.prog w = .ok (.enter 64 args) w := enters_of Try.func64 (by kernel_rfl) rfl
theorem kmapt_120 : KMapT Try.prog (fun x : Int => Value.int .i64 x) 120 (.bool false) := ⟨_, _, (Try.prog.info? 4).get!, Try.underlying120, (keyOk_int Try.underlying3), by kernel_rfl, by kernel_rfl⟩
theorem ent_65 : ∀ args w, (callFunc 65 args).run Try.prog w = .ok (.enter 65 args) w := enters_of Try.func65 (by kernel_rfl) rfl
theorem ent_66 : ∀ args w, (callFunc 66 args).run Try.prog w = .ok (.enter 66 args) w := enters_of Try.func66 (by kernel_rfl) rfl
/-- What has been seen of a list, and how many different numbers it has. -/
def seenL (xs : List Int) : List (Int × Bool) := xs.foldl (fun kv x => kset x true kv) []
def dcount (xs : List Int) : Nat := (seenL xs).length
theorem seenL_snoc (xs : List Int) (x : Int) : seenL (xs ++ [x]) = kset x true (seenL xs) := by simp [seenL]
set_option maxRecDepth 100000 in
theorem w_diff_account {w : World} {A : Option Addr} {cap : Nat} (l : List Sm) (hr : Rd w A 9 (l.map smC)) (hl : l.length ≤ 1000000) :
    Calls Try.prog 63 #[.slice A l.length cap, .func (.func 64) #[] #[]] w (fun e w' => e = .returned (.int .i64 ((dcount (l.map Sm.acc) : Nat) : Int)) ∧ SL w [] w' []) := by
  refine calls_of_CX (O := []) (L := []) (args := [.slice A l.length cap, .func (.func 64) #[] #[]]) Try.func63 rfl (by simp [Try.ntmps63]) (SL.refl w) ?_
  refine CX.sub (V' := [(0, .slice A l.length cap), (1, .func (.func 64) #[] #[])]) ⟨rfl, rfl, trivial⟩ ?_
  refine CX.seq ?_
  refine CX.region ?_
  refine RX.cons rfl rfl (op_w (yw_assign rfl rfl) rfl rfl ?_)
  refine RX.nil (XX.next (V' := [(0, _), (1, _)]) ⟨rfl, rfl, trivial⟩ ?_)
  refine CX.seq ?_
  refine CX.region ?_
  refine RX.cons rfl rfl (op_kmake (fun x : Int => Value.int .i64 x) Value.bool rfl rfl rfl fun gm => ?_)
  refine RX.cons rfl rfl (op_w (yw_assign rfl rfl) rfl rfl ?_)
  refine RX.nil (XX.next (V' := [(0, _), (1, _), (5, _)]) ⟨rfl, rfl, rfl, trivial⟩ ?_)
  refine CX.seq ?_
  refine CX.seq ?_
  refine CX.region ?_
  refine RX.cons rfl rfl (op_w (yw_move rfl rfl) rfl rfl ?_)
  refine RX.cons rfl rfl (op_w (yw_lenS rfl Try.underlying22 rfl) rfl rfl ?_)
  refine RX.cons rfl rfl (op_w (yw_move rfl rfl) rfl rfl ?_)
  refine RX.nil (XX.next (V' := [(1, _), (5, _), (9, _), (10, _), (11, _)]) ⟨rfl, rfl, rfl, rfl, rfl, trivial⟩ ?_)
  refine CX.block ?_
  refine CX.loop (σ := Nat × List (Int × Bool)) (fun z => [(1, .func (.func 64) #[] #[]), (5, .map (some gm)), (9, .slice A l.length cap), (10, .int .i64 ((l.length : Nat) : Int)), (11, .int .i64 ((z.1 : Nat) : Int))]) (fun z => [kmap (fun x : Int => Value.int .i64 x) Value.bool gm z.2]) (fun z => z.1 ≤ l.length ∧ z.2 = seenL ((l.take z.1).map Sm.acc)) (fun z => l.length - z.1) (0, []) ⟨Nat.zero_le _, rfl⟩ ⟨rfl, rfl, rfl, rfl, rfl, trivial⟩ rfl (fun z hI => ?_)
  obtain ⟨i, kv⟩ := z
  dsimp only at hI ⊢
  obtain ⟨hi, hkv⟩ := hI
  refine CX.seq ?_
  refine CX.region ?_
  refine RX.cons rfl rfl (op_w (yw_lss rfl rfl rfl) rfl rfl ?_)
  refine RX.nil (XX.next (V' := [(1, _), (5, _), (9, _), (10, _), (11, _), (12, _)]) ⟨rfl, rfl, rfl, rfl, rfl, rfl, trivial⟩ ?_)
  refine CX.seq ?_
  refine CX.condD (p := ((i : Nat) : Int) < ((l.length : Nat) : Int)) rfl (fun c12 => ?_) (fun c12 => ?_)
  · obtain ⟨x0, hx0⟩ := get_some (l := l) (k := i) (by omega)
    have hx0m := List.mem_of_getElem? hx0
    have hA : ∃ b j, A = some ⟨b, j, none⟩ := hr.some (k := 0) (by simp; omega)
    refine CX.skip (XX.next (V' := [(1, _), (5, _), (9, _), (10, _), (11, _)]) ⟨rfl, rfl, rfl, rfl, rfl, trivial⟩ ?_)
    refine CX.seq ?_
    refine CX.block ?_
    refine CX.seq ?_
    refine CX.region ?_
    refine RX.cons rfl rfl (op_w (yw_index (k := i) rfl slt_22 rfl rfl (by omega) (by omega) hA) rfl rfl ?_)
    refine RX.cons rfl rfl (op_yld (y_elem rfl rfl agg_24 hr (by simp) (map_get hx0)) rfl rfl ?_)
    refine RX.cons rfl rfl (op_alloc rfl rfl rfl zero_24 fun gx => ?_)
    refine RX.cons rfl rfl (op_storeAll (i := 0) rfl rfl rfl rfl szt_24 rfl (plain_of rfl) rfl rfl ?_)
    refine RX.nil (XX.next (V' := [(1, _), (5, _), (7, _), (9, _), (10, _), (11, _)]) ⟨rfl, rfl, rfl, rfl, rfl, rfl, trivial⟩ ?_)
    refine CX.region ?_
    refine RX.cons rfl rfl (op_w (yw_move rfl rfl) rfl rfl ?_)
    refine RX.cons rfl rfl (op_w (yw_move rfl rfl) rfl rfl ?_)
    refine RX.cons rfl rfl (op_yld (y_loadA (i := 0) rfl rfl agg_24 rfl rfl) rfl rfl ?_)
    refine RX.cons rfl rfl (op_callV (v := .int .i64 (Sm.acc x0)) rfl rfl rfl rfl rfl ent_64 (fun w hw => w_account x0) ?_)
    refine RX.cons rfl rfl (op_kupdate (i := 1) (k := (Sm.acc x0)) (u := true) (kv := kv) (encK := (fun x : Int => Value.int .i64 x)) (encV := Value.bool) (.inl rfl) rfl rfl rfl rfl kmapt_120 rfl ?_)
    refine RX.nil (XX.inBlock (V' := [(1, _), (5, _), (9, _), (10, _), (11, _)]) ⟨rfl, rfl, rfl, rfl, rfl, trivial⟩ ?_)
    refine XX.next (V' := [(1, _), (5, _), (9, _), (10, _), (11, _)]) ⟨rfl, rfl, rfl, rfl, rfl, trivial⟩ ?_
    refine CX.region ?_
    refine RX.cons rfl rfl (op_w (yw_add rfl rfl rfl (by omega) (by omega)) rfl rfl ?_)
    refine RX.cons rfl rfl (op_w (yw_move rfl rfl) rfl rfl ?_)
    refine RX.nil (XX.againP ([.blk gx (.cells (smC x0) 24 (0, 0))]) (i + 1, kset (Sm.acc x0) true kv) (by dsimp only; omega) ⟨by dsimp only; omega, by dsimp only; rw [take_map_succ hx0, seenL_snoc, ← hkv]⟩ ⟨rfl, rfl, rfl, rfl, rfl, trivial⟩ ((perm_pick 1 rfl).trans (List.Perm.cons _ (List.Perm.refl _))))
  · rw [List.take_of_length_le (by omega)] at hkv
    refine CX.exit ?_
    refine XX.then_exit ?_
    refine XX.then_exit ?_
    refine XX.block_exit ?_
    refine XX.next (V' := [(5, _)]) ⟨rfl, trivial⟩ ?_
    refine CX.seq ?_
    refine CX.region ?_
    refine RX.cons rfl rfl (op_w (yw_move rfl rfl) rfl rfl ?_)
    refine RX.cons rfl rfl (op_yld (y_klen (i := 0) (kv := kv) (encK := (fun x : Int => Value.int .i64 x)) (encV := Value.bool) rfl Try.underlying120 rfl rfl) rfl rfl ?_)
    refine RX.cons rfl rfl (op_w (yw_assign rfl rfl) rfl rfl ?_)
    refine RX.nil (XX.next (V' := [(4, .int .i64 ((List.length kv : Nat) : Int))]) ⟨rfl, trivial⟩ ?_)
    refine CX.ret ?_
    exact ret_tmp rfl rfl fun w1 hw => ⟨by rw [hkv]; rfl, hw.sub (List.nil_sublist _)⟩

set_option maxRecDepth 100000 in
theorem w_diff_device {w : World} {A : Option Addr} {cap : Nat} (l : List Sm) (hr : Rd w A 9 (l.map smC)) (hl : l.length ≤ 1000000) :
    Calls Try.prog 63 #[.slice A l.length cap, .func (.func 65) #[] #[]] w (fun e w' => e = .returned (.int .i64 ((dcount (l.map Sm.dev) : Nat) : Int)) ∧ SL w [] w' []) := by
  refine calls_of_CX (O := []) (L := []) (args := [.slice A l.length cap, .func (.func 65) #[] #[]]) Try.func63 rfl (by simp [Try.ntmps63]) (SL.refl w) ?_
  refine CX.sub (V' := [(0, .slice A l.length cap), (1, .func (.func 65) #[] #[])]) ⟨rfl, rfl, trivial⟩ ?_
  refine CX.seq ?_
  refine CX.region ?_
  refine RX.cons rfl rfl (op_w (yw_assign rfl rfl) rfl rfl ?_)
  refine RX.nil (XX.next (V' := [(0, _), (1, _)]) ⟨rfl, rfl, trivial⟩ ?_)
  refine CX.seq ?_
  refine CX.region ?_
  refine RX.cons rfl rfl (op_kmake (fun x : Int => Value.int .i64 x) Value.bool rfl rfl rfl fun gm => ?_)
  refine RX.cons rfl rfl (op_w (yw_assign rfl rfl) rfl rfl ?_)
  refine RX.nil (XX.next (V' := [(0, _), (1, _), (5, _)]) ⟨rfl, rfl, rfl, trivial⟩ ?_)
  refine CX.seq ?_
  refine CX.seq ?_
  refine CX.region ?_
  refine RX.cons rfl rfl (op_w (yw_move rfl rfl) rfl rfl ?_)
  refine RX.cons rfl rfl (op_w (yw_lenS rfl Try.underlying22 rfl) rfl rfl ?_)
  refine RX.cons rfl rfl (op_w (yw_move rfl rfl) rfl rfl ?_)
  refine RX.nil (XX.next (V' := [(1, _), (5, _), (9, _), (10, _), (11, _)]) ⟨rfl, rfl, rfl, rfl, rfl, trivial⟩ ?_)
  refine CX.block ?_
  refine CX.loop (σ := Nat × List (Int × Bool)) (fun z => [(1, .func (.func 65) #[] #[]), (5, .map (some gm)), (9, .slice A l.length cap), (10, .int .i64 ((l.length : Nat) : Int)), (11, .int .i64 ((z.1 : Nat) : Int))]) (fun z => [kmap (fun x : Int => Value.int .i64 x) Value.bool gm z.2]) (fun z => z.1 ≤ l.length ∧ z.2 = seenL ((l.take z.1).map Sm.dev)) (fun z => l.length - z.1) (0, []) ⟨Nat.zero_le _, rfl⟩ ⟨rfl, rfl, rfl, rfl, rfl, trivial⟩ rfl (fun z hI => ?_)
  obtain ⟨i, kv⟩ := z
  dsimp only at hI ⊢
  obtain ⟨hi, hkv⟩ := hI
  refine CX.seq ?_
  refine CX.region ?_
  refine RX.cons rfl rfl (op_w (yw_lss rfl rfl rfl) rfl rfl ?_)
  refine RX.nil (XX.next (V' := [(1, _), (5, _), (9, _), (10, _), (11, _), (12, _)]) ⟨rfl, rfl, rfl, rfl, rfl, rfl, trivial⟩ ?_)
  refine CX.seq ?_
  refine CX.condD (p := ((i : Nat) : Int) < ((l.length : Nat) : Int)) rfl (fun c12 => ?_) (fun c12 => ?_)
  · obtain ⟨x0, hx0⟩ := get_some (l := l) (k := i) (by omega)
    have hx0m := List.mem_of_getElem? hx0
    have hA : ∃ b j, A = some ⟨b, j, none⟩ := hr.some (k := 0) (by simp; omega)
    refine CX.skip (XX.next (V' := [(1, _), (5, _), (9, _), (10, _), (11, _)]) ⟨rfl, rfl, rfl, rfl, rfl, trivial⟩ ?_)
    refine CX.seq ?_
    refine CX.block ?_
    refine CX.seq ?_
    refine CX.region ?_
    refine RX.cons rfl rfl (op_w (yw_index (k := i) rfl slt_22 rfl rfl (by omega) (by omega) hA) rfl rfl ?_)
    refine RX.cons rfl rfl (op_yld (y_elem rfl rfl agg_24 hr (by simp) (map_get hx0)) rfl rfl ?_)
    refine RX.cons rfl rfl (op_alloc rfl rfl rfl zero_24 fun gx => ?_)
    refine RX.cons rfl rfl (op_storeAll (i := 0) rfl rfl rfl rfl szt_24 rfl (plain_of rfl) rfl rfl ?_)
    refine RX.nil (XX.next (V' := [(1, _), (5, _), (7, _), (9, _), (10, _), (11, _)]) ⟨rfl, rfl, rfl, rfl, rfl, rfl, trivial⟩ ?_)
    refine CX.region ?_
    refine RX.cons rfl rfl (op_w (yw_move rfl rfl) rfl rfl ?_)
    refine RX.cons rfl rfl (op_w (yw_move rfl rfl) rfl rfl ?_)
    refine RX.cons rfl rfl (op_yld (y_loadA (i := 0) rfl rfl agg_24 rfl rfl) rfl rfl ?_)
    refine RX.cons rfl rfl (op_callV (v := .int .i64 (Sm.dev x0)) rfl rfl rfl rfl rfl ent_65 (fun w hw => w_device x0) ?_)
    refine RX.cons rfl rfl (op_kupdate (i := 1) (k := (Sm.dev x0)) (u := true) (kv := kv) (encK := (fun x : Int => Value.int .i64 x)) (encV := Value.bool) (.inl rfl) rfl rfl rfl rfl kmapt_120 rfl ?_)
    refine RX.nil (XX.inBlock (V' := [(1, _), (5, _), (9, _), (10, _), (11, _)]) ⟨rfl, rfl, rfl, rfl, rfl, trivial⟩ ?_)
    refine XX.next (V' := [(1, _), (5, _), (9, _), (10, _), (11, _)]) ⟨rfl, rfl, rfl, rfl, rfl, trivial⟩ ?_
    refine CX.region ?_
    refine RX.cons rfl rfl (op_w (yw_add rfl rfl rfl (by omega) (by omega)) rfl rfl ?_)
    refine RX.cons rfl rfl (op_w (yw_move rfl rfl) rfl rfl ?_)
    refine RX.nil (XX.againP ([.blk gx (.cells (smC x0) 24 (0, 0))]) (i + 1, kset (Sm.dev x0) true kv) (by dsimp only; omega) ⟨by dsimp only; omega, by dsimp only; rw [take_map_succ hx0, seenL_snoc, ← hkv]⟩ ⟨rfl, rfl, rfl, rfl, rfl, trivial⟩ ((perm_pick 1 rfl).trans (List.Perm.cons _ (List.Perm.refl _))))
  · rw [List.take_of_length_le (by omega)] at hkv
    refine CX.exit ?_
    refine XX.then_exit ?_
    refine XX.then_exit ?_
    refine XX.block_exit ?_
    refine XX.next (V' := [(5, _)]) ⟨rfl, trivial⟩ ?_
    refine CX.seq ?_
    refine CX.region ?_
    refine RX.cons rfl rfl (op_w (yw_move rfl rfl) rfl rfl ?_)
    refine RX.cons rfl rfl (op_yld (y_klen (i := 0) (kv := kv) (encK := (fun x : Int => Value.int .i64 x)) (encV := Value.bool) rfl Try.underlying120 rfl rfl) rfl rfl ?_)
    refine RX.cons rfl rfl (op_w (yw_assign rfl rfl) rfl rfl ?_)
    refine RX.nil (XX.next (V' := [(4, .int .i64 ((List.length kv : Nat) : Int))]) ⟨rfl, trivial⟩ ?_)
    refine CX.ret ?_
    exact ret_tmp rfl rfl fun w1 hw => ⟨by rw [hkv]; rfl, hw.sub (List.nil_sublist _)⟩

set_option maxRecDepth 100000 in
theorem w_diff_recording {w : World} {A : Option Addr} {cap : Nat} (l : List Sm) (hr : Rd w A 9 (l.map smC)) (hl : l.length ≤ 1000000) :
    Calls Try.prog 63 #[.slice A l.length cap, .func (.func 66) #[] #[]] w (fun e w' => e = .returned (.int .i64 ((dcount (l.map Sm.song) : Nat) : Int)) ∧ SL w [] w' []) := by
  refine calls_of_CX (O := []) (L := []) (args := [.slice A l.length cap, .func (.func 66) #[] #[]]) Try.func63 rfl (by simp [Try.ntmps63]) (SL.refl w) ?_
  refine CX.sub (V' := [(0, .slice A l.length cap), (1, .func (.func 66) #[] #[])]) ⟨rfl, rfl, trivial⟩ ?_
  refine CX.seq ?_
  refine CX.region ?_
  refine RX.cons rfl rfl (op_w (yw_assign rfl rfl) rfl rfl ?_)
  refine RX.nil (XX.next (V' := [(0, _), (1, _)]) ⟨rfl, rfl, trivial⟩ ?_)
  refine CX.seq ?_
  refine CX.region ?_
  refine RX.cons rfl rfl (op_kmake (fun x : Int => Value.int .i64 x) Value.bool rfl rfl rfl fun gm => ?_)
  refine RX.cons rfl rfl (op_w (yw_assign rfl rfl) rfl rfl ?_)
  refine RX.nil (XX.next (V' := [(0, _), (1, _), (5, _)]) ⟨rfl, rfl, rfl, trivial⟩ ?_)
  refine CX.seq ?_
  refine CX.seq ?_
  refine CX.region ?_
  refine RX.cons rfl rfl (op_w (yw_move rfl rfl) rfl rfl ?_)
  refine RX.cons rfl rfl (op_w (yw_lenS rfl Try.underlying22 rfl) rfl rfl ?_)
  refine RX.cons rfl rfl (op_w (yw_move rfl rfl) rfl rfl ?_)
  refine RX.nil (XX.next (V' := [(1, _), (5, _), (9, _), (10, _), (11, _)]) ⟨rfl, rfl, rfl, rfl, rfl, trivial⟩ ?_)
  refine CX.block ?_
  refine CX.loop (σ := Nat × List (Int × Bool)) (fun z => [(1, .func (.func 66) #[] #[]), (5, .map (some gm)), (9, .slice A l.length cap), (10, .int .i64 ((l.length : Nat) : Int)), (11, .int .i64 ((z.1 : Nat) : Int))]) (fun z => [kmap (fun x : Int => Value.int .i64 x) Value.bool gm z.2]) (fun z => z.1 ≤ l.length ∧ z.2 = seenL ((l.take z.1).map Sm.song)) (fun z => l.length - z.1) (0, []) ⟨Nat.zero_le _, rfl⟩ ⟨rfl, rfl, rfl, rfl, rfl, trivial⟩ rfl (fun z hI => ?_)
  obtain ⟨i, kv⟩ := z
  dsimp only at hI ⊢
  obtain ⟨hi, hkv⟩ := hI
  refine CX.seq ?_
  refine CX.region ?_
  refine RX.cons rfl rfl (op_w (yw_lss rfl rfl rfl) rfl rfl ?_)
  refine RX.nil (XX.next (V' := [(1, _), (5, _), (9, _), (10, _), (11, _), (12, _)]) ⟨rfl, rfl, rfl, rfl, rfl, rfl, trivial⟩ ?_)
  refine CX.seq ?_
  refine CX.condD (p := ((i : Nat) : Int) < ((l.length : Nat) : Int)) rfl (fun c12 => ?_) (fun c12 => ?_)
  · obtain ⟨x0, hx0⟩ := get_some (l := l) (k := i) (by omega)
    have hx0m := List.mem_of_getElem? hx0
    have hA : ∃ b j, A = some ⟨b, j, none⟩ := hr.some (k := 0) (by simp; omega)
    refine CX.skip (XX.next (V' := [(1, _), (5, _), (9, _), (10, _), (11, _)]) ⟨rfl, rfl, rfl, rfl, rfl, trivial⟩ ?_)
    refine CX.seq ?_
    refine CX.block ?_
    refine CX.seq ?_
    refine CX.region ?_
    refine RX.cons rfl rfl (op_w (yw_index (k := i) rfl slt_22 rfl rfl (by omega) (by omega) hA) rfl rfl ?_)
    refine RX.cons rfl rfl (op_yld (y_elem rfl rfl agg_24 hr (by simp) (map_get hx0)) rfl rfl ?_)
    refine RX.cons rfl rfl (op_alloc rfl rfl rfl zero_24 fun gx => ?_)
    refine RX.cons rfl rfl (op_storeAll (i := 0) rfl rfl rfl rfl szt_24 rfl (plain_of rfl) rfl rfl ?_)
    refine RX.nil (XX.next (V' := [(1, _), (5, _), (7, _), (9, _), (10, _), (11, _)]) ⟨rfl, rfl, rfl, rfl, rfl, rfl, trivial⟩ ?_)
    refine CX.region ?_
    refine RX.cons rfl rfl (op_w (yw_move rfl rfl) rfl rfl ?_)
    refine RX.cons rfl rfl (op_w (yw_move rfl rfl) rfl rfl ?_)
    refine RX.cons rfl rfl (op_yld (y_loadA (i := 0) rfl rfl agg_24 rfl rfl) rfl rfl ?_)
    refine RX.cons rfl rfl (op_callV (v := .int .i64 (Sm.song x0)) rfl rfl rfl rfl rfl ent_66 (fun w hw => w_recording x0) ?_)
    refine RX.cons rfl rfl (op_kupdate (i := 1) (k := (Sm.song x0)) (u := true) (kv := kv) (encK := (fun x : Int => Value.int .i64 x)) (encV := Value.bool) (.inl rfl) rfl rfl rfl rfl kmapt_120 rfl ?_)
    refine RX.nil (XX.inBlock (V' := [(1, _), (5, _), (9, _), (10, _), (11, _)]) ⟨rfl, rfl, rfl, rfl, rfl, trivial⟩ ?_)
    refine XX.next (V' := [(1, _), (5, _), (9, _), (10, _), (11, _)]) ⟨rfl, rfl, rfl, rfl, rfl, trivial⟩ ?_
    refine CX.region ?_
    refine RX.cons rfl rfl (op_w (yw_add rfl rfl rfl (by omega) (by omega)) rfl rfl ?_)
    refine RX.cons rfl rfl (op_w (yw_move rfl rfl) rfl rfl ?_)
    refine RX.nil (XX.againP ([.blk gx (.cells (smC x0) 24 (0, 0))]) (i + 1, kset (Sm.song x0) true kv) (by dsimp only; omega) ⟨by dsimp only; omega, by dsimp only; rw [take_map_succ hx0, seenL_snoc, ← hkv]⟩ ⟨rfl, rfl, rfl, rfl, rfl, trivial⟩ ((perm_pick 1 rfl).trans (List.Perm.cons _ (List.Perm.refl _))))
  · rw [List.take_of_length_le (by omega)] at hkv
    refine CX.exit ?_
    refine XX.then_exit ?_
    refine XX.then_exit ?_
    refine XX.block_exit ?_
    refine XX.next (V' := [(5, _)]) ⟨rfl, trivial⟩ ?_
    refine CX.seq ?_
    refine CX.region ?_
    refine RX.cons rfl rfl (op_w (yw_move rfl rfl) rfl rfl ?_)
    refine RX.cons rfl rfl (op_yld (y_klen (i := 0) (kv := kv) (encK := (fun x : Int => Value.int .i64 x)) (encV := Value.bool) rfl Try.underlying120 rfl rfl) rfl rfl ?_)
    refine RX.cons rfl rfl (op_w (yw_assign rfl rfl) rfl rfl ?_)
    refine RX.nil (XX.next (V' := [(4, .int .i64 ((List.length kv : Nat) : Int))]) ⟨rfl, trivial⟩ ?_)
    refine CX.ret ?_
    exact ret_tmp rfl rfl fun w1 hw => ⟨by rw [hkv]; rfl, hw.sub (List.nil_sublist _)⟩

end Go.Proofs.Ytpcfgoadkfajfaa
namespace Go.Proofs.Ytpcfgoadkfajfaa
set_option linter.all false
open Go Go.RowKit
set_option maxRecDepth 100000
theorem ent_63 : ∀ args w, (callFunc 63 args).run Try.prog w = .ok (.enter 63 args) w := enters_of Try.func63 (by kernel_rfl) rfl
/-- A measure of streams. -/
def cnt (l : List Sm) (m : Int) : Nat := if m = 1 then l.length else if m = 2 then dcount (l.map Sm.acc) else if m = 3 then dcount (l.map Sm.dev) else if m = 4 then dcount (l.map Sm.song) else 0
set_option maxRecDepth 100000 in
theorem w_count {w : World} {A : Option Addr} {cap : Nat} (l : List Sm) (hr : Rd w A 9 (l.map smC)) (hl : l.length ≤ 1000000) (m : Int) :
    Calls Try.prog 47 #[.slice A l.length cap, .int .i64 m] w (fun e w' => e = .returned (.int .i64 ((cnt l m : Nat) : Int)) ∧ SL w [] w' []) := by
  refine calls_of_CX (O := []) (L := []) (args := [.slice A l.length cap, .int .i64 m]) Try.func47 rfl (by simp [Try.ntmps47]) (SL.refl w) ?_
  refine CX.sub (V' := [(0, .slice A l.length cap), (1, .int .i64 m)]) ⟨rfl, rfl, trivial⟩ ?_
  refine CX.seq ?_
  refine CX.region ?_
  refine RX.cons rfl rfl (op_w (yw_assign rfl rfl) rfl rfl ?_)
  refine RX.nil (XX.next (V' := [(0, _), (1, _)]) ⟨rfl, rfl, trivial⟩ ?_)
  refine CX.seq ?_
  refine CX.seq ?_
  refine CX.region ?_
  refine RX.cons rfl rfl (op_w (yw_move rfl rfl) rfl rfl ?_)
  refine RX.nil (XX.next (V' := [(0, _), (5, _)]) ⟨rfl, rfl, trivial⟩ ?_)
  refine CX.block ?_
  refine CX.seq ?_
  refine CX.region ?_
  refine RX.cons rfl rfl (op_w (yw_eql rfl rfl rfl) rfl rfl ?_)
  refine RX.cons rfl rfl (op_w (yw_assign rfl rfl) rfl rfl ?_)
  refine RX.nil (XX.next (V' := [(0, _), (5, _), (6, _)]) ⟨rfl, rfl, rfl, trivial⟩ ?_)
  refine CX.condD (p := m = 1) rfl (fun c6 => ?_) (fun c6 => ?_)
  · refine CX.seq ?_
    refine CX.region ?_
    refine RX.cons rfl rfl (op_w (yw_move rfl rfl) rfl rfl ?_)
    refine RX.cons rfl rfl (op_w (yw_lenS rfl Try.underlying22 rfl) rfl rfl ?_)
    refine RX.cons rfl rfl (op_w (yw_assign rfl rfl) rfl rfl ?_)
    refine RX.nil (XX.next (V' := [(4, .int .i64 ((l.length : Nat) : Int))]) ⟨rfl, trivial⟩ ?_)
    refine CX.ret ?_
    refine XX.block_ret ?_
    refine XX.then_ret ?_
    exact ret_tmp rfl rfl fun w1 hw => ⟨by unfold cnt; first | rw [if_pos (by omega)] | rw [if_neg (by omega), if_pos (by omega)] | rw [if_neg (by omega), if_neg (by omega), if_pos (by omega)] | rw [if_neg (by omega), if_neg (by omega), if_neg (by omega), if_pos (by omega)] | rw [if_neg (by omega), if_neg (by omega), if_neg (by omega), if_neg (by omega)]; rfl, hw.sub (List.nil_sublist _)⟩
  · refine CX.seq ?_
    refine CX.region ?_
    refine RX.cons rfl rfl (op_w (yw_eql rfl rfl rfl) rfl rfl ?_)
    refine RX.cons rfl rfl (op_w (yw_assign rfl rfl) rfl rfl ?_)
    refine RX.nil (XX.next (V' := [(0, _), (5, _), (10, _)]) ⟨rfl, rfl, rfl, trivial⟩ ?_)
    refine CX.condD (p := m = 2) rfl (fun c10 => ?_) (fun c10 => ?_)
    · refine CX.seq ?_
      refine CX.region ?_
      refine RX.cons rfl rfl (op_w (yw_move rfl rfl) rfl rfl ?_)
      refine RX.cons rfl rfl (op_callV (v := .int .i64 ((dcount (List.map Sm.acc l) : Nat) : Int)) rfl rfl rfl rfl rfl ent_63 (fun w hw => w_diff_account l (hw.rd hr (by simp)) hl) ?_)
      refine RX.cons rfl rfl (op_w (yw_assign rfl rfl) rfl rfl ?_)
      refine RX.nil (XX.next (V' := [(4, .int .i64 ((dcount (List.map Sm.acc l) : Nat) : Int))]) ⟨rfl, trivial⟩ ?_)
      refine CX.ret ?_
      refine XX.block_ret ?_
      refine XX.then_ret ?_
      exact ret_tmp rfl rfl fun w1 hw => ⟨by unfold cnt; first | rw [if_pos (by omega)] | rw [if_neg (by omega), if_pos (by omega)] | rw [if_neg (by omega), if_neg (by omega), if_pos (by omega)] | rw [if_neg (by omega), if_neg (by omega), if_neg (by omega), if_pos (by omega)] | rw [if_neg (by omega), if_neg (by omega), if_neg (by omega), if_neg (by omega)]; rfl, hw.sub (List.nil_sublist _)⟩
    · refine CX.seq ?_
      refine CX.region ?_
      refine RX.cons rfl rfl (op_w (yw_eql rfl rfl rfl) rfl rfl ?_)
      refine RX.cons rfl rfl (op_w (yw_assign rfl rfl) rfl rfl ?_)
      refine RX.nil (XX.next (V' := [(0, _), (5, _), (14, _)]) ⟨rfl, rfl, rfl, trivial⟩ ?_)
      refine CX.condD (p := m = 3) rfl (fun c14 => ?_) (fun c14 => ?_)
      · refine CX.seq ?_
        refine CX.region ?_
        refine RX.cons rfl rfl (op_w (yw_move rfl rfl) rfl rfl ?_)
        refine RX.cons rfl rfl (op_callV (v := .int .i64 ((dcount (List.map Sm.dev l) : Nat) : Int)) rfl rfl rfl rfl rfl ent_63 (fun w hw => w_diff_device l (hw.rd hr (by simp)) hl) ?_)
        refine RX.cons rfl rfl (op_w (yw_assign rfl rfl) rfl rfl ?_)
        refine RX.nil (XX.next (V' := [(4, .int .i64 ((dcount (List.map Sm.dev l) : Nat) : Int))]) ⟨rfl, trivial⟩ ?_)
        refine CX.ret ?_
        refine XX.block_ret ?_
        refine XX.then_ret ?_
        exact ret_tmp rfl rfl fun w1 hw => ⟨by unfold cnt; first | rw [if_pos (by omega)] | rw [if_neg (by omega), if_pos (by omega)] | rw [if_neg (by omega), if_neg (by omega), if_pos (by omega)] | rw [if_neg (by omega), if_neg (by omega), if_neg (by omega), if_pos (by omega)] | rw [if_neg (by omega), if_neg (by omega), if_neg (by omega), if_neg (by omega)]; rfl, hw.sub (List.nil_sublist _)⟩
      · refine CX.seq ?_
        refine CX.region ?_
        refine RX.cons rfl rfl (op_w (yw_eql rfl rfl rfl) rfl rfl ?_)
        refine RX.cons rfl rfl (op_w (yw_assign rfl rfl) rfl rfl ?_)
        refine RX.nil (XX.next (V' := [(0, _), (18, _)]) ⟨rfl, rfl, trivial⟩ ?_)
        refine CX.condD (p := m = 4) rfl (fun c18 => ?_) (fun c18 => ?_)
        · refine CX.seq ?_
          refine CX.region ?_
          refine RX.cons rfl rfl (op_w (yw_move rfl rfl) rfl rfl ?_)
          refine RX.cons rfl rfl (op_callV (v := .int .i64 ((dcount (List.map Sm.song l) : Nat) : Int)) rfl rfl rfl rfl rfl ent_63 (fun w hw => w_diff_recording l (hw.rd hr (by simp)) hl) ?_)
          refine RX.cons rfl rfl (op_w (yw_assign rfl rfl) rfl rfl ?_)
          refine RX.nil (XX.next (V' := [(4, .int .i64 ((dcount (List.map Sm.song l) : Nat) : Int))]) ⟨rfl, trivial⟩ ?_)
          refine CX.ret ?_
          refine XX.block_ret ?_
          refine XX.then_ret ?_
          exact ret_tmp rfl rfl fun w1 hw => ⟨by unfold cnt; first | rw [if_pos (by omega)] | rw [if_neg (by omega), if_pos (by omega)] | rw [if_neg (by omega), if_neg (by omega), if_pos (by omega)] | rw [if_neg (by omega), if_neg (by omega), if_neg (by omega), if_pos (by omega)] | rw [if_neg (by omega), if_neg (by omega), if_neg (by omega), if_neg (by omega)]; rfl, hw.sub (List.nil_sublist _)⟩
        · refine CX.skip (XX.inBlock (V' := []) trivial ?_)
          refine XX.next (V' := []) trivial ?_
          refine CX.seq ?_
          refine CX.region ?_
          refine RX.cons rfl rfl (op_w (yw_assign rfl rfl) rfl rfl ?_)
          refine RX.nil (XX.next (V' := [(4, .int .i64 0)]) ⟨rfl, trivial⟩ ?_)
          refine CX.ret ?_
          exact ret_tmp rfl rfl fun w1 hw => ⟨by unfold cnt; first | rw [if_pos (by omega)] | rw [if_neg (by omega), if_pos (by omega)] | rw [if_neg (by omega), if_neg (by omega), if_pos (by omega)] | rw [if_neg (by omega), if_neg (by omega), if_neg (by omega), if_pos (by omega)] | rw [if_neg (by omega), if_neg (by omega), if_neg (by omega), if_neg (by omega)]; rfl, hw.sub (List.nil_sublist _)⟩

end Go.Proofs.Ytpcfgoadkfajfaa
namespace Go.Proofs.Ytpcfgoadkfajfaa
set_option linter.all false
open Go Go.RowKit
set_option maxRecDepth 100000
theorem slb_100 : SlB Try.prog 100 9 1 16 (.string .empty) := ⟨Try.underlying100, ⟨(Try.prog.info? 9).get!, by kernel_rfl, by kernel_rfl, by kernel_rfl, by kernel_rfl⟩, by decide, by decide⟩
set_option maxRecDepth 100000 in
theorem w_wordsHas {w : World} {A : Option Addr} {cap : Nat} (n : Nat) (k : Int) :
    Calls Try.prog 51 #[.slice A n cap, .int .i64 k] w (fun e w' => e = .returned (.bool (decide (1 ≤ k ∧ k ≤ (n : Int)))) ∧ SL w [] w' []) := by
  refine calls_of_CX (O := []) (L := []) (args := [.slice A n cap, .int .i64 k]) Try.func51 rfl (by simp [Try.ntmps51]) (SL.refl w) ?_
  refine CX.sub (V' := [(0, .slice A n cap), (1, .int .i64 k)]) ⟨rfl, rfl, trivial⟩ ?_
  refine CX.seq ?_
  refine CX.region ?_
  refine RX.cons rfl rfl (op_w (yw_assign rfl rfl) rfl rfl ?_)
  refine RX.nil (XX.next (V' := [(0, _), (1, _)]) ⟨rfl, rfl, trivial⟩ ?_)
  refine CX.seq ?_
  refine CX.region ?_
  refine RX.cons rfl rfl (op_w (yw_move rfl rfl) rfl rfl ?_)
  refine RX.cons rfl rfl (op_w (yw_geq rfl rfl rfl) rfl rfl ?_)
  refine RX.cons rfl rfl (op_w (yw_move rfl rfl) rfl rfl ?_)
  refine RX.splitD (t := 7) (p := 1 ≤ k) rfl (fun d7 => ?_) (fun d7 => ?_)
  · refine RX.consG rfl rfl rfl rfl rfl (op_w (yw_move rfl rfl) rfl rfl ?_)
    refine RX.consG rfl rfl rfl rfl rfl (op_w (yw_move rfl rfl) rfl rfl ?_)
    refine RX.consG rfl rfl rfl rfl rfl (op_w (yw_lenS rfl Try.underlying100 rfl) rfl rfl ?_)
    refine RX.consG rfl rfl rfl rfl rfl (op_w (yw_leq rfl rfl rfl) rfl rfl ?_)
    refine RX.cons rfl rfl (op_w (yw_pickT rfl rfl rfl) rfl rfl ?_)
    refine RX.cons rfl rfl (op_w (yw_assign rfl rfl) rfl rfl ?_)
    refine RX.nil (XX.next (V' := [(4, .bool (decide (k ≤ ((n : Nat) : Int))))]) ⟨rfl, trivial⟩ ?_)
    refine CX.ret ?_
    exact ret_tmp rfl rfl fun w1 hw => ⟨congrArg (fun b => Ending.returned (Value.bool b)) (by first | exact (decide_eq_false (by omega)).symm | exact decide_eq_decide.2 (by omega) | exact (decide_eq_true (by omega)).symm), hw.sub (List.nil_sublist _)⟩
  · refine RX.skip rfl rfl rfl rfl rfl rfl rfl ?_
    refine RX.skip rfl rfl rfl rfl rfl rfl rfl ?_
    refine RX.skip rfl rfl rfl rfl rfl rfl rfl ?_
    refine RX.skip rfl rfl rfl rfl rfl rfl rfl ?_
    refine RX.cons rfl rfl (op_w (yw_pickF rfl rfl rfl) rfl rfl ?_)
    refine RX.cons rfl rfl (op_w (yw_assign rfl rfl) rfl rfl ?_)
    refine RX.nil (XX.next (V' := [(4, .bool false)]) ⟨rfl, trivial⟩ ?_)
    refine CX.ret ?_
    exact ret_tmp rfl rfl fun w1 hw => ⟨congrArg (fun b => Ending.returned (Value.bool b)) (by first | exact (decide_eq_false (by omega)).symm | exact decide_eq_decide.2 (by omega) | exact (decide_eq_true (by omega)).symm), hw.sub (List.nil_sublist _)⟩

set_option maxRecDepth 100000 in
theorem w_actions {w : World} :
    Calls Try.prog 50 #[] w (fun e w' => ∃ A : Option Addr, True ∧ e = .returned (.slice A 3 3) ∧ SL w [] w' []) := by
  refine calls_of_CX (O := []) (L := []) (args := []) Try.func50 rfl (by simp [Try.ntmps50]) (SL.refl w) ?_
  refine CX.sub (V' := []) trivial ?_
  refine CX.seq ?_
  refine CX.region ?_
  refine RX.cons rfl rfl (op_w (yw_assign rfl rfl) rfl rfl ?_)
  refine RX.nil (XX.next (V' := []) trivial ?_)
  refine CX.seq ?_
  refine CX.region ?_
  refine RX.cons rfl rfl (op_buildSlice rfl rfl rfl slb_100 rfl rfl (by intro v hv; simp only [List.mem_cons, List.not_mem_nil, or_false] at hv; rcases hv with rfl | rfl | rfl <;> exact ⟨rfl, (plain_of rfl)⟩) (by decide) fun gw => ?_)
  refine RX.cons rfl rfl (op_w (yw_assign rfl rfl) rfl rfl ?_)
  refine RX.nil (XX.next (V' := [(0, .slice (some ⟨gw, 0, none⟩) 3 3)]) ⟨rfl, trivial⟩ ?_)
  refine CX.ret ?_
  exact ret_tmp rfl rfl fun w1 hw => ⟨some ⟨gw, 0, none⟩, trivial, rfl, hw.sub (List.nil_sublist _)⟩

set_option maxRecDepth 100000 in
theorem w_subjects {w : World} :
    Calls Try.prog 52 #[] w (fun e w' => ∃ A : Option Addr, True ∧ e = .returned (.slice A 3 3) ∧ SL w [] w' []) := by
  refine calls_of_CX (O := []) (L := []) (args := []) Try.func52 rfl (by simp [Try.ntmps52]) (SL.refl w) ?_
  refine CX.sub (V' := []) trivial ?_
  refine CX.seq ?_
  refine CX.region ?_
  refine RX.cons rfl rfl (op_w (yw_assign rfl rfl) rfl rfl ?_)
  refine RX.nil (XX.next (V' := []) trivial ?_)
  refine CX.seq ?_
  refine CX.region ?_
  refine RX.cons rfl rfl (op_buildSlice rfl rfl rfl slb_100 rfl rfl (by intro v hv; simp only [List.mem_cons, List.not_mem_nil, or_false] at hv; rcases hv with rfl | rfl | rfl <;> exact ⟨rfl, (plain_of rfl)⟩) (by decide) fun gw => ?_)
  refine RX.cons rfl rfl (op_w (yw_assign rfl rfl) rfl rfl ?_)
  refine RX.nil (XX.next (V' := [(0, .slice (some ⟨gw, 0, none⟩) 3 3)]) ⟨rfl, trivial⟩ ?_)
  refine CX.ret ?_
  exact ret_tmp rfl rfl fun w1 hw => ⟨some ⟨gw, 0, none⟩, trivial, rfl, hw.sub (List.nil_sublist _)⟩

set_option maxRecDepth 100000 in
theorem w_measures {w : World} :
    Calls Try.prog 53 #[] w (fun e w' => ∃ A : Option Addr, True ∧ e = .returned (.slice A 4 4) ∧ SL w [] w' []) := by
  refine calls_of_CX (O := []) (L := []) (args := []) Try.func53 rfl (by simp [Try.ntmps53]) (SL.refl w) ?_
  refine CX.sub (V' := []) trivial ?_
  refine CX.seq ?_
  refine CX.region ?_
  refine RX.cons rfl rfl (op_w (yw_assign rfl rfl) rfl rfl ?_)
  refine RX.nil (XX.next (V' := []) trivial ?_)
  refine CX.seq ?_
  refine CX.region ?_
  refine RX.cons rfl rfl (op_buildSlice rfl rfl rfl slb_100 rfl rfl (by intro v hv; simp only [List.mem_cons, List.not_mem_nil, or_false] at hv; rcases hv with rfl | rfl | rfl | rfl <;> exact ⟨rfl, (plain_of rfl)⟩) (by decide) fun gw => ?_)
  refine RX.cons rfl rfl (op_w (yw_assign rfl rfl) rfl rfl ?_)
  refine RX.nil (XX.next (V' := [(0, .slice (some ⟨gw, 0, none⟩) 4 4)]) ⟨rfl, trivial⟩ ?_)
  refine CX.ret ?_
  exact ret_tmp rfl rfl fun w1 hw => ⟨some ⟨gw, 0, none⟩, trivial, rfl, hw.sub (List.nil_sublist _)⟩

end Go.Proofs.Ytpcfgoadkfajfaa
namespace Go.Proofs.Ytpcfgoadkfajfaa
set_option linter.all false
open Go Go.RowKit
set_option maxRecDepth 100000
theorem eqg_44 : Try.prog.eqGuardType Try.prog.depth 44 = false := by kernel_rfl
theorem ent_50 : ∀ args w, (callFunc 50 args).run Try.prog w = .ok (.enter 50 args) w := enters_of Try.func50 (by kernel_rfl) rfl
theorem ent_51 : ∀ args w, (callFunc 51 args).run Try.prog w = .ok (.enter 51 args) w := enters_of Try.func51 (by kernel_rfl) rfl
theorem ent_52 : ∀ args w, (callFunc 52 args).run Try.prog w = .ok (.enter 52 args) w := enters_of Try.func52 (by kernel_rfl) rfl
theorem ent_53 : ∀ args w, (callFunc 53 args).run Try.prog w = .ok (.enter 53 args) w := enters_of Try.func53 (by kernel_rfl) rfl
theorem held_44 : Try.prog.stoodInHeld 44 = false := by kernel_rfl
theorem eq_ru (f g : Ru) (w : World) : (Op.equalIn 10000 44 (.agg (ruC f)) (.agg (ruC g))).run Try.prog w = .ok (f.act == g.act && (f.sub == g.sub && (f.mea == g.mea && (f.n == g.n && true)))) w :=
  equal_of Try.underlying44 held_44 (eqF_int rfl Try.underlying3 rfl rfl (eqF_int rfl Try.underlying3 rfl rfl (eqF_int rfl Try.underlying3 rfl rfl (eqF_int rfl Try.underlying3 rfl rfl eqF_nil))))
set_option maxRecDepth 100000 in
theorem w_validR {w : World} (r : Ru) :
    Calls Try.prog 35 #[.agg (ruC r)] w (fun e w' => e = .returned (.bool (okR r)) ∧ SL w [] w' []) := by
  refine calls_of_CX (O := []) (L := []) (args := [.agg (ruC r)]) Try.func35 rfl (by simp [Try.ntmps35]) (SL.refl w) ?_
  refine CX.sub (V' := [(0, .agg (ruC r))]) ⟨rfl, trivial⟩ ?_
  refine CX.seq ?_
  refine CX.region ?_
  refine RX.cons rfl rfl (op_box rfl rfl rfl rfl fun gr => ?_)
  refine RX.cons rfl rfl (op_w (yw_assign rfl rfl) rfl rfl ?_)
  refine RX.nil (XX.next (V' := [(1, _)]) ⟨rfl, trivial⟩ ?_)
  refine CX.seq ?_
  refine CX.seq ?_
  refine CX.region ?_
  refine RX.cons rfl rfl (op_w (yw_field0 rfl fld_44_0 rfl) rfl rfl ?_)
  refine RX.cons rfl rfl (op_yld (y_load (i := 0) rfl rfl one_3 rfl rfl) rfl rfl ?_)
  refine RX.cons rfl rfl (op_w (yw_eql rfl rfl rfl) rfl rfl ?_)
  refine RX.nil (XX.next (V' := [(1, _), (5, _)]) ⟨rfl, rfl, trivial⟩ ?_)
  refine CX.condD (p := Ru.act r = 3) rfl (fun c5 => ?_) (fun c5 => ?_)
  · refine CX.seq ?_
    refine CX.region ?_
    refine RX.cons rfl rfl (op_yld (y_loadA (i := 0) rfl rfl agg_44 rfl rfl) rfl rfl ?_)
    refine RX.cons rfl rfl (op_w (yw_fieldAddr rfl fld_44_3 rfl) rfl rfl ?_)
    refine RX.cons rfl rfl (op_yld (y_load (i := 0) rfl rfl one_3 rfl rfl) rfl rfl ?_)
    refine RX.cons rfl rfl (op_w (yw_build (v := .agg (#[.int .i64 3, .int .i64 1, .int .i64 0, .int .i64 (Ru.n r)])) rfl rfl (fun _ => by kernel_rfl)) rfl rfl ?_)
    refine RX.cons rfl rfl (op_w (yw_eqlAgg (b := (Ru.act r == 3 && (Ru.sub r == 1 && (Ru.mea r == 0 && (Ru.n r == Ru.n r && true))))) rfl rfl rfl eqg_44 (fun w => eq_ru r ⟨3, 1, 0, Ru.n r⟩ w)) rfl rfl ?_)
    refine RX.know (t := 10) (u := .bool (decide (Ru.sub r = 1 ∧ Ru.mea r = 0))) rfl (congrArg Value.bool (by rw [Bool.eq_iff_iff]; simp; omega)) ?_
    refine RX.cons rfl rfl (op_w (yw_move rfl rfl) rfl rfl ?_)
    refine RX.splitD (t := 11) (p := Ru.sub r = 1 ∧ Ru.mea r = 0) rfl (fun d11 => ?_) (fun d11 => ?_)
    · refine RX.consG rfl rfl rfl rfl rfl (op_w (yw_fieldAddr rfl fld_44_3 rfl) rfl rfl ?_)
      refine RX.consG rfl rfl rfl rfl rfl (op_yld (y_load (i := 0) rfl rfl one_3 rfl rfl) rfl rfl ?_)
      refine RX.consG rfl rfl rfl rfl rfl (op_w (yw_geq rfl rfl rfl) rfl rfl ?_)
      refine RX.cons rfl rfl (op_w (yw_pickT rfl rfl rfl) rfl rfl ?_)
      refine RX.cons rfl rfl (op_w (yw_move rfl rfl) rfl rfl ?_)
      refine RX.splitD (t := 16) (p := 1 ≤ Ru.n r) rfl (fun d16 => ?_) (fun d16 => ?_)
      · refine RX.consG rfl rfl rfl rfl rfl (op_w (yw_fieldAddr rfl fld_44_3 rfl) rfl rfl ?_)
        refine RX.consG rfl rfl rfl rfl rfl (op_yld (y_load (i := 0) rfl rfl one_3 rfl rfl) rfl rfl ?_)
        refine RX.consG rfl rfl rfl rfl rfl (op_w (yw_leq rfl rfl rfl) rfl rfl ?_)
        refine RX.cons rfl rfl (op_w (yw_pickT rfl rfl rfl) rfl rfl ?_)
        refine RX.cons rfl rfl (op_w (yw_assign rfl rfl) rfl rfl ?_)
        refine RX.nil (XX.next (V' := [(2, .bool (decide (Ru.n r ≤ 1000000)))]) ⟨rfl, trivial⟩ ?_)
        refine CX.ret ?_
        refine XX.then_ret ?_
        exact ret_tmp rfl rfl fun w1 hw => ⟨congrArg (fun b => Ending.returned (Value.bool b)) (by unfold okR; first | exact (decide_eq_false (by omega)).symm | exact decide_eq_decide.2 (by omega) | exact (decide_eq_true (by omega)).symm), hw.sub (List.nil_sublist _)⟩
      · refine RX.skip rfl rfl rfl rfl rfl rfl rfl ?_
        refine RX.skip rfl rfl rfl rfl rfl rfl rfl ?_
        refine RX.skip rfl rfl rfl rfl rfl rfl rfl ?_
        refine RX.cons rfl rfl (op_w (yw_pickF rfl rfl rfl) rfl rfl ?_)
        refine RX.cons rfl rfl (op_w (yw_assign rfl rfl) rfl rfl ?_)
        refine RX.nil (XX.next (V' := [(2, .bool false)]) ⟨rfl, trivial⟩ ?_)
        refine CX.ret ?_
        refine XX.then_ret ?_
        exact ret_tmp rfl rfl fun w1 hw => ⟨congrArg (fun b => Ending.returned (Value.bool b)) (by unfold okR; first | exact (decide_eq_false (by omega)).symm | exact decide_eq_decide.2 (by omega) | exact (decide_eq_true (by omega)).symm), hw.sub (List.nil_sublist _)⟩
    · refine RX.skip rfl rfl rfl rfl rfl rfl rfl ?_
      refine RX.skip rfl rfl rfl rfl rfl rfl rfl ?_
      refine RX.skip rfl rfl rfl rfl rfl rfl rfl ?_
      refine RX.cons rfl rfl (op_w (yw_pickF rfl rfl rfl) rfl rfl ?_)
      refine RX.cons rfl rfl (op_w (yw_move rfl rfl) rfl rfl ?_)
      refine RX.skip rfl rfl rfl rfl rfl rfl rfl ?_
      refine RX.skip rfl rfl rfl rfl rfl rfl rfl ?_
      refine RX.skip rfl rfl rfl rfl rfl rfl rfl ?_
      refine RX.cons rfl rfl (op_w (yw_pickF rfl rfl rfl) rfl rfl ?_)
      refine RX.cons rfl rfl (op_w (yw_assign rfl rfl) rfl rfl ?_)
      refine RX.nil (XX.next (V' := [(2, .bool false)]) ⟨rfl, trivial⟩ ?_)
      refine CX.ret ?_
      refine XX.then_ret ?_
      exact ret_tmp rfl rfl fun w1 hw => ⟨congrArg (fun b => Ending.returned (Value.bool b)) (by unfold okR; first | exact (decide_eq_false (by omega)).symm | exact decide_eq_decide.2 (by omega) | exact (decide_eq_true (by omega)).symm), hw.sub (List.nil_sublist _)⟩
  · refine CX.skip (XX.next (V' := [(1, _)]) ⟨rfl, trivial⟩ ?_)
    refine CX.seq ?_
    refine CX.draw 27 [(0, 0, 2097152), (0, 2, 4194304), (2, 4194304, 8388608), (5, 10485760, 16777216), (8, 16777216, 33554432), (16, 33554432, 67108864), (16, 33554434, 134217728), (80, 167772160, 268435456), (176, 369098752, 536870912), (272, 570425344, 1073741824), (768, 1073741824, 2147483648), (1024, 2147483648, 4294967296), (1024, 2147483650, 8589934592), (5120, 10737418240, 17179869184), (11264, 23622320128, 34359738368), (17408, 36507222016, 68719476736), (49152, 68719476736, 137438953472), (65536, 137438953474, 274877906944), (196608, 412316860416, 549755813888), (327680, 687194767360, 1099511627776), (589824, 1236950581248, 2199023255552), (1114112, 2199023255552, 4398046511104), (2097152, 4398046511106, 8796093022208), (6291456, 13194139533312, 17592186044416), (10485760, 21990232555520, 35184372088832), (18874368, 39582418599936, 70368744177664), (67108863, 70368744177664, 4)] (by kernel_rfl) (by kernel_rfl) (by kernel_rfl) ?_
    refine DX.takeW 1 2 (by kernel_rfl) rfl rfl rfl rfl rfl (yw_field0 rfl fld_44_0 rfl) ?_
    refine DX.take 2 6 (by kernel_rfl) rfl rfl rfl rfl rfl (List.Sublist.refl _) (y_load (i := 0) rfl rfl one_3 rfl rfl) ?_
    refine DX.step 0 7 (by kernel_rfl) rfl rfl rfl (op_callE rfl rfl rfl rfl rfl ent_50 (fun w hw => w_actions) (fun Aactions _ => (DXs.mk (List.Sublist.refl _) ?_)))
    refine DX.step 3 15 (by kernel_rfl) rfl rfl rfl (op_callV (v := .bool (decide (1 ≤ Ru.act r ∧ Ru.act r ≤ ((3 : Nat) : Int)))) rfl rfl rfl rfl rfl ent_51 (fun w hw => w_wordsHas 3 (Ru.act r)) (DXs.mk (List.Sublist.refl _) ?_))
    refine DX.takeW 4 31 (by kernel_rfl) rfl rfl rfl rfl rfl (yw_move rfl rfl) ?_
    refine DX.splitD (t := 25) (p := 1 ≤ Ru.act r ∧ Ru.act r ≤ ((3 : Nat) : Int)) rfl (fun d25 => ?_) (fun d25 => ?_)
    · refine DX.takeWG 6 95 (by kernel_rfl) rfl rfl rfl rfl rfl rfl rfl rfl (yw_fieldAddr rfl fld_44_1 rfl) ?_
      refine DX.takeG 7 223 (by kernel_rfl) rfl rfl rfl rfl rfl rfl rfl rfl (List.Sublist.refl _) (y_load (i := 0) rfl rfl one_3 rfl rfl) ?_
      refine DX.stepG 5 255 (by kernel_rfl) rfl rfl rfl rfl rfl rfl (op_callE rfl rfl rfl rfl rfl ent_52 (fun w hw => w_subjects) (fun Asubjects _ => (DXs.mk (List.Sublist.refl _) ?_)))
      refine DX.stepG 8 511 (by kernel_rfl) rfl rfl rfl rfl rfl rfl (op_callV (v := .bool (decide (1 ≤ Ru.sub r ∧ Ru.sub r ≤ ((3 : Nat) : Int)))) rfl rfl rfl rfl rfl ent_51 (fun w hw => w_wordsHas 3 (Ru.sub r)) (DXs.mk (List.Sublist.refl _) ?_))
      refine DX.takeW 9 1023 (by kernel_rfl) rfl rfl rfl rfl rfl (yw_pickT rfl rfl rfl) ?_
      refine DX.takeW 10 2047 (by kernel_rfl) rfl rfl rfl rfl rfl (yw_move rfl rfl) ?_
      refine DX.splitD (t := 31) (p := 1 ≤ Ru.sub r ∧ Ru.sub r ≤ ((3 : Nat) : Int)) rfl (fun d31 => ?_) (fun d31 => ?_)
      · refine DX.takeWG 12 6143 (by kernel_rfl) rfl rfl rfl rfl rfl rfl rfl rfl (yw_fieldAddr rfl fld_44_2 rfl) ?_
        refine DX.takeG 13 14335 (by kernel_rfl) rfl rfl rfl rfl rfl rfl rfl rfl (List.Sublist.refl _) (y_load (i := 0) rfl rfl one_3 rfl rfl) ?_
        refine DX.stepG 11 16383 (by kernel_rfl) rfl rfl rfl rfl rfl rfl (op_callE rfl rfl rfl rfl rfl ent_53 (fun w hw => w_measures) (fun Ameasures _ => (DXs.mk (List.Sublist.refl _) ?_)))
        refine DX.stepG 14 32767 (by kernel_rfl) rfl rfl rfl rfl rfl rfl (op_callV (v := .bool (decide (1 ≤ Ru.mea r ∧ Ru.mea r ≤ ((4 : Nat) : Int)))) rfl rfl rfl rfl rfl ent_51 (fun w hw => w_wordsHas 4 (Ru.mea r)) (DXs.mk (List.Sublist.refl _) ?_))
        refine DX.takeW 15 65535 (by kernel_rfl) rfl rfl rfl rfl rfl (yw_pickT rfl rfl rfl) ?_
        refine DX.takeW 16 131071 (by kernel_rfl) rfl rfl rfl rfl rfl (yw_move rfl rfl) ?_
        refine DX.splitD (t := 37) (p := 1 ≤ Ru.mea r ∧ Ru.mea r ≤ ((4 : Nat) : Int)) rfl (fun d37 => ?_) (fun d37 => ?_)
        · refine DX.takeWG 17 262143 (by kernel_rfl) rfl rfl rfl rfl rfl rfl rfl rfl (yw_fieldAddr rfl fld_44_3 rfl) ?_
          refine DX.takeG 18 524287 (by kernel_rfl) rfl rfl rfl rfl rfl rfl rfl rfl (List.Sublist.refl _) (y_load (i := 0) rfl rfl one_3 rfl rfl) ?_
          refine DX.takeWG 19 1048575 (by kernel_rfl) rfl rfl rfl rfl rfl rfl rfl rfl (yw_geq rfl rfl rfl) ?_
          refine DX.takeW 20 2097151 (by kernel_rfl) rfl rfl rfl rfl rfl (yw_pickT rfl rfl rfl) ?_
          refine DX.takeW 21 4194303 (by kernel_rfl) rfl rfl rfl rfl rfl (yw_move rfl rfl) ?_
          refine DX.splitD (t := 42) (p := 0 ≤ Ru.n r) rfl (fun d42 => ?_) (fun d42 => ?_)
          · refine DX.takeWG 22 8388607 (by kernel_rfl) rfl rfl rfl rfl rfl rfl rfl rfl (yw_fieldAddr rfl fld_44_3 rfl) ?_
            refine DX.takeG 23 16777215 (by kernel_rfl) rfl rfl rfl rfl rfl rfl rfl rfl (List.Sublist.refl _) (y_load (i := 0) rfl rfl one_3 rfl rfl) ?_
            refine DX.takeWG 24 33554431 (by kernel_rfl) rfl rfl rfl rfl rfl rfl rfl rfl (yw_leq rfl rfl rfl) ?_
            refine DX.takeW 25 67108863 (by kernel_rfl) rfl rfl rfl rfl rfl (yw_pickT rfl rfl rfl) ?_
            refine DX.takeW 26 134217727 (by kernel_rfl) rfl rfl rfl rfl rfl (yw_assign rfl rfl) ?_
            refine DX.done (by kernel_rfl) (XX.next (V' := [(2, .bool (decide (Ru.n r ≤ 1000000)))]) ⟨rfl, trivial⟩ ?_)
            refine CX.ret ?_
            exact ret_tmp rfl rfl fun w1 hw => ⟨congrArg (fun b => Ending.returned (Value.bool b)) (by unfold okR; first | exact (decide_eq_false (by omega)).symm | exact decide_eq_decide.2 (by omega) | exact (decide_eq_true (by omega)).symm), hw.sub (List.nil_sublist _)⟩
          · refine DX.skip 22 8388607 (by kernel_rfl) rfl rfl rfl rfl rfl rfl rfl rfl ?_
            refine DX.skip 23 16777215 (by kernel_rfl) rfl rfl rfl rfl rfl rfl rfl rfl ?_
            refine DX.skip 24 33554431 (by kernel_rfl) rfl rfl rfl rfl rfl rfl rfl rfl ?_
            refine DX.takeW 25 67108863 (by kernel_rfl) rfl rfl rfl rfl rfl (yw_pickF rfl rfl rfl) ?_
            refine DX.takeW 26 134217727 (by kernel_rfl) rfl rfl rfl rfl rfl (yw_assign rfl rfl) ?_
            refine DX.done (by kernel_rfl) (XX.next (V' := [(2, .bool false)]) ⟨rfl, trivial⟩ ?_)
            refine CX.ret ?_
            exact ret_tmp rfl rfl fun w1 hw => ⟨congrArg (fun b => Ending.returned (Value.bool b)) (by unfold okR; first | exact (decide_eq_false (by omega)).symm | exact decide_eq_decide.2 (by omega) | exact (decide_eq_true (by omega)).symm), hw.sub (List.nil_sublist _)⟩
        · refine DX.skip 17 262143 (by kernel_rfl) rfl rfl rfl rfl rfl rfl rfl rfl ?_
          refine DX.skip 18 524287 (by kernel_rfl) rfl rfl rfl rfl rfl rfl rfl rfl ?_
          refine DX.skip 19 1048575 (by kernel_rfl) rfl rfl rfl rfl rfl rfl rfl rfl ?_
          refine DX.takeW 20 2097151 (by kernel_rfl) rfl rfl rfl rfl rfl (yw_pickF rfl rfl rfl) ?_
          refine DX.takeW 21 4194303 (by kernel_rfl) rfl rfl rfl rfl rfl (yw_move rfl rfl) ?_
          refine DX.skip 22 8388607 (by kernel_rfl) rfl rfl rfl rfl rfl rfl rfl rfl ?_
          refine DX.skip 23 16777215 (by kernel_rfl) rfl rfl rfl rfl rfl rfl rfl rfl ?_
          refine DX.skip 24 33554431 (by kernel_rfl) rfl rfl rfl rfl rfl rfl rfl rfl ?_
          refine DX.takeW 25 67108863 (by kernel_rfl) rfl rfl rfl rfl rfl (yw_pickF rfl rfl rfl) ?_
          refine DX.takeW 26 134217727 (by kernel_rfl) rfl rfl rfl rfl rfl (yw_assign rfl rfl) ?_
          refine DX.done (by kernel_rfl) (XX.next (V' := [(2, .bool false)]) ⟨rfl, trivial⟩ ?_)
          refine CX.ret ?_
          exact ret_tmp rfl rfl fun w1 hw => ⟨congrArg (fun b => Ending.returned (Value.bool b)) (by unfold okR; first | exact (decide_eq_false (by omega)).symm | exact decide_eq_decide.2 (by omega) | exact (decide_eq_true (by omega)).symm), hw.sub (List.nil_sublist _)⟩
      · refine DX.skip 11 4095 (by kernel_rfl) rfl rfl rfl rfl rfl rfl rfl rfl ?_
        refine DX.skip 12 8191 (by kernel_rfl) rfl rfl rfl rfl rfl rfl rfl rfl ?_
        refine DX.skip 13 16383 (by kernel_rfl) rfl rfl rfl rfl rfl rfl rfl rfl ?_
        refine DX.skip 14 32767 (by kernel_rfl) rfl rfl rfl rfl rfl rfl rfl rfl ?_
        refine DX.takeW 15 65535 (by kernel_rfl) rfl rfl rfl rfl rfl (yw_pickF rfl rfl rfl) ?_
        refine DX.takeW 16 131071 (by kernel_rfl) rfl rfl rfl rfl rfl (yw_move rfl rfl) ?_
        refine DX.skip 17 262143 (by kernel_rfl) rfl rfl rfl rfl rfl rfl rfl rfl ?_
        refine DX.skip 18 524287 (by kernel_rfl) rfl rfl rfl rfl rfl rfl rfl rfl ?_
        refine DX.skip 19 1048575 (by kernel_rfl) rfl rfl rfl rfl rfl rfl rfl rfl ?_
        refine DX.takeW 20 2097151 (by kernel_rfl) rfl rfl rfl rfl rfl (yw_pickF rfl rfl rfl) ?_
        refine DX.takeW 21 4194303 (by kernel_rfl) rfl rfl rfl rfl rfl (yw_move rfl rfl) ?_
        refine DX.skip 22 8388607 (by kernel_rfl) rfl rfl rfl rfl rfl rfl rfl rfl ?_
        refine DX.skip 23 16777215 (by kernel_rfl) rfl rfl rfl rfl rfl rfl rfl rfl ?_
        refine DX.skip 24 33554431 (by kernel_rfl) rfl rfl rfl rfl rfl rfl rfl rfl ?_
        refine DX.takeW 25 67108863 (by kernel_rfl) rfl rfl rfl rfl rfl (yw_pickF rfl rfl rfl) ?_
        refine DX.takeW 26 134217727 (by kernel_rfl) rfl rfl rfl rfl rfl (yw_assign rfl rfl) ?_
        refine DX.done (by kernel_rfl) (XX.next (V' := [(2, .bool false)]) ⟨rfl, trivial⟩ ?_)
        refine CX.ret ?_
        exact ret_tmp rfl rfl fun w1 hw => ⟨congrArg (fun b => Ending.returned (Value.bool b)) (by unfold okR; first | exact (decide_eq_false (by omega)).symm | exact decide_eq_decide.2 (by omega) | exact (decide_eq_true (by omega)).symm), hw.sub (List.nil_sublist _)⟩
    · refine DX.skip 5 63 (by kernel_rfl) rfl rfl rfl rfl rfl rfl rfl rfl ?_
      refine DX.skip 6 127 (by kernel_rfl) rfl rfl rfl rfl rfl rfl rfl rfl ?_
      refine DX.skip 7 255 (by kernel_rfl) rfl rfl rfl rfl rfl rfl rfl rfl ?_
      refine DX.skip 8 511 (by kernel_rfl) rfl rfl rfl rfl rfl rfl rfl rfl ?_
      refine DX.takeW 9 1023 (by kernel_rfl) rfl rfl rfl rfl rfl (yw_pickF rfl rfl rfl) ?_
      refine DX.takeW 10 2047 (by kernel_rfl) rfl rfl rfl rfl rfl (yw_move rfl rfl) ?_
      refine DX.skip 11 4095 (by kernel_rfl) rfl rfl rfl rfl rfl rfl rfl rfl ?_
      refine DX.skip 12 8191 (by kernel_rfl) rfl rfl rfl rfl rfl rfl rfl rfl ?_
      refine DX.skip 13 16383 (by kernel_rfl) rfl rfl rfl rfl rfl rfl rfl rfl ?_
      refine DX.skip 14 32767 (by kernel_rfl) rfl rfl rfl rfl rfl rfl rfl rfl ?_
      refine DX.takeW 15 65535 (by kernel_rfl) rfl rfl rfl rfl rfl (yw_pickF rfl rfl rfl) ?_
      refine DX.takeW 16 131071 (by kernel_rfl) rfl rfl rfl rfl rfl (yw_move rfl rfl) ?_
      refine DX.skip 17 262143 (by kernel_rfl) rfl rfl rfl rfl rfl rfl rfl rfl ?_
      refine DX.skip 18 524287 (by kernel_rfl) rfl rfl rfl rfl rfl rfl rfl rfl ?_
      refine DX.skip 19 1048575 (by kernel_rfl) rfl rfl rfl rfl rfl rfl rfl rfl ?_
      refine DX.takeW 20 2097151 (by kernel_rfl) rfl rfl rfl rfl rfl (yw_pickF rfl rfl rfl) ?_
      refine DX.takeW 21 4194303 (by kernel_rfl) rfl rfl rfl rfl rfl (yw_move rfl rfl) ?_
      refine DX.skip 22 8388607 (by kernel_rfl) rfl rfl rfl rfl rfl rfl rfl rfl ?_
      refine DX.skip 23 16777215 (by kernel_rfl) rfl rfl rfl rfl rfl rfl rfl rfl ?_
      refine DX.skip 24 33554431 (by kernel_rfl) rfl rfl rfl rfl rfl rfl rfl rfl ?_
      refine DX.takeW 25 67108863 (by kernel_rfl) rfl rfl rfl rfl rfl (yw_pickF rfl rfl rfl) ?_
      refine DX.takeW 26 134217727 (by kernel_rfl) rfl rfl rfl rfl rfl (yw_assign rfl rfl) ?_
      refine DX.done (by kernel_rfl) (XX.next (V' := [(2, .bool false)]) ⟨rfl, trivial⟩ ?_)
      refine CX.ret ?_
      exact ret_tmp rfl rfl fun w1 hw => ⟨congrArg (fun b => Ending.returned (Value.bool b)) (by unfold okR; first | exact (decide_eq_false (by omega)).symm | exact decide_eq_decide.2 (by omega) | exact (decide_eq_true (by omega)).symm), hw.sub (List.nil_sublist _)⟩

end Go.Proofs.Ytpcfgoadkfajfaa
namespace Go.Proofs.Ytpcfgoadkfajfaa
set_option linter.all false
open Go Go.RowKit
set_option maxRecDepth 100000
theorem ent_35 : ∀ args w, (callFunc 35 args).run Try.prog w = .ok (.enter 35 args) w := enters_of Try.func35 (by kernel_rfl) rfl
set_option maxRecDepth 100000 in
theorem w_judge1 {w : World} (r : Ru) :
    Calls Try.prog 34 #[.agg (ruC r)] w (fun e w' => e = .returned (.bool (!(okR r))) ∧ SL w [] w' []) := by
  refine calls_of_CX (O := []) (L := []) (args := [.agg (ruC r)]) Try.func34 rfl (by simp [Try.ntmps34]) (SL.refl w) ?_
  refine CX.sub (V' := [(0, .agg (ruC r))]) ⟨rfl, trivial⟩ ?_
  refine CX.seq ?_
  refine CX.region ?_
  refine RX.cons rfl rfl (op_box rfl rfl rfl rfl fun gr => ?_)
  refine RX.cons rfl rfl (op_w (yw_assign rfl rfl) rfl rfl ?_)
  refine RX.nil (XX.next (V' := [(1, _)]) ⟨rfl, trivial⟩ ?_)
  refine CX.seq ?_
  refine CX.region ?_
  refine RX.cons rfl rfl (op_yld (y_loadA (i := 0) rfl rfl agg_44 rfl rfl) rfl rfl ?_)
  refine RX.cons rfl rfl (op_callV (v := .bool (okR r)) rfl rfl rfl rfl rfl ent_35 (fun w hw => w_validR r) ?_)
  refine RX.cons rfl rfl (op_w (yw_not rfl rfl) rfl rfl ?_)
  refine RX.cons rfl rfl (op_w (yw_assign rfl rfl) rfl rfl ?_)
  refine RX.nil (XX.next (V' := [(2, .bool (!(okR r)))]) ⟨rfl, trivial⟩ ?_)
  refine CX.ret ?_
  exact ret_tmp rfl rfl fun w1 hw => ⟨rfl, hw.sub (List.nil_sublist _)⟩

end Go.Proofs.Ytpcfgoadkfajfaa
namespace Go.Proofs.Ytpcfgoadkfajfaa
set_option linter.all false
def inS (As Ds : List Int) (x : Nd) : Prop := if x.1 = true then x.2 ∈ Ds else x.2 ∈ As
theorem closed_conn {E : List (Int × Int)} {As Ds : List Int} (h : ∀ e ∈ E, (e.1 ∈ As ↔ e.2 ∈ Ds)) {x y : Nd} (hc : Conn E x y) : inS As Ds x ↔ inS As Ds y := by
  induction hc with
  | refl => exact Iff.rfl
  | edge he => simpa [inS] using h _ he
  | symm _ ih => exact ih.symm
  | trans _ _ i1 i2 => exact i1.trans i2
/-- How many ends of edges are not reached. -/
def out1 (E : List (Int × Int)) (As : List Int) : Nat := (E.filter fun e => !decide (e.1 ∈ As)).length
def out2 (E : List (Int × Int)) (Ds : List Int) : Nat := (E.filter fun e => !decide (e.2 ∈ Ds)).length
theorem filter_lt {α : Type} {p q : α → Bool} : ∀ {l : List α} {x : α}, x ∈ l → p x = true → q x = false → (∀ y, q y = true → p y = true) → (l.filter q).length < (l.filter p).length := by
  intro l
  induction l with
  | nil => intro x h; cases h
  | cons a l ih =>
    intro x hx hp hq hs
    have hle : (l.filter q).length ≤ (l.filter p).length := by
      clear ih hx
      induction l with
      | nil => simp
      | cons b l ih2 =>
        simp only [List.filter_cons]
        cases hb : q b with
        | false => cases p b <;> simp <;> omega
        | true => rw [hs b hb]; simpa using ih2
    simp only [List.filter_cons]
    rcases List.mem_cons.1 hx with rfl | hx
    · rw [hp, hq]; simp; omega
    · have := ih hx hp hq hs
      cases ha : q a with
      | false => cases p a <;> simp <;> omega
      | true => rw [hs a ha]; simpa using this
theorem out1_lt {E : List (Int × Int)} {As As' : List Int} {e : Int × Int} (he : e ∈ E) (h1 : e.1 ∉ As) (h2 : e.1 ∈ As') (hs : ∀ x ∈ As, x ∈ As') : out1 E As' < out1 E As :=
  filter_lt he (by simpa using h1) (by simpa using h2) (fun y hy => by simp only [Bool.not_eq_true', decide_eq_false_iff_not] at *; exact fun h => hy (hs _ h))
theorem out2_lt {E : List (Int × Int)} {Ds Ds' : List Int} {e : Int × Int} (he : e ∈ E) (h1 : e.2 ∉ Ds) (h2 : e.2 ∈ Ds') (hs : ∀ x ∈ Ds, x ∈ Ds') : out2 E Ds' < out2 E Ds :=
  filter_lt he (by simpa using h1) (by simpa using h2) (fun y hy => by simp only [Bool.not_eq_true', decide_eq_false_iff_not] at *; exact fun h => hy (hs _ h))
theorem out1_le (E : List (Int × Int)) (As : List Int) : out1 E As ≤ E.length := List.length_filter_le _ _
theorem out2_le (E : List (Int × Int)) (Ds : List Int) : out2 E Ds ≤ E.length := List.length_filter_le _ _
end Go.Proofs.Ytpcfgoadkfajfaa
namespace Go.Proofs.Ytpcfgoadkfajfaa
set_option linter.all false
structure ClS (E : List (Int × Int)) (a : Int) (As Ds : List Int) : Prop where
  sa : ∀ x ∈ As, Conn E (false, x) (false, a)
  sd : ∀ x ∈ Ds, Conn E (true, x) (false, a)
  inn : a ∈ E.map Prod.fst → a ∈ As
  out : a ∉ E.map Prod.fst → As = [] ∧ Ds = []
  n1 : As.length + out1 E As ≤ 1 + E.length
  n2 : Ds.length + out2 E Ds ≤ E.length
def mu (E : List (Int × Int)) (As Ds : List Int) : Nat := out1 E As + out2 E Ds
variable {E : List (Int × Int)} {a : Int} {As Ds : List Int}
theorem ClS.start (E : List (Int × Int)) (a : Int) : ClS E a (if a ∈ E.map Prod.fst then [a] else []) [] := by
  have h1 := out1_le E (if a ∈ E.map Prod.fst then [a] else [])
  have h2 := out2_le E []
  refine ⟨fun x hx => ?_, fun x hx => (by cases hx), fun h => ?_, fun h => ?_, ?_, by simpa using h2⟩
  · split at hx
    · rw [List.mem_singleton.1 hx]; exact .refl _
    · cases hx
  · rw [if_pos h]; exact List.mem_singleton.2 rfl
  · rw [if_neg h]; exact ⟨rfl, rfl⟩
  · split at h1 <;> rename_i h <;> simp only [h, if_true, if_false, List.length_singleton, List.length_nil] at * <;> omega
theorem ClS.dev (h : ClS E a As Ds) {e : Int × Int} (he : e ∈ E) (h1 : e.1 ∈ As) (h2 : e.2 ∉ Ds) {Ds' : List Int} (hm : ∀ x, x ∈ Ds' ↔ x ∈ Ds ∨ x = e.2) (hl : Ds'.length ≤ Ds.length + 1) : ClS E a As Ds' ∧ mu E As Ds' < mu E As Ds := by
  have hlt : out2 E Ds' < out2 E Ds := out2_lt he h2 ((hm _).2 (.inr rfl)) fun x hx => (hm x).2 (.inl hx)
  refine ⟨⟨h.sa, fun x hx => ?_, h.inn, fun hn => ?_, h.n1, ?_⟩, by unfold mu; omega⟩
  · rcases (hm x).1 hx with hx | rfl
    · exact h.sd x hx
    · exact (Conn.symm (.edge he)).trans (h.sa _ h1)
  · have := (h.out hn).1; rw [this] at h1; cases h1
  · have := h.n2; omega
theorem ClS.acc (h : ClS E a As Ds) {e : Int × Int} (he : e ∈ E) (h1 : e.1 ∉ As) (h2 : e.2 ∈ Ds) {As' : List Int} (hm : ∀ x, x ∈ As' ↔ x ∈ As ∨ x = e.1) (hl : As'.length ≤ As.length + 1) : ClS E a As' Ds ∧ mu E As' Ds < mu E As Ds := by
  have hlt : out1 E As' < out1 E As := out1_lt he h1 ((hm _).2 (.inr rfl)) fun x hx => (hm x).2 (.inl hx)
  refine ⟨⟨fun x hx => ?_, h.sd, fun hn => (hm a).2 (.inl (h.inn hn)), fun hn => ?_, ?_, h.n2⟩, by unfold mu; omega⟩
  · rcases (hm x).1 hx with hx | rfl
    · exact h.sa x hx
    · exact (Conn.edge he).trans (h.sd _ h2)
  · have := (h.out hn).2; rw [this] at h2; cases h2
  · have := h.n1; omega
theorem ClS.done (h : ClS E a As Ds) (hc : ∀ e ∈ E, (e.1 ∈ As ↔ e.2 ∈ Ds)) (x : Int) : x ∈ As ↔ a ∈ E.map Prod.fst ∧ Conn E (false, x) (false, a) := by
  constructor
  · intro hx
    refine ⟨?_, h.sa x hx⟩
    by_cases hn : a ∈ E.map Prod.fst
    · exact hn
    · rw [(h.out hn).1] at hx; cases hx
  · intro ⟨hn, hx⟩
    have := closed_conn hc hx
    simp only [inS, Bool.false_eq_true, if_false] at this
    exact this.2 (h.inn hn)
theorem closed_snoc {i : Nat} {e : Int × Int} (he : E[i]? = some e) (h : ∀ e ∈ E.take i, (e.1 ∈ As ↔ e.2 ∈ Ds)) (h2 : e.1 ∈ As ↔ e.2 ∈ Ds) : ∀ e ∈ E.take (i + 1), (e.1 ∈ As ↔ e.2 ∈ Ds) := by
  intro d hd
  rw [List.take_add_one, he] at hd
  rcases List.mem_append.1 hd with hd | hd
  · exact h d hd
  · have : d = e := by simpa using hd
    rw [this]; exact h2
theorem first_snoc {i : Nat} {e : Int × Int} (he : E[i]? = some e) (h : ¬ e.1 = a) : (if a ∈ (E.take (i + 1)).map Prod.fst then [a] else []) = (if a ∈ (E.take i).map Prod.fst then [a] else []) := by
  have : a ∈ (E.take (i + 1)).map Prod.fst ↔ a ∈ (E.take i).map Prod.fst := by
    rw [List.take_add_one, he, List.map_append, List.mem_append]
    simp only [Option.toList_some, List.map_cons, List.map_nil, List.mem_singleton]
    exact ⟨fun h2 => h2.elim id fun e2 => absurd e2.symm h, .inl⟩
  simp only [this]
theorem first_here {i : Nat} {e : Int × Int} (he : E[i]? = some e) (h : e.1 = a) : (if a ∈ (E.take (i + 1)).map Prod.fst then [a] else []) = [a] := by
  rw [if_pos]
  rw [List.take_add_one, he, List.map_append, List.mem_append]
  exact .inr (by simp [h])
end Go.Proofs.Ytpcfgoadkfajfaa
namespace Go.Proofs.Ytpcfgoadkfajfaa
set_option linter.all false
open Go Go.RowKit
set_option maxRecDepth 100000
theorem ent_67 : ∀ args w, (callFunc 67 args).run Try.prog w = .ok (.enter 67 args) w := enters_of Try.func67 (by kernel_rfl) rfl
theorem ent_68 : ∀ args w, (callFunc 68 args).run Try.prog w = .ok (.enter 68 args) w := enters_of Try.func68 (by kernel_rfl) rfl
set_option maxRecDepth 100000 in
theorem w_cluster10 {w : World} {A : Option Addr} {cap : Nat} (E : List (Int × Int)) (hr : Rd w A 2 (E.map edC)) (hl : E.length ≤ 100000) (a : Int) :
    Calls Try.prog 48 #[.slice A E.length cap, .int .i64 a] w (fun e w' => ∃ z : ((Option Addr × Nat) × List Int) × ((Option Addr × Nat) × List Int), ((∀ x, x ∈ z.1.2 ↔ a ∈ E.map Prod.fst ∧ Conn E (false, x) (false, a)) ∧ z.1.2.length ≤ 1 + E.length) ∧ e = .returned (.tuple #[.slice z.1.1.1 z.1.2.length z.1.1.2, .slice z.2.1.1 z.2.2.length z.2.1.2]) ∧ SL w [] w' [.row z.1.1.1 z.1.1.2 3 1 (List.map iR z.1.2), .row z.2.1.1 z.2.1.2 3 1 (List.map iR z.2.2)]) := by
  refine calls_of_CX (O := []) (L := []) (args := [.slice A E.length cap, .int .i64 a]) Try.func48 rfl (by simp [Try.ntmps48]) (SL.refl w) ?_
  refine CX.sub (V' := [(0, .slice A E.length cap), (1, .int .i64 a)]) ⟨rfl, rfl, trivial⟩ ?_
  refine CX.seq ?_
  refine CX.region ?_
  refine RX.cons rfl rfl (op_w (yw_assign rfl rfl) rfl rfl ?_)
  refine RX.cons rfl rfl (op_w (yw_assign rfl rfl) rfl rfl ?_)
  refine RX.nil (XX.next (V' := [(0, _), (1, _)]) ⟨rfl, rfl, trivial⟩ ?_)
  refine CX.seq ?_
  refine CX.region ?_
  refine RX.cons rfl rfl (op_w (yw_assign rfl rfl) rfl rfl ?_)
  refine RX.nil (XX.next (V' := [(0, _), (1, _), (6, _)]) ⟨rfl, rfl, rfl, trivial⟩ ?_)
  refine CX.seq ?_
  refine CX.region ?_
  refine RX.cons rfl rfl (op_w (yw_assign rfl rfl) rfl rfl ?_)
  refine RX.nil (XX.next (V' := [(0, _), (1, _), (6, _), (7, _)]) ⟨rfl, rfl, rfl, rfl, trivial⟩ ?_)
  refine CX.seq ?_
  refine CX.seq ?_
  refine CX.region ?_
  refine RX.cons rfl rfl (op_w (yw_assign rfl rfl) rfl rfl ?_)
  refine RX.nil (XX.next (V' := [(0, _), (1, _), (6, _), (7, _), (8, _)]) ⟨rfl, rfl, rfl, rfl, rfl, trivial⟩ ?_)
  refine CX.block ?_
  refine CX.rowNil 3 1 ?_
  refine CX.loop (σ := Nat × (Option Addr × Nat) × List Int) (fun z => [(0, .slice A E.length cap), (1, .int .i64 a), (6, .slice z.2.1.1 (List.length (z.2.2 : List Int)) z.2.1.2), (7, .slice none 0 0), (8, .int .i64 ((z.1 : Nat) : Int))]) (fun z => [.row z.2.1.1 z.2.1.2 3 1 (List.map iR z.2.2)]) (fun z => z.1 ≤ E.length ∧ z.2.2 = (if a ∈ (E.take z.1).map Prod.fst then [a] else [])) (fun z => E.length - z.1) (0, (none, 0), []) ⟨Nat.zero_le _, by simp⟩ ⟨rfl, rfl, rfl, rfl, rfl, trivial⟩ rfl (fun z hI => ?_)
  obtain ⟨i, ⟨A1, c1⟩, As⟩ := z
  dsimp only at hI ⊢
  obtain ⟨hi, hAs⟩ := hI
  refine CX.seq ?_
  refine CX.seq ?_
  refine CX.region ?_
  refine RX.cons rfl rfl (op_w (yw_move rfl rfl) rfl rfl ?_)
  refine RX.cons rfl rfl (op_w (yw_move rfl rfl) rfl rfl ?_)
  refine RX.cons rfl rfl (op_w (yw_lenS rfl Try.underlying52 rfl) rfl rfl ?_)
  refine RX.cons rfl rfl (op_w (yw_lss rfl rfl rfl) rfl rfl ?_)
  refine RX.nil (XX.next (V' := [(0, _), (1, _), (6, _), (7, _), (8, _), (16, _)]) ⟨rfl, rfl, rfl, rfl, rfl, rfl, trivial⟩ ?_)
  refine CX.condD (p := ((i : Nat) : Int) < ((E.length : Nat) : Int)) rfl (fun c16 => ?_) (fun c16 => ?_)
  · obtain ⟨e0, he0⟩ := get_some (l := E) (k := i) (by omega)
    have he0m := List.mem_of_getElem? he0
    have hA : ∃ b j, A = some ⟨b, j, none⟩ := hr.some (k := 0) (by simp; omega)
    refine CX.skip (XX.next (V' := [(0, _), (1, _), (6, _), (7, _), (8, _)]) ⟨rfl, rfl, rfl, rfl, rfl, trivial⟩ ?_)
    refine CX.seq ?_
    refine CX.block ?_
    refine CX.seq ?_
    refine CX.region ?_
    refine RX.cons rfl rfl (op_w (yw_move rfl rfl) rfl rfl ?_)
    refine RX.cons rfl rfl (op_w (yw_move rfl rfl) rfl rfl ?_)
    refine RX.cons rfl rfl (op_w (yw_index (k := i) rfl slt_52 rfl rfl (by omega) (by omega) hA) rfl rfl ?_)
    refine RX.cons rfl rfl (op_w (yw_field0 rfl fld_73_0 rfl) rfl rfl ?_)
    refine RX.cons rfl rfl (op_yld (y_elemF (j := 0) rfl rfl one_3 hr (by simp) (map_get he0) rfl) rfl rfl ?_)
    refine RX.cons rfl rfl (op_w (yw_move rfl rfl) rfl rfl ?_)
    refine RX.cons rfl rfl (op_w (yw_eql rfl rfl rfl) rfl rfl ?_)
    refine RX.nil (XX.next (V' := [(0, _), (1, _), (6, _), (7, _), (8, _), (25, _)]) ⟨rfl, rfl, rfl, rfl, rfl, rfl, trivial⟩ ?_)
    refine CX.condD (p := Prod.fst e0 = a) rfl (fun c25 => ?_) (fun c25 => ?_)
    · refine CX.region ?_
      refine RX.cons rfl rfl (op_w (yw_move rfl rfl) rfl rfl ?_)
      refine RX.cons rfl rfl (op_buildSlice rfl rfl rfl slb_36 rfl rfl (by intro v hv; simp only [List.mem_cons, List.not_mem_nil, or_false] at hv; subst hv; exact ⟨rfl, (plain_of rfl)⟩) (by decide) fun g7 => ?_)
      refine RX.cons rfl rfl (op_w (yw_assign rfl rfl) rfl rfl ?_)
      refine RX.nil (XX.inBlock (V' := [(0, _), (1, _), (6, _), (7, _), (8, _)]) ⟨rfl, rfl, rfl, rfl, rfl, trivial⟩ ?_)
      refine XX.next (V' := [(0, _), (1, _), (6, _), (7, _), (8, _)]) ⟨rfl, rfl, rfl, rfl, rfl, trivial⟩ ?_
      refine CX.region ?_
      refine RX.cons rfl rfl (op_w (yw_move rfl rfl) rfl rfl ?_)
      refine RX.cons rfl rfl (op_w (yw_add rfl rfl rfl (by omega) (by omega)) rfl rfl ?_)
      refine RX.cons rfl rfl (op_w (yw_assign rfl rfl) rfl rfl ?_)
      refine RX.nil (XX.againP ([.row A1 c1 3 1 (List.map iR As)]) (i + 1, (some ⟨g7, 0, none⟩, 1), [a]) (by dsimp only; omega) ⟨by dsimp only; omega, (first_here he0 c25).symm⟩ ⟨rfl, rfl, rfl, rfl, rfl, trivial⟩ ((perm_pick 0 rfl).trans (List.Perm.cons _ (List.Perm.refl _))))
    · refine CX.skip (XX.inBlock (V' := [(0, _), (1, _), (6, _), (7, _), (8, _)]) ⟨rfl, rfl, rfl, rfl, rfl, trivial⟩ ?_)
      refine XX.next (V' := [(0, _), (1, _), (6, _), (7, _), (8, _)]) ⟨rfl, rfl, rfl, rfl, rfl, trivial⟩ ?_
      refine CX.region ?_
      refine RX.cons rfl rfl (op_w (yw_move rfl rfl) rfl rfl ?_)
      refine RX.cons rfl rfl (op_w (yw_add rfl rfl rfl (by omega) (by omega)) rfl rfl ?_)
      refine RX.cons rfl rfl (op_w (yw_assign rfl rfl) rfl rfl ?_)
      refine RX.nil (XX.againP ([]) (i + 1, (A1, c1), As) (by dsimp only; omega) ⟨by dsimp only; omega, hAs.trans (first_snoc he0 c25).symm⟩ ⟨rfl, rfl, rfl, rfl, rfl, trivial⟩ ((perm_pick 0 rfl).trans (List.Perm.cons _ (List.Perm.refl _))))
  · rw [List.take_of_length_le (by omega)] at hAs
    have hC0 : ClS E a As [] := by rw [hAs]; exact ClS.start E a
    refine CX.exit ?_
    refine XX.then_exit ?_
    refine XX.then_exit ?_
    refine XX.block_exit ?_
    refine XX.next (V' := [(0, _), (6, _), (7, _)]) ⟨rfl, rfl, rfl, trivial⟩ ?_
    refine CX.seq ?_
    refine CX.seq ?_
    refine CX.region ?_
    refine RX.cons rfl rfl (op_w (yw_assign rfl rfl) rfl rfl ?_)
    refine RX.nil (XX.next (V' := [(0, _), (6, _), (7, _), (9, _)]) ⟨rfl, rfl, rfl, rfl, trivial⟩ ?_)
    refine CX.block ?_
    refine CX.rowNil 3 1 ?_
    refine CX.loop (σ := Bool × ((Option Addr × Nat) × List Int) × ((Option Addr × Nat) × List Int)) (fun z => [(0, .slice A E.length cap), (6, .slice z.2.1.1.1 (List.length (z.2.1.2 : List Int)) z.2.1.1.2), (7, .slice z.2.2.1.1 (List.length (z.2.2.2 : List Int)) z.2.2.1.2), (9, .bool z.1)]) (fun z => [.row z.2.2.1.1 z.2.2.1.2 3 1 (List.map iR z.2.2.2), .row z.2.1.1.1 z.2.1.1.2 3 1 (List.map iR z.2.1.2)]) (fun z => ClS E a z.2.1.2 z.2.2.2 ∧ (z.1 = false → ∀ e ∈ E, (e.1 ∈ z.2.1.2 ↔ e.2 ∈ z.2.2.2))) (fun z => 2 * mu E z.2.1.2 z.2.2.2 + z.1.toNat) (true, ((A1, c1), As), ((none, 0), [])) ⟨hC0, fun h => by cases h⟩ ⟨rfl, rfl, rfl, rfl, trivial⟩ rfl (fun z hI => ?_)
    obtain ⟨mo, ⟨⟨A1, c1⟩, As⟩, ⟨⟨A2, c2⟩, Ds⟩⟩ := z
    dsimp only at hI ⊢
    obtain ⟨hC, hcl⟩ := hI
    refine CX.seq ?_
    refine CX.seq ?_
    refine CX.region ?_
    refine RX.cons rfl rfl (op_w (yw_move rfl rfl) rfl rfl ?_)
    refine RX.nil (XX.next (V' := [(0, _), (6, _), (7, _), (28, _)]) ⟨rfl, rfl, rfl, rfl, trivial⟩ ?_)
    refine CX.cond (b := mo) rfl (fun c28 => ?_) (fun c28 => ?_)
    · refine CX.skip (XX.next (V' := [(0, _), (6, _), (7, _)]) ⟨rfl, rfl, rfl, trivial⟩ ?_)
      refine CX.block ?_
      refine CX.seq ?_
      refine CX.region ?_
      refine RX.cons rfl rfl (op_w (yw_assign rfl rfl) rfl rfl ?_)
      refine RX.nil (XX.next (V' := [(0, _), (6, _), (7, _), (9, _)]) ⟨rfl, rfl, rfl, rfl, trivial⟩ ?_)
      refine CX.seq ?_
      refine CX.region ?_
      refine RX.cons rfl rfl (op_w (yw_assign rfl rfl) rfl rfl ?_)
      refine RX.nil (XX.next (V' := [(0, _), (6, _), (7, _), (9, _), (10, _)]) ⟨rfl, rfl, rfl, rfl, rfl, trivial⟩ ?_)
      refine CX.block ?_
      refine CX.loop (σ := Nat × Bool × ((Option Addr × Nat) × List Int) × ((Option Addr × Nat) × List Int)) (fun z => [(0, .slice A E.length cap), (6, .slice z.2.2.1.1.1 (List.length (z.2.2.1.2 : List Int)) z.2.2.1.1.2), (7, .slice z.2.2.2.1.1 (List.length (z.2.2.2.2 : List Int)) z.2.2.2.1.2), (9, .bool z.2.1), (10, .int .i64 ((z.1 : Nat) : Int))]) (fun z => [.row z.2.2.2.1.1 z.2.2.2.1.2 3 1 (List.map iR z.2.2.2.2), .row z.2.2.1.1.1 z.2.2.1.1.2 3 1 (List.map iR z.2.2.1.2)]) (fun z => z.1 ≤ E.length ∧ ClS E a z.2.2.1.2 z.2.2.2.2 ∧ (z.2.1 = true → mu E z.2.2.1.2 z.2.2.2.2 < mu E As Ds) ∧ (z.2.1 = false → (z.2.2.1.2 = As ∧ z.2.2.2.2 = Ds) ∧ ∀ e ∈ E.take z.1, (e.1 ∈ z.2.2.1.2 ↔ e.2 ∈ z.2.2.2.2))) (fun z => E.length - z.1) (0, false, ((A1, c1), As), ((A2, c2), Ds)) ⟨Nat.zero_le _, hC, (fun h => by cases h), fun _ => ⟨⟨rfl, rfl⟩, by simp⟩⟩ ⟨rfl, rfl, rfl, rfl, rfl, trivial⟩ rfl (fun z hI => ?_)
      clear hC hcl
      obtain ⟨i, mr, ⟨⟨B1, d1⟩, Xs⟩, ⟨⟨B2, d2⟩, Ys⟩⟩ := z
      dsimp only at hI ⊢
      obtain ⟨hi, hC, hmr, hst⟩ := hI
      have hn1 := hC.n1
      have hn2 := hC.n2
      have hle : mu E Xs Ys ≤ mu E As Ds := by cases mr with | true => exact Nat.le_of_lt (hmr rfl) | false => rw [(hst rfl).1.1, (hst rfl).1.2]; exact Nat.le_refl _
      refine CX.seq ?_
      refine CX.seq ?_
      refine CX.region ?_
      refine RX.cons rfl rfl (op_w (yw_move rfl rfl) rfl rfl ?_)
      refine RX.cons rfl rfl (op_w (yw_move rfl rfl) rfl rfl ?_)
      refine RX.cons rfl rfl (op_w (yw_lenS rfl Try.underlying52 rfl) rfl rfl ?_)
      refine RX.cons rfl rfl (op_w (yw_lss rfl rfl rfl) rfl rfl ?_)
      refine RX.nil (XX.next (V' := [(0, _), (6, _), (7, _), (9, _), (10, _), (32, _)]) ⟨rfl, rfl, rfl, rfl, rfl, rfl, trivial⟩ ?_)
      refine CX.condD (p := ((i : Nat) : Int) < ((E.length : Nat) : Int)) rfl (fun c32 => ?_) (fun c32 => ?_)
      · obtain ⟨e0, he0⟩ := get_some (l := E) (k := i) (by omega)
        have he0m := List.mem_of_getElem? he0
        have hA : ∃ b j, A = some ⟨b, j, none⟩ := hr.some (k := 0) (by simp; omega)
        refine CX.skip (XX.next (V' := [(0, _), (6, _), (7, _), (9, _), (10, _)]) ⟨rfl, rfl, rfl, rfl, rfl, trivial⟩ ?_)
        refine CX.seq ?_
        refine CX.block ?_
        refine CX.seq ?_
        refine CX.region ?_
        refine RX.cons rfl rfl (op_w (yw_move rfl rfl) rfl rfl ?_)
        refine RX.cons rfl rfl (op_w (yw_move rfl rfl) rfl rfl ?_)
        refine RX.cons rfl rfl (op_w (yw_move rfl rfl) rfl rfl ?_)
        refine RX.cons rfl rfl (op_w (yw_index (k := i) rfl slt_52 rfl rfl (by omega) (by omega) hA) rfl rfl ?_)
        refine RX.cons rfl rfl (op_w (yw_field0 rfl fld_73_0 rfl) rfl rfl ?_)
        refine RX.cons rfl rfl (op_yld (y_elemF (j := 0) rfl rfl one_3 hr (by simp) (map_get he0) rfl) rfl rfl ?_)
        refine RX.cons rfl rfl (op_callV (v := .bool (decide ((Prod.fst e0) ∈ Xs))) rfl rfl rfl rfl rfl ent_67 (fun w hw => w_has10 Xs (Ent.rd (hw.ents _ (List.mem_of_getElem? (i := 1) rfl))) (by omega) (Prod.fst e0)) ?_)
        refine RX.cons rfl rfl (op_w (yw_assign rfl rfl) rfl rfl ?_)
        refine RX.nil (XX.next (V' := [(0, _), (6, _), (7, _), (9, _), (10, _), (11, _)]) ⟨rfl, rfl, rfl, rfl, rfl, rfl, trivial⟩ ?_)
        refine CX.seq ?_
        refine CX.region ?_
        refine RX.cons rfl rfl (op_w (yw_move rfl rfl) rfl rfl ?_)
        refine RX.cons rfl rfl (op_w (yw_move rfl rfl) rfl rfl ?_)
        refine RX.cons rfl rfl (op_w (yw_move rfl rfl) rfl rfl ?_)
        refine RX.cons rfl rfl (op_w (yw_index (k := i) rfl slt_52 rfl rfl (by omega) (by omega) hA) rfl rfl ?_)
        refine RX.cons rfl rfl (op_w (yw_fieldAddr rfl fld_73_1 rfl) rfl rfl ?_)
        refine RX.cons rfl rfl (op_yld (y_elemF rfl rfl one_3 hr (by simp) (map_get he0) rfl) rfl rfl ?_)
        refine RX.cons rfl rfl (op_callV (v := .bool (decide ((Prod.snd e0) ∈ Ys))) rfl rfl rfl rfl rfl ent_67 (fun w hw => w_has10 Ys (Ent.rd (hw.ents _ (List.mem_of_getElem? (i := 0) rfl))) (by omega) (Prod.snd e0)) ?_)
        refine RX.cons rfl rfl (op_w (yw_assign rfl rfl) rfl rfl ?_)
        refine RX.nil (XX.next (V' := [(0, _), (6, _), (7, _), (9, _), (10, _), (11, _), (12, _)]) ⟨rfl, rfl, rfl, rfl, rfl, rfl, rfl, trivial⟩ ?_)
        refine CX.seq ?_
        refine CX.seq ?_
        refine CX.region ?_
        refine RX.cons rfl rfl (op_w (yw_move rfl rfl) rfl rfl ?_)
        refine RX.cons rfl rfl (op_w (yw_move rfl rfl) rfl rfl ?_)
        refine RX.splitD (t := 50) (p := (Prod.fst e0) ∈ Xs) rfl (fun d50 => ?_) (fun d50 => ?_)
        · refine RX.consG rfl rfl rfl rfl rfl (op_w (yw_move rfl rfl) rfl rfl ?_)
          refine RX.consG rfl rfl rfl rfl rfl (op_w (yw_notD rfl rfl) rfl rfl ?_)
          refine RX.cons rfl rfl (op_w (yw_pickT rfl rfl rfl) rfl rfl ?_)
          refine RX.nil (XX.next (V' := [(0, _), (6, _), (7, _), (9, _), (10, _), (11, _), (12, _), (53, _)]) ⟨rfl, rfl, rfl, rfl, rfl, rfl, rfl, rfl, trivial⟩ ?_)
          refine CX.condD (p := ¬ ((Prod.snd e0) ∈ Ys)) rfl (fun c53 => ?_) (fun c53 => ?_)
          · refine CX.seq ?_
            refine CX.region ?_
            refine RX.cons rfl rfl (op_w (yw_move rfl rfl) rfl rfl ?_)
            refine RX.cons rfl rfl (op_w (yw_move rfl rfl) rfl rfl ?_)
            refine RX.cons rfl rfl (op_w (yw_move rfl rfl) rfl rfl ?_)
            refine RX.cons rfl rfl (op_w (yw_index (k := i) rfl slt_52 rfl rfl (by omega) (by omega) hA) rfl rfl ?_)
            refine RX.cons rfl rfl (op_w (yw_fieldAddr rfl fld_73_1 rfl) rfl rfl ?_)
            refine RX.cons rfl rfl (op_yld (y_elemF rfl rfl one_3 hr (by simp) (map_get he0) rfl) rfl rfl ?_)
            refine RX.cons rfl rfl (op_callE rfl rfl rfl rfl rfl ent_68 (fun w hw => w_insert Ys (Ent.rd (hw.ents _ (List.mem_of_getElem? (i := 0) rfl))) (by omega) (Prod.snd e0)) (fun ⟨⟨A3, c3⟩, Y3⟩ hY3 => ?_))
            refine RX.cons rfl rfl (op_w (yw_assign rfl rfl) rfl rfl ?_)
            refine RX.nil (XX.next (V' := [(0, _), (6, _), (7, _), (10, _), (11, _), (12, _)]) ⟨rfl, rfl, rfl, rfl, rfl, rfl, trivial⟩ ?_)
            refine CX.region ?_
            refine RX.cons rfl rfl (op_w (yw_assign rfl rfl) rfl rfl ?_)
            refine RX.nil (XX.next (V' := [(0, _), (6, _), (7, _), (9, _), (10, _), (11, _), (12, _)]) ⟨rfl, rfl, rfl, rfl, rfl, rfl, rfl, trivial⟩ ?_)
            refine CX.seq ?_
            refine CX.region ?_
            refine RX.cons rfl rfl (op_w (yw_move rfl rfl) rfl rfl ?_)
            refine RX.cons rfl rfl (op_w (yw_move rfl rfl) rfl rfl ?_)
            refine RX.splitD (t := 62) (p := (Prod.snd e0) ∈ Ys) rfl (fun d62 => ?_) (fun d62 => ?_)
            · exact absurd d62 (by simpa using c53)
            · refine RX.skip rfl rfl rfl rfl rfl rfl rfl ?_
              refine RX.skip rfl rfl rfl rfl rfl rfl rfl ?_
              refine RX.cons rfl rfl (op_w (yw_pickF rfl rfl rfl) rfl rfl ?_)
              refine RX.nil (XX.next (V' := [(0, _), (6, _), (7, _), (9, _), (10, _), (65, _)]) ⟨rfl, rfl, rfl, rfl, rfl, rfl, trivial⟩ ?_)
              refine CX.condF rfl ?_
              refine CX.skip (XX.inBlock (V' := [(0, _), (6, _), (7, _), (9, _), (10, _)]) ⟨rfl, rfl, rfl, rfl, rfl, trivial⟩ ?_)
              refine XX.next (V' := [(0, _), (6, _), (7, _), (9, _), (10, _)]) ⟨rfl, rfl, rfl, rfl, rfl, trivial⟩ ?_
              refine CX.region ?_
              refine RX.cons rfl rfl (op_w (yw_move rfl rfl) rfl rfl ?_)
              refine RX.cons rfl rfl (op_w (yw_add rfl rfl rfl (by omega) (by omega)) rfl rfl ?_)
              refine RX.cons rfl rfl (op_w (yw_assign rfl rfl) rfl rfl ?_)
              refine RX.nil (XX.againP ([.row B2 d2 3 1 (List.map iR Ys)]) (i + 1, true, ((B1, d1), Xs), ((A3, c3), Y3)) (by dsimp only; omega) ⟨by dsimp only; omega, (hC.dev he0m d50 c53 hY3.1 hY3.2).1, fun _ => Nat.lt_of_lt_of_le (hC.dev he0m d50 c53 hY3.1 hY3.2).2 hle, fun h => by cases h⟩ ⟨rfl, rfl, rfl, rfl, rfl, trivial⟩ ((perm_pick 0 rfl).trans (List.Perm.cons _ ((perm_pick 1 rfl).trans (List.Perm.cons _ (List.Perm.refl _))))))
          · refine CX.skip (XX.next (V' := [(0, _), (6, _), (7, _), (9, _), (10, _), (11, _), (12, _)]) ⟨rfl, rfl, rfl, rfl, rfl, rfl, rfl, trivial⟩ ?_)
            refine CX.seq ?_
            refine CX.region ?_
            refine RX.cons rfl rfl (op_w (yw_move rfl rfl) rfl rfl ?_)
            refine RX.cons rfl rfl (op_w (yw_move rfl rfl) rfl rfl ?_)
            refine RX.splitD (t := 62) (p := (Prod.snd e0) ∈ Ys) rfl (fun d62 => ?_) (fun d62 => ?_)
            · refine RX.consG rfl rfl rfl rfl rfl (op_w (yw_move rfl rfl) rfl rfl ?_)
              refine RX.consG rfl rfl rfl rfl rfl (op_w (yw_notD rfl rfl) rfl rfl ?_)
              refine RX.cons rfl rfl (op_w (yw_pickT rfl rfl rfl) rfl rfl ?_)
              refine RX.nil (XX.next (V' := [(0, _), (6, _), (7, _), (9, _), (10, _), (65, _)]) ⟨rfl, rfl, rfl, rfl, rfl, rfl, trivial⟩ ?_)
              refine CX.condD (p := ¬ ((Prod.fst e0) ∈ Xs)) rfl (fun c65 => ?_) (fun c65 => ?_)
              · exact absurd d50 c65
              · refine CX.skip (XX.inBlock (V' := [(0, _), (6, _), (7, _), (9, _), (10, _)]) ⟨rfl, rfl, rfl, rfl, rfl, trivial⟩ ?_)
                refine XX.next (V' := [(0, _), (6, _), (7, _), (9, _), (10, _)]) ⟨rfl, rfl, rfl, rfl, rfl, trivial⟩ ?_
                refine CX.region ?_
                refine RX.cons rfl rfl (op_w (yw_move rfl rfl) rfl rfl ?_)
                refine RX.cons rfl rfl (op_w (yw_add rfl rfl rfl (by omega) (by omega)) rfl rfl ?_)
                refine RX.cons rfl rfl (op_w (yw_assign rfl rfl) rfl rfl ?_)
                refine RX.nil (XX.againP ([]) (i + 1, mr, ((B1, d1), Xs), ((B2, d2), Ys)) (by dsimp only; omega) ⟨by dsimp only; omega, hC, hmr, fun h => ⟨(hst h).1, closed_snoc he0 (hst h).2 ⟨fun _ => d62, fun _ => d50⟩⟩⟩ ⟨rfl, rfl, rfl, rfl, rfl, trivial⟩ ((perm_pick 0 rfl).trans (List.Perm.cons _ ((perm_pick 0 rfl).trans (List.Perm.cons _ (List.Perm.refl _))))))
            · exact absurd d62 (by simpa using c53)
        · refine RX.skip rfl rfl rfl rfl rfl rfl rfl ?_
          refine RX.skip rfl rfl rfl rfl rfl rfl rfl ?_
          refine RX.cons rfl rfl (op_w (yw_pickF rfl rfl rfl) rfl rfl ?_)
          refine RX.nil (XX.next (V' := [(0, _), (6, _), (7, _), (9, _), (10, _), (11, _), (12, _), (53, _)]) ⟨rfl, rfl, rfl, rfl, rfl, rfl, rfl, rfl, trivial⟩ ?_)
          refine CX.condF rfl ?_
          refine CX.skip (XX.next (V' := [(0, _), (6, _), (7, _), (9, _), (10, _), (11, _), (12, _)]) ⟨rfl, rfl, rfl, rfl, rfl, rfl, rfl, trivial⟩ ?_)
          refine CX.seq ?_
          refine CX.region ?_
          refine RX.cons rfl rfl (op_w (yw_move rfl rfl) rfl rfl ?_)
          refine RX.cons rfl rfl (op_w (yw_move rfl rfl) rfl rfl ?_)
          refine RX.splitD (t := 62) (p := (Prod.snd e0) ∈ Ys) rfl (fun d62 => ?_) (fun d62 => ?_)
          · refine RX.consG rfl rfl rfl rfl rfl (op_w (yw_move rfl rfl) rfl rfl ?_)
            refine RX.consG rfl rfl rfl rfl rfl (op_w (yw_notD rfl rfl) rfl rfl ?_)
            refine RX.cons rfl rfl (op_w (yw_pickT rfl rfl rfl) rfl rfl ?_)
            refine RX.nil (XX.next (V' := [(0, _), (6, _), (7, _), (9, _), (10, _), (65, _)]) ⟨rfl, rfl, rfl, rfl, rfl, rfl, trivial⟩ ?_)
            refine CX.condD (p := ¬ ((Prod.fst e0) ∈ Xs)) rfl (fun c65 => ?_) (fun c65 => ?_)
            · refine CX.seq ?_
              refine CX.region ?_
              refine RX.cons rfl rfl (op_w (yw_move rfl rfl) rfl rfl ?_)
              refine RX.cons rfl rfl (op_w (yw_move rfl rfl) rfl rfl ?_)
              refine RX.cons rfl rfl (op_w (yw_move rfl rfl) rfl rfl ?_)
              refine RX.cons rfl rfl (op_w (yw_index (k := i) rfl slt_52 rfl rfl (by omega) (by omega) hA) rfl rfl ?_)
              refine RX.cons rfl rfl (op_w (yw_field0 rfl fld_73_0 rfl) rfl rfl ?_)
              refine RX.cons rfl rfl (op_yld (y_elemF (j := 0) rfl rfl one_3 hr (by simp) (map_get he0) rfl) rfl rfl ?_)
              refine RX.cons rfl rfl (op_callE rfl rfl rfl rfl rfl ent_68 (fun w hw => w_insert Xs (Ent.rd (hw.ents _ (List.mem_of_getElem? (i := 1) rfl))) (by omega) (Prod.fst e0)) (fun ⟨⟨A4, c4⟩, Y4⟩ hY4 => ?_))
              refine RX.cons rfl rfl (op_w (yw_assign rfl rfl) rfl rfl ?_)
              refine RX.nil (XX.next (V' := [(0, _), (6, _), (7, _), (10, _)]) ⟨rfl, rfl, rfl, rfl, trivial⟩ ?_)
              refine CX.region ?_
              refine RX.cons rfl rfl (op_w (yw_assign rfl rfl) rfl rfl ?_)
              refine RX.nil (XX.inBlock (V' := [(0, _), (6, _), (7, _), (9, _), (10, _)]) ⟨rfl, rfl, rfl, rfl, rfl, trivial⟩ ?_)
              refine XX.next (V' := [(0, _), (6, _), (7, _), (9, _), (10, _)]) ⟨rfl, rfl, rfl, rfl, rfl, trivial⟩ ?_
              refine CX.region ?_
              refine RX.cons rfl rfl (op_w (yw_move rfl rfl) rfl rfl ?_)
              refine RX.cons rfl rfl (op_w (yw_add rfl rfl rfl (by omega) (by omega)) rfl rfl ?_)
              refine RX.cons rfl rfl (op_w (yw_assign rfl rfl) rfl rfl ?_)
              refine RX.nil (XX.againP ([.row B1 d1 3 1 (List.map iR Xs)]) (i + 1, true, ((A4, c4), Y4), ((B2, d2), Ys)) (by dsimp only; omega) ⟨by dsimp only; omega, (hC.acc he0m c65 d62 hY4.1 hY4.2).1, fun _ => Nat.lt_of_lt_of_le (hC.acc he0m c65 d62 hY4.1 hY4.2).2 hle, fun h => by cases h⟩ ⟨rfl, rfl, rfl, rfl, rfl, trivial⟩ ((perm_pick 1 rfl).trans (List.Perm.cons _ ((perm_pick 0 rfl).trans (List.Perm.cons _ (List.Perm.refl _))))))
            · exact absurd d50 c65
          · refine RX.skip rfl rfl rfl rfl rfl rfl rfl ?_
            refine RX.skip rfl rfl rfl rfl rfl rfl rfl ?_
            refine RX.cons rfl rfl (op_w (yw_pickF rfl rfl rfl) rfl rfl ?_)
            refine RX.nil (XX.next (V' := [(0, _), (6, _), (7, _), (9, _), (10, _), (65, _)]) ⟨rfl, rfl, rfl, rfl, rfl, rfl, trivial⟩ ?_)
            refine CX.condF rfl ?_
            refine CX.skip (XX.inBlock (V' := [(0, _), (6, _), (7, _), (9, _), (10, _)]) ⟨rfl, rfl, rfl, rfl, rfl, trivial⟩ ?_)
            refine XX.next (V' := [(0, _), (6, _), (7, _), (9, _), (10, _)]) ⟨rfl, rfl, rfl, rfl, rfl, trivial⟩ ?_
            refine CX.region ?_
            refine RX.cons rfl rfl (op_w (yw_move rfl rfl) rfl rfl ?_)
            refine RX.cons rfl rfl (op_w (yw_add rfl rfl rfl (by omega) (by omega)) rfl rfl ?_)
            refine RX.cons rfl rfl (op_w (yw_assign rfl rfl) rfl rfl ?_)
            refine RX.nil (XX.againP ([]) (i + 1, mr, ((B1, d1), Xs), ((B2, d2), Ys)) (by dsimp only; omega) ⟨by dsimp only; omega, hC, hmr, fun h => ⟨(hst h).1, closed_snoc he0 (hst h).2 ⟨fun h => absurd h d50, fun h => absurd h d62⟩⟩⟩ ⟨rfl, rfl, rfl, rfl, rfl, trivial⟩ ((perm_pick 0 rfl).trans (List.Perm.cons _ ((perm_pick 0 rfl).trans (List.Perm.cons _ (List.Perm.refl _))))))
      · refine CX.exit ?_
        refine XX.then_exit ?_
        refine XX.then_exit ?_
        refine XX.block_exit ?_
        refine XX.inBlock (V' := [(0, _), (6, _), (7, _), (9, _)]) ⟨rfl, rfl, rfl, rfl, trivial⟩ ?_
        refine XX.againP ([]) (mr, ((B1, d1), Xs), ((B2, d2), Ys)) (by dsimp only; rw [c28]; cases mr with | true => (have := hmr rfl; simp only [Bool.toNat_true]; omega) | false => (rw [(hst rfl).1.1, (hst rfl).1.2]; simp only [Bool.toNat_true, Bool.toNat_false]; omega)) ⟨hC, fun h => by have := (hst h).2; rwa [List.take_of_length_le (by omega)] at this⟩ ⟨rfl, rfl, rfl, rfl, trivial⟩ ((perm_pick 0 rfl).trans (List.Perm.cons _ ((perm_pick 0 rfl).trans (List.Perm.cons _ (List.Perm.refl _)))))
    · refine CX.exit ?_
      refine XX.then_exit ?_
      refine XX.then_exit ?_
      refine XX.block_exit ?_
      refine XX.next (V' := [(6, _), (7, _)]) ⟨rfl, rfl, trivial⟩ ?_
      refine CX.seq ?_
      refine CX.region ?_
      refine RX.cons rfl rfl (op_w (yw_move rfl rfl) rfl rfl ?_)
      refine RX.cons rfl rfl (op_w (yw_move rfl rfl) rfl rfl ?_)
      refine RX.cons rfl rfl (op_w (yw_assign rfl rfl) rfl rfl ?_)
      refine RX.cons rfl rfl (op_w (yw_assign rfl rfl) rfl rfl ?_)
      refine RX.nil (XX.next (V' := [(4, .slice A1 (List.length (As : List Int)) c1), (5, .slice A2 (List.length (Ds : List Int)) c2)]) ⟨rfl, rfl, trivial⟩ ?_)
      refine CX.ret ?_
      exact ret_tmp2 rfl rfl rfl fun w1 hw => ⟨(((A1, c1), As), ((A2, c2), Ds)), ⟨hC.done (hcl (by simpa using c28)), by have := hC.n1; dsimp only; omega⟩, rfl, hw.pick ((perm_pick 1 rfl).trans (List.Perm.cons _ ((perm_pick 0 rfl).trans (List.Perm.cons _ (List.Perm.refl _)))))⟩

end Go.Proofs.Ytpcfgoadkfajfaa
namespace Go.Proofs.Ytpcfgoadkfajfaa
set_option linter.all false
open Go Go.RowKit

/-- A loop's record. -/
def mkRec (fn : FuncId) (tmps : Array Value) (ps : Array Tmp) (assign body : Code) (Dk : Nat) : Loop := { state := .ready, pending := none, fn, tmps, params := ps, assign, body, defers := Dk }
abbrev RB (l Dk : Nat) (rec : Loop) : List Ent := [.blk l (.loop rec), .blk Dk (.deferred (some []))]

section
variable {P : Program} {w0 : World} {O : List Nat} {n : Nat} {D : List Deferred} {o : Oper} {V : List (Nat × Value)} {L : List Ent} {T : List (Nat × Value) → List Ent → Prop} {Q : Exit → Act → World → Prop}

theorem CX.scope {c : Code} (h : CX P none (Exit.noGoto Q) w0 O n D c V L) : CX P none Q w0 O n D (.scope c) V L :=
  fun a w ha hw => wpIn_wide.2 (wp_scope_straight (wpIn_wide.1 (h a w ha hw)))
theorem XX.scope_normal (h : XX Q w0 O n D .normal V L) : XX (Exit.noGoto Q) w0 O n D .normal V L := h
theorem XX.scope_ret (h : XX Q w0 O n D .ret V L) : XX (Exit.noGoto Q) w0 O n D .ret V L := h

/-- A call of yield. -/
theorem op_yield {f : Operand} {xs : Array Operand} {ts : Array TypeId} {l d : Nat} {vs : List Value} {σ : Type} {LL : σ → List Ent} {post : σ → Prop} (M R : List Ent)
    (ho : o.op = .call { callee := .value f, args := xs, argTypes := ts }) (hd : o.dst = some d) (hdn : Nat.blt d n = true) (hf : ev V f = some (.func (.yield l) #[] #[])) (hx : evs V xs.toList = some vs) (hL : L.Perm (M ++ R))
    (hc : ∀ w, SL w0 O w (M ++ R) → SL w (M.flatMap Ent.blocks) w M → ∃ f tmps asg body, (Instr.yield l vs.toArray).run P w = .ok (.round l f tmps asg body) w ∧
      RoundIn Fence.wide 0 P l f tmps asg body w fun e w' => ∃ x, post x ∧ e = .returned (.bool true) ∧ SL w (M.flatMap Ent.blocks) w' (LL x))
    (hT : ∀ x, post x → T ((d, .bool true) :: V) (LL x ++ R)) : OpS P w0 O n D o V L T := by
  intro a w ha hw
  have hw' := hw.perm hL
  obtain ⟨f', tmps, asg, body, hy, hr⟩ := hc w hw' (hw'.restart (List.Perm.refl _))
  have h1 := ha.evals hx
  have e1 : xs.map a.eval = vs.toArray := Array.ext' (by simpa using h1)
  have hrun : (execOp a.eval o).run P w = .ok (.round l f' tmps asg body) w := by
    simp only [execOp, ho, resolve, ha.eval hf, Deferred.ofValue, e1]
    simp only [Sem.run_bind, Sem.run_pure, Result.andThen_ok, invoke]
    simpa using hy
  unfold Does
  rw [hrun, hd]
  refine RoundIn.mono hr ?_
  rintro e w'' ⟨x, hp, he, hs⟩
  exact ⟨_, he, _, _, hT x hp, ha.put hdn _, hw'.call rfl hs⟩

theorem putObj_SL {w : World} (h : SL w0 O w L) {i g : Nat} {ob : Obj} (hL : L[i]? = some (.blk g ob)) (o' : Obj) : SL w0 O (w.putObj g o') (L.set i (.blk g o')) := by
  have hg : w.heap[g]? = some ob := h.ents _ (List.mem_of_getElem? hL)
  exact h.setB hL o' rfl rfl rfl (by simp [World.putObj]) (World.putObj_heap_same (Array.getElem?_eq_some_iff.1 hg).1) (fun k hk => World.putObj_heap_other hk)

/-- One round, out of the walks of the assignment and of the body. -/
theorem round_of_CX {w : World} {l Dk p : Nat} {rec : Loop} {v : Value} {M : List Ent} {V0 : List (Nat × Value)} {σ τ : Type} (V1 : σ → List (Nat × Value)) (L1 : σ → List Ent) (I1 : σ → Prop) {LL : τ → List Ent} {post : τ → Prop}
    (hst : rec.state = .ready) (hpe : rec.pending = none) (hps : rec.params = #[p]) (hV : Holds n [] { tmps := rec.tmps.setIfInBounds p v, defers := [] } V0)
    (hA : CX P (some l) (Met V1 (fun x => RB l Dk rec ++ L1 x) I1 w O n []) w O n [] rec.assign V0 (RB l Dk rec ++ M))
    (hB : ∀ x, I1 x → CX P (some l) (Met (fun _ => []) (fun y => RB l Dk { rec with state := .busy } ++ LL y) post w O n []) w O n [] rec.body (V1 x) (RB l Dk { rec with state := .busy } ++ L1 x))
    (hw : SL w O w (RB l Dk rec ++ M)) :
    ∃ f tmps asg body, (Instr.yield l #[v]).run P w = .ok (.round l f tmps asg body) w ∧
      RoundIn Fence.wide 0 P l f tmps asg body w fun e w' => ∃ y, post y ∧ e = .returned (.bool true) ∧ SL w O w' (RB l Dk rec ++ LL y) := by
  have hl : w.heap[l]? = some (.loop rec) := hw.ents (.blk l (.loop rec)) (by simp)
  have hy := run_yield (P := P) (args := #[v]) hl (by simp [hps])
  have e : (rec.params.zip #[v]).foldl (fun tmps (t, a) => tmps.setIfInBounds t a) rec.tmps = rec.tmps.setIfInBounds p v := by simp [hps]
  rw [e] at hy
  refine ⟨_, _, _, _, hy, roundIn_of_wpIn (F := Fence.wide) trivial ?_⟩
  refine wpIn_mono (hA _ w hV hw) ?_
  rintro e a1 w1 ⟨rfl, x, hI, ha1, hw1⟩
  have hl1 : w1.heap[l]? = some (.loop rec) := hw1.ents (.blk l (.loop rec)) (by simp)
  refine ⟨_, run_beginRound hl1 hst, ?_⟩
  have hw2 : SL w O (w1.putObj l (.loop { rec with state := .busy })) (RB l Dk { rec with state := .busy } ++ L1 x) := putObj_SL (i := 0) hw1 rfl _
  refine wpIn_mono (hB x hI a1 _ ha1 hw2) ?_
  rintro e a3 w3 ⟨rfl, y, hp, _, hw3⟩
  have hl3 : w3.heap[l]? = some (.loop { rec with state := .busy }) := hw3.ents (.blk l (.loop { rec with state := .busy })) (by simp)
  have hr3 := run_endRound (P := P) none hl3
  have e3 : ({ ({ rec with state := .busy } : Loop) with state := if (none : Option Code).isNone then .ready else .done, pending := none } : Loop) = rec := by
    cases rec; simp at hst hpe; simp [hst, hpe]
  rw [e3] at hr3
  exact ⟨_, _, hr3, y, hp, rfl, putObj_SL (i := 0) hw3 rfl _⟩

theorem CX.rangeFunc {g : Operand} {ps : Array Tmp} {asg body : Code} {gf : Nat} {cap : Array Value} {σ : Type} {LL : σ → List Ent} {post : σ → Prop} (M R : List Ent) (hL : L.Perm (M ++ R)) (hg : ev V g = some (.func (.func gf) #[] cap))
    (ent : ∀ args w, (callFunc gf args).run P w = .ok (.enter gf args) w)
    (hc : ∀ (l Dk fn : Nat) (a : Act) (w : World), Holds n D a V → SL w0 O w (RB l Dk (mkRec fn a.tmps ps asg body Dk) ++ (M ++ R)) → SL w ((RB l Dk (mkRec fn a.tmps ps asg body Dk) ++ M).flatMap Ent.blocks) w (RB l Dk (mkRec fn a.tmps ps asg body Dk) ++ M) →
      Calls P gf (#[.func (.yield l) #[] #[]] ++ cap) w fun e w' => ∃ x, post x ∧ (∃ v, e = .returned v) ∧ SL w ((RB l Dk (mkRec fn a.tmps ps asg body Dk) ++ M).flatMap Ent.blocks) w' (RB l Dk (mkRec fn a.tmps ps asg body Dk) ++ LL x))
    (hT : ∀ x l Dk ob, post x → XX Q w0 O n ({ target := .collected Dk, args := #[] } :: D) .normal V (.blk l ob :: .blk Dk (.deferred (some [])) :: (LL x ++ R))) :
    CX P none Q w0 O n D (.rangeFunc g ps asg body) V L := by
  intro a w ha hw
  refine wpIn_rangeFunc (F := FW none) fun fn _ => ?_
  obtain ⟨W1, hW1⟩ : ∃ W1, (w.alloc (.deferred (some []))).alloc (.loop (mkRec fn a.tmps ps asg body w.heap.size)) = W1 := ⟨_, rfl⟩
  have hs1 : SL w0 O W1 (RB (w.heap.size + 1) w.heap.size (mkRec fn a.tmps ps asg body w.heap.size) ++ (M ++ R)) := by
    have := ((hw.perm hL).alloc (.deferred (some []))).alloc (.loop (mkRec fn a.tmps ps asg body w.heap.size))
    rw [World.size_alloc, hW1] at this
    exact this
  refine ⟨w.heap.size + 1, [{ target := .collected w.heap.size, args := #[] }], W1, { target := .fn (.func gf) cap, args := #[.func (.yield (w.heap.size + 1)) #[] #[]] }, W1, gf,
    #[.func (.yield (w.heap.size + 1)) #[] #[]] ++ cap, W1, ?_, ?_, ?_, ?_, ?_, ?_⟩
  · rw [← hW1]; exact run_enterLoop_outer _ _ _ _ _
  · simp only [resolve, ha.eval hg]
    simp [Deferred.ofValue, Act.eval]
  · intro f' _; trivial
  · simp [invoke, ent]
  · intro hh; simp [Fence.wide] at hh
  · have hr := hc (w.heap.size + 1) w.heap.size fn a W1 ha hs1 (hs1.restart (by rw [List.append_assoc]))
    refine CallsIn.mono (callsIn_wide.2 hr) ?_
    rintro e w' ⟨x, hp, ⟨v, rfl⟩, hs⟩
    have hs' : SL w0 O w' ((RB (w.heap.size + 1) w.heap.size (mkRec fn a.tmps ps asg body w.heap.size) ++ LL x) ++ R) := SL.call (M := RB (w.heap.size + 1) w.heap.size (mkRec fn a.tmps ps asg body w.heap.size) ++ M) (by rw [List.append_assoc]; exact hs1) rfl hs
    have hl : w'.heap[w.heap.size + 1]? = some (.loop (mkRec fn a.tmps ps asg body w.heap.size)) := hs'.ents (.blk (w.heap.size + 1) (.loop _)) (by simp)
    have hend := run_endLoop (P := P) hl (by simp [mkRec])
    refine ⟨none, _, hend, ?_⟩
    exact hT x (w.heap.size + 1) w.heap.size _ hp _ _ ⟨by rw [← ha.defers]; rfl, ha.size, ha.at_⟩ (putObj_SL (i := 0) hs' rfl _)
end

/-! ### The end of a function that holds a range -/
section
variable {P : Program} {w0 : World} {O : List Nat} {L : List Ent} {fn : Func} {R : Ending → World → Prop} {n : Nat} {V : List (Nat × Value)}

theorem calls_of_CXM {f : FuncId} {c : Code} {args : List Value} (hf : P.funcs[f]? = some fn) (hb : fn.body = some c) (hn : args.length ≤ fn.ntmps) (hs : SL w0 O w0 L)
    (h : CX P none (bodyPostM Fence.wide 0 P fn R) w0 O fn.ntmps [] c (initV 0 args) L) : Calls P f args.toArray w0 R := by
  refine callsIn_wide.1 (callsIn_of_wp_marks (F := Fence.wide) (n := 0) hf hb trivial ?_ rfl)
  have := h _ w0 (Holds.init hn) hs
  simpa [FW_wide] using this

/-- A result of one cell lies in a block; the rounds' block is shut. -/
theorem ret_cellM {t g i Dk k : Nat} {tt : TypeId} {v : Value} {te : TypeId} {fr : Nat × Nat} (hr : fn.results = #[.cell t tt]) (hv : lk V t = some (.pointer (some ⟨g, 0, none⟩))) (h1 : One P tt) (hD : L[k]? = some (.blk Dk (.deferred (some [])))) (hL : (L.set k (.blk Dk (.deferred none)))[i]? = some (.blk g (.cells #[v] te fr)))
    (h : ∀ w, SL w0 O w (L.set k (.blk Dk (.deferred none))) → R (.returned v) w) : XX (bodyPostM Fence.wide 0 P fn R) w0 O n [{ target := .collected Dk, args := #[] }] .ret V L := by
  intro a w ha hw
  have hp := ha.at_ _ _ hv
  have hDk : w.heap[Dk]? = some (.deferred (some [])) := hw.ents _ (List.mem_of_getElem? hD)
  have hw' := putObj_SL hw hD (.deferred none)
  have hg : (w.putObj Dk (.deferred none)).heap[g]? = some (.cells #[v] te fr) := hw'.ents _ (List.mem_of_getElem? hL)
  have hc : (w.putObj Dk (.deferred none)).cell? ⟨g, 0, none⟩ = some v := by rw [cell_of_row _ g 0 #[v] te fr hg]; rfl
  show LeavesInM Fence.wide 0 P fn a.tmps R a.defers .returning w
  rw [ha.defers]
  refine ⟨by simp, .inl ⟨Dk, _, rfl, run_takeDeferred hDk, ?_⟩⟩
  refine ⟨v, ?_, h _ hw'⟩
  simp [results, hr, hp, asAddr, run_load_one h1 hc]
end
end Go.Proofs.Ytpcfgoadkfajfaa
namespace Go.Proofs.Ytpcfgoadkfajfaa
set_option linter.all false
open Go Go.RowKit
theorem perm_nil {α : Type} (l : List α) : l.Perm (l ++ []) := by rw [List.append_nil]
section
variable {P : Program} {w0 : World} {O : List Nat} {n : Nat} {D : List Deferred} {o : Oper} {V : List (Nat × Value)} {L : List Ent} {T : List (Nat × Value) → List Ent → Prop} {Q : Exit → Act → World → Prop}
/-- A round takes the loop from state s to a state s' with Rl s x s'; outside the loop's blocks Ob the world is still the world wb in which the iterator was called. -/
def YieldG (P : Program) (wb : World) (Ob : List Nat) (l Dk : Nat) (rec : Loop) {σ : Type} (St : σ → List Ent) (Rl : σ → List Value → σ → Prop) (ok : List Value → Prop) : Prop :=
  ∀ (s : σ) (x : List Value) (w : World), ok x → (∀ k, k < wb.heap.size → k ∉ Ob → w.heap[k]? = wb.heap[k]?) → SL w ((RB l Dk rec ++ St s).flatMap Ent.blocks) w (RB l Dk rec ++ St s) →
    ∃ f tmps asg body, (Instr.yield l x.toArray).run P w = .ok (.round l f tmps asg body) w ∧ RoundIn Fence.wide 0 P l f tmps asg body w fun e w' => ∃ s', Rl s x s' ∧ e = .returned (.bool true) ∧ SL w ((RB l Dk rec ++ St s).flatMap Ent.blocks) w' (RB l Dk rec ++ St s')
/-- .. what may be handed over hangs on the state. -/
def YieldS (P : Program) (wb : World) (Ob : List Nat) (l Dk : Nat) (rec : Loop) {σ : Type} (St : σ → List Ent) (Rl : σ → List Value → σ → Prop) (ok : σ → List Value → Prop) : Prop :=
  ∀ (s : σ) (x : List Value) (w : World), ok s x → (∀ k, k < wb.heap.size → k ∉ Ob → w.heap[k]? = wb.heap[k]?) → SL w ((RB l Dk rec ++ St s).flatMap Ent.blocks) w (RB l Dk rec ++ St s) →
    ∃ f tmps asg body, (Instr.yield l x.toArray).run P w = .ok (.round l f tmps asg body) w ∧ RoundIn Fence.wide 0 P l f tmps asg body w fun e w' => ∃ s', Rl s x s' ∧ e = .returned (.bool true) ∧ SL w ((RB l Dk rec ++ St s).flatMap Ent.blocks) w' (RB l Dk rec ++ St s')
/-- The rounds over a list of items. -/
inductive Steps {σ : Type} (Rl : σ → List Value → σ → Prop) : σ → List (List Value) → σ → Prop
  | nil (s : σ) : Steps Rl s [] s
  | snoc {s s' s'' : σ} {xs : List (List Value)} {x : List Value} : Steps Rl s xs s' → Rl s' x s'' → Steps Rl s (xs ++ [x]) s''
theorem op_yieldG {f : Operand} {xs : Array Operand} {ts : Array TypeId} {l Dk d : Nat} {vs : List Value} {rec : Loop} {σ : Type} {St : σ → List Ent} {Rl : σ → List Value → σ → Prop} {ok : List Value → Prop} (s : σ) (hy : YieldG P w0 O l Dk rec St Rl ok)
    (ho : o.op = .call { callee := .value f, args := xs, argTypes := ts }) (hd : o.dst = some d) (hdn : Nat.blt d n = true) (hf : ev V f = some (.func (.yield l) #[] #[])) (hx : evs V xs.toList = some vs) (hok : ok vs) (hL : L = RB l Dk rec ++ St s)
    (hT : ∀ s', Rl s vs s' → T ((d, .bool true) :: V) (RB l Dk rec ++ St s')) : OpS P w0 O n D o V L T := by
  subst hL
  refine op_yield (σ := σ) (LL := fun s' => RB l Dk rec ++ St s') (post := fun s' => Rl s vs s') (RB l Dk rec ++ St s) [] ho hd hdn hf hx (by rw [List.append_nil]) (fun w hw hs => ?_) (fun s' h => ?_)
  · obtain ⟨f', tmps, asg, body, h1, h2⟩ := hy s vs w hok hw.same hs
    exact ⟨f', tmps, asg, body, h1, h2.mono fun e w' ⟨s', a, b, c⟩ => ⟨s', a, b, c⟩⟩
  · rw [List.append_nil]; exact hT s' h
/-- .. of an iterator that has blocks of its own. -/
theorem op_yieldGR {f : Operand} {xs : Array Operand} {ts : Array TypeId} {l Dk d : Nat} {vs : List Value} {rec : Loop} {σ : Type} {St : σ → List Ent} {Rl : σ → List Value → σ → Prop} {ok : σ → List Value → Prop} (s : σ) (R : List Ent) (hy : YieldS P w0 O l Dk rec St Rl ok)
    (ho : o.op = .call { callee := .value f, args := xs, argTypes := ts }) (hd : o.dst = some d) (hdn : Nat.blt d n = true) (hf : ev V f = some (.func (.yield l) #[] #[])) (hx : evs V xs.toList = some vs) (hok : ok s vs) (hL : L = RB l Dk rec ++ (R ++ St s))
    (hT : ∀ s', Rl s vs s' → T ((d, .bool true) :: V) (RB l Dk rec ++ (R ++ St s'))) : OpS P w0 O n D o V L T := by
  subst hL
  have hp : ∀ s', ((RB l Dk rec ++ St s') ++ R).Perm (RB l Dk rec ++ (R ++ St s')) := fun s' => by
    rw [List.append_assoc]
    exact List.Perm.append_left _ List.perm_append_comm
  have h := op_yield (P := P) (w0 := w0) (O := O) (n := n) (D := D) (o := o) (V := V) (T := fun V' L' => ∃ s', Rl s vs s' ∧ V' = (d, .bool true) :: V ∧ L' = (RB l Dk rec ++ St s') ++ R) (σ := σ) (LL := fun s' => RB l Dk rec ++ St s') (post := fun s' => Rl s vs s') (RB l Dk rec ++ St s) R ho hd hdn hf hx (hp s).symm (fun w hw hs => by
    obtain ⟨f', tmps, asg, body, h1, h2⟩ := hy s vs w hok hw.same hs
    exact ⟨f', tmps, asg, body, h1, h2.mono fun e w' ⟨s', a, b, c⟩ => ⟨s', a, b, c⟩⟩) (fun s' h => ⟨s', h, rfl, rfl⟩)
  intro a w ha hw
  refine Does.mono (h a w ha hw) ?_
  rintro a' w' ⟨V', L', ⟨s', h1, rfl, rfl⟩, h2, h3⟩
  exact ⟨_, _, hT s' h1, h2, h3.perm (hp s')⟩

/-- One round of a range with two variables. -/
theorem round_of_CX2 {w : World} {l Dk p q : Nat} {rec : Loop} {v u : Value} {M : List Ent} {V0 : List (Nat × Value)} {σ τ : Type} (V1 : σ → List (Nat × Value)) (L1 : σ → List Ent) (I1 : σ → Prop) {LL : τ → List Ent} {post : τ → Prop}
    (hst : rec.state = .ready) (hpe : rec.pending = none) (hps : rec.params = #[p, q]) (hV : Holds n [] { tmps := (rec.tmps.setIfInBounds p v).setIfInBounds q u, defers := [] } V0)
    (hA : CX P (some l) (Met V1 (fun x => RB l Dk rec ++ L1 x) I1 w O n []) w O n [] rec.assign V0 (RB l Dk rec ++ M))
    (hB : ∀ x, I1 x → CX P (some l) (Met (fun _ => []) (fun y => RB l Dk { rec with state := .busy } ++ LL y) post w O n []) w O n [] rec.body (V1 x) (RB l Dk { rec with state := .busy } ++ L1 x))
    (hw : SL w O w (RB l Dk rec ++ M)) :
    ∃ f tmps asg body, (Instr.yield l #[v, u]).run P w = .ok (.round l f tmps asg body) w ∧
      RoundIn Fence.wide 0 P l f tmps asg body w fun e w' => ∃ y, post y ∧ e = .returned (.bool true) ∧ SL w O w' (RB l Dk rec ++ LL y) := by
  have hl : w.heap[l]? = some (.loop rec) := hw.ents (.blk l (.loop rec)) (by simp)
  have hy := run_yield (P := P) (args := #[v, u]) hl (by simp [hps])
  have e : (rec.params.zip #[v, u]).foldl (fun tmps (t, a) => tmps.setIfInBounds t a) rec.tmps = (rec.tmps.setIfInBounds p v).setIfInBounds q u := by simp [hps]
  rw [e] at hy
  refine ⟨_, _, _, _, hy, roundIn_of_wpIn (F := Fence.wide) trivial ?_⟩
  refine wpIn_mono (hA _ w hV hw) ?_
  rintro e a1 w1 ⟨rfl, x, hI, ha1, hw1⟩
  have hl1 : w1.heap[l]? = some (.loop rec) := hw1.ents (.blk l (.loop rec)) (by simp)
  refine ⟨_, run_beginRound hl1 hst, ?_⟩
  have hw2 : SL w O (w1.putObj l (.loop { rec with state := .busy })) (RB l Dk { rec with state := .busy } ++ L1 x) := putObj_SL (i := 0) hw1 rfl _
  refine wpIn_mono (hB x hI a1 _ ha1 hw2) ?_
  rintro e a3 w3 ⟨rfl, y, hp, _, hw3⟩
  have hl3 : w3.heap[l]? = some (.loop { rec with state := .busy }) := hw3.ents (.blk l (.loop { rec with state := .busy })) (by simp)
  have hr3 := run_endRound (P := P) none hl3
  have e3 : ({ ({ rec with state := .busy } : Loop) with state := if (none : Option Code).isNone then .ready else .done, pending := none } : Loop) = rec := by
    cases rec; simp at hst hpe; simp [hst, hpe]
  rw [e3] at hr3
  exact ⟨_, _, hr3, y, hp, rfl, putObj_SL (i := 0) hw3 rfl _⟩
end

/-! ### The end of a function that holds a range: results in slots -/
section
variable {P : Program} {w0 : World} {O : List Nat} {L : List Ent} {fn : Func} {R : Ending → World → Prop} {n : Nat} {V : List (Nat × Value)}
theorem ret_tmpM {t Dk k : Nat} {v : Value} (hr : fn.results = #[.tmp t]) (hv : lk V t = some v) (hD : L[k]? = some (.blk Dk (.deferred (some []))))
    (h : ∀ w, SL w0 O w (L.set k (.blk Dk (.deferred none))) → R (.returned v) w) : XX (bodyPostM Fence.wide 0 P fn R) w0 O n [{ target := .collected Dk, args := #[] }] .ret V L := by
  intro a w ha hw
  have hp := ha.at_ _ _ hv
  have hDk : w.heap[Dk]? = some (.deferred (some [])) := hw.ents _ (List.mem_of_getElem? hD)
  have hw' := putObj_SL hw hD (.deferred none)
  show LeavesInM Fence.wide 0 P fn a.tmps R a.defers .returning w
  rw [ha.defers]
  refine ⟨by simp, .inl ⟨Dk, _, rfl, run_takeDeferred hDk, ?_⟩⟩
  refine ⟨v, ?_, h _ hw'⟩
  simp [results, hr, hp]
theorem ret_tmpM0 {t : Nat} {v : Value} (hr : fn.results = #[.tmp t]) (hv : lk V t = some v) (h : ∀ w, SL w0 O w L → R (.returned v) w) : XX (bodyPostM Fence.wide 0 P fn R) w0 O n [] .ret V L := by
  intro a w ha hw
  have hp := ha.at_ _ _ hv
  show LeavesInM Fence.wide 0 P fn a.tmps R a.defers .returning w
  rw [ha.defers]
  refine ⟨v, ?_, h _ hw⟩
  simp [results, hr, hp]
theorem ret_tmp2M {t t' Dk k : Nat} {v v' : Value} (hr : fn.results = #[.tmp t, .tmp t']) (hv : lk V t = some v) (hv' : lk V t' = some v') (hD : L[k]? = some (.blk Dk (.deferred (some []))))
    (h : ∀ w, SL w0 O w (L.set k (.blk Dk (.deferred none))) → R (.returned (.tuple #[v, v'])) w) : XX (bodyPostM Fence.wide 0 P fn R) w0 O n [{ target := .collected Dk, args := #[] }] .ret V L := by
  intro a w ha hw
  have hp := ha.at_ _ _ hv
  have hp' := ha.at_ _ _ hv'
  have hDk : w.heap[Dk]? = some (.deferred (some [])) := hw.ents _ (List.mem_of_getElem? hD)
  have hw' := putObj_SL hw hD (.deferred none)
  show LeavesInM Fence.wide 0 P fn a.tmps R a.defers .returning w
  rw [ha.defers]
  refine ⟨by simp, .inl ⟨Dk, _, rfl, run_takeDeferred hDk, ?_⟩⟩
  refine ⟨.tuple #[v, v'], ?_, h _ hw'⟩
  simp [results, hr, hp, hp']
end
end Go.Proofs.Ytpcfgoadkfajfaa
namespace Go.Proofs.Ytpcfgoadkfajfaa
set_option linter.all false
open Go Go.RowKit
section
variable {w0 w : World} {O : List Nat} {M R : List Ent}
/-- Blocks that the call has made. -/
theorem SL.fresh {L : List Ent} (h : SL w0 [] w L) {M : List Ent} (hM : M ⊆ L) {b : Nat} (hb : b < w0.heap.size) : b ∉ M.flatMap Ent.blocks := by
  intro hm
  obtain ⟨p, hp, hbp⟩ := List.mem_flatMap.1 hm
  rcases h.own p (hM hp) b hbp with h1 | h1
  · simp at h1
  · omega
theorem SL.apart (h : SL w0 O w (M ++ R)) (i : Nat) {q : Ent} (hq : R[i]? = some q) {b : Nat} (hb : b ∈ q.blocks) : b ∉ M.flatMap Ent.blocks := by
  intro hm
  have hn := h.nodup
  rw [List.flatMap_append, List.nodup_append] at hn
  exact hn.2.2 b hm b (List.mem_flatMap.2 ⟨q, List.mem_of_getElem? hq, hb⟩) rfl
theorem SL.apartA (h : SL w0 O w (M ++ R)) (h0 : 0 ∉ M.flatMap Ent.blocks) (i : Nat) {A : Option Addr} {cap : Nat} {e : TypeId} {sz : Nat} {xs : List (Array Value)} (hq : R[i]? = some (.row A cap e sz xs)) : ab A ∉ M.flatMap Ent.blocks := by
  cases A with
  | none => exact h0
  | some a => exact h.apart i hq (b := a.block) (by simp [Ent.blocks])
end
theorem Holds.round {n : Nat} {D : List Deferred} {a : Act} {V : List (Nat × Value)} (h : Holds n D a V) (p : Nat) (hp : Nat.blt p n = true) (v : Value) : Holds n [] { tmps := a.tmps.setIfInBounds p v, defers := [] } ((p, v) :: V) := by
  have := h.put hp v
  exact ⟨rfl, this.size, this.at_⟩
theorem SL.keepC {w0 w : World} {O : List Nat} {L : List Ent} (h : SL w0 O w L) {a : Addr} {v : Value} (hc : w0.cell? a = some v) (hO : a.block ∉ O) : w.cell? a = some v := by
  rw [h.cell0 (World.block_lt_of_cell? w0 _ hc) hO]; exact hc
theorem Ent.capLe {w : World} {A : Option Addr} {cap : Nat} {e : TypeId} {sz : Nat} {xs : List (Array Value)} (h : (Ent.row A cap e sz xs).sat w) : xs.length ≤ cap := by
  obtain ⟨⟨_, h2⟩, _⟩ := h
  rcases h2 with ⟨hv, hn⟩ | ⟨g, c, _, hv, _, _, hn, _⟩
  · omega
  · injection hv with _ _ hc
    omega

theorem CX.rowCap {P : Program} {w0 : World} {O : List Nat} {n : Nat} {D : List Deferred} {V : List (Nat × Value)} {L : List Ent} {r : Option Nat} {Q : Exit → Act → World → Prop} {c : Code} {α : Type} {enc : α → Array Value} (i : Nat) {A : Option Addr} {cap : Nat} {e : TypeId} {sz : Nat} {xs : List α} (hL : L[i]? = Option.some (.row A cap e sz (xs.map enc)))
    (h : xs.length ≤ cap → CX P r Q w0 O n D c V L) : CX P r Q w0 O n D c V L :=
  fun a w ha hw => h (by have := Ent.capLe (hw.ents _ (List.mem_of_getElem? hL)); rwa [List.length_map] at this) a w ha hw
/-! ### A shorter row -/
theorem Ent.takeRow {w : World} {A : Option Addr} {cap : Nat} {e : TypeId} {sz : Nat} {xs : List (Array Value)} (h : (Ent.row A cap e sz xs).sat w) (k : Nat) : (Ent.row A cap e sz (xs.take k)).sat w := by
  obtain ⟨⟨h1, h2⟩, h3⟩ := h
  have h3' : ∀ c ∈ xs.take k, c.size = sz ∧ ∀ u ∈ c.toList, u.oneCell' = true := fun c hc => h3 c (List.mem_of_mem_take hc)
  have hf : flat (xs.take k) = (flat xs).take ((xs.take k).length * sz) := by
    have e1 : flat xs = flat (xs.take k) ++ flat (xs.drop k) := by rw [← flat_append, List.take_append_drop]
    have e2 := flat_length (fun c hc => (h3' c hc).1)
    rw [e1, ← e2, List.take_left]
  have hle : (xs.take k).length ≤ xs.length := by simp; omega
  refine ⟨⟨flat_length (fun c hc => (h3' c hc).1), ?_⟩, h3'⟩
  rcases h2 with ⟨hv, h0⟩ | ⟨g, cp, cur, hv, hbg, hg, hnc, hcm, hcs, htake⟩
  · injection hv with hA hl hc
    left
    refine ⟨?_, by omega⟩
    rw [hA, hc, show (xs.take k).length = 0 from by omega]
  · injection hv with hA hl hc
    right
    refine ⟨g, cap, cur, by rw [hA], hbg, hg, by omega, by omega, by rw [hc]; exact hcs, ?_⟩
    rw [hf, ← htake, List.take_take, Nat.min_eq_left (Nat.mul_le_mul_right _ hle)]
section
variable {P : Program} {w0 : World} {O : List Nat} {n : Nat} {D : List Deferred} {o : Oper} {V : List (Nat × Value)} {L : List Ent} {T : List (Nat × Value) → List Ent → Prop}
theorem SL.takeRow {w : World} (h : SL w0 O w L) {i : Nat} {A : Option Addr} {cap : Nat} {e : TypeId} {sz : Nat} {xs : List (Array Value)} (hL : L[i]? = some (.row A cap e sz xs)) (k : Nat) : SL w0 O w (L.set i (.row A cap e sz (xs.take k))) :=
  h.setI hL rfl rfl rfl (Nat.le_refl _) (Ent.takeRow (h.ents _ (List.mem_of_getElem? hL)) k) row_blocks_nodup (fun b hb => .inl hb) (fun _ _ _ => rfl)
/-- append to the head of a slice of one's own. -/
theorem op_appendMT {α : Type} (enc : α → Array Value) {x y : Operand} {t e : TypeId} {d sz bytes i j m k : Nat} {z : Value} {A B : Option Addr} {cap c capy : Nat} {ey : TypeId} {xs : List α} (ys : List α) {yc : List (Array Value)}
    (ho : o.op = .call { callee := .builtin .append, args := #[x, y], argTypes := #[t, t] }) (hd : o.dst = some d) (hdn : Nat.blt d n = true) (ht : SlB P t e sz bytes z) (hx : ev V x = some (.slice A k cap)) (hL : L[i]? = some (.row A cap e sz (xs.map enc))) (hk : k ≤ xs.length) (hij : i ≠ j)
    (hy : ev V y = some (.slice B m c)) (hm : ys.length = m) (hLy : L[j]? = some (.row B capy ey sz yc)) (hyc : ys.map enc = yc) (h63 : k + ys.length ≤ 9223372036854775807) (hby : (k + ys.length) * bytes ≤ 140737488355328)
    (hT : ∀ A' cap', T ((d, .slice A' (xs.take k ++ ys).length cap') :: V) (L.set i (.row A' cap' e sz ((xs.take k ++ ys).map enc)))) : OpS P w0 O n D o V L T := by
  intro a w ha hw
  have hkl : (xs.take k).length = k := by simp; omega
  have hi : i < L.length := (List.getElem?_eq_some_iff.1 hL).1
  have hw' := hw.takeRow hL k
  rw [← List.map_take] at hw'
  refine op_appendM enc (i := i) (j := j) (xs := xs.take k) ys ho hd hdn ht (by rw [hkl]; exact hx) (by rw [List.getElem?_set_self hi]) hy hm (by rw [List.getElem?_set_ne hij]; exact hLy) hyc (by rw [hkl]; exact h63) (by rw [hkl]; exact hby) (fun A' cap' => ?_) a w ha hw'
  rw [List.set_set]
  exact hT A' cap'
end
end Go.Proofs.Ytpcfgoadkfajfaa
namespace Go.Proofs.Ytpcfgoadkfajfaa
set_option linter.all false
open Go Go.RowKit
def packB : List Ent → List Nat
  | [] => []
  | e :: es => e.blocks ++ packB es
theorem packB_eq (es : List Ent) : packB es = es.flatMap Ent.blocks := by
  induction es with
  | nil => rfl
  | cons e es ih => rw [List.flatMap_cons, ← ih]; rfl
/-- Entries packed into one. -/
def pack (es : List Ent) : Ent :=
  .gen (es.flatMap Ent.blocks) (fun w => ∀ e ∈ es, e.sat w)
    (fun w h b hb => by
      obtain ⟨e, he, hbe⟩ := List.mem_flatMap.1 hb
      exact Ent.lt (h e he) hbe)
    (fun w w' h hk e he => Ent.keep (h e he) (fun b hb => hk b (List.mem_flatMap.2 ⟨e, he, hb⟩)))
theorem pack_blocks (es : List Ent) : (pack es).blocks = es.flatMap Ent.blocks := rfl
section
variable {P : Program} {w0 : World} {O : List Nat} {n : Nat} {D : List Deferred} {o : Oper} {V : List (Nat × Value)} {L : List Ent} {T : List (Nat × Value) → List Ent → Prop} {Q : Exit → Act → World → Prop} {c : Code} {r : Option Nat}
theorem SL.pack {w : World} {es : List Ent} (h : SL w0 O w (es ++ L)) : SL w0 O w (pack es :: L) := by
  refine ⟨h.os, h.tape, h.output, h.size, h.same, ?_, ?_, ?_⟩
  · intro p hp
    rcases List.mem_cons.1 hp with rfl | hp
    · exact fun e he => h.ents e (List.mem_append_left _ he)
    · exact h.ents p (List.mem_append_right _ hp)
  · have := h.nodup
    rw [List.flatMap_append] at this
    rw [List.flatMap_cons, pack_blocks]
    exact this
  · intro p hp b hb
    rcases List.mem_cons.1 hp with rfl | hp
    · rw [pack_blocks] at hb
      obtain ⟨e, he, hbe⟩ := List.mem_flatMap.1 hb
      exact h.own e (List.mem_append_left _ he) b hbe
    · exact h.own p (List.mem_append_right _ hp) b hb
theorem SL.unpack {w : World} {es : List Ent} (h : SL w0 O w (Go.Proofs.Ytpcfgoadkfajfaa.pack es :: L)) : SL w0 O w (es ++ L) := by
  refine ⟨h.os, h.tape, h.output, h.size, h.same, ?_, ?_, ?_⟩
  · intro p hp
    rcases List.mem_append.1 hp with hp | hp
    · exact h.ents (Go.Proofs.Ytpcfgoadkfajfaa.pack es) List.mem_cons_self p hp
    · exact h.ents p (List.mem_cons_of_mem _ hp)
  · have := h.nodup
    rw [List.flatMap_cons, pack_blocks] at this
    rw [List.flatMap_append]
    exact this
  · intro p hp b hb
    rcases List.mem_append.1 hp with hp | hp
    · exact h.own (Go.Proofs.Ytpcfgoadkfajfaa.pack es) List.mem_cons_self b (List.mem_flatMap.2 ⟨p, hp, hb⟩)
    · exact h.own p (List.mem_cons_of_mem _ hp) b hb
/-- An entry more in a pack. -/
theorem SL.packMore {w : World} {es : List Ent} {e : Ent} (h : SL w0 O w (e :: Go.Proofs.Ytpcfgoadkfajfaa.pack es :: L)) : SL w0 O w (Go.Proofs.Ytpcfgoadkfajfaa.pack (es ++ [e]) :: L) := by
  have h1 : SL w0 O w (Go.Proofs.Ytpcfgoadkfajfaa.pack es :: e :: L) := h.perm (List.Perm.swap _ _ _)
  have h2 := h1.unpack
  have h3 : SL w0 O w ((es ++ [e]) ++ L) := by rw [List.append_assoc]; exact h2
  exact h3.pack
theorem SL.packNil {w : World} (h : SL w0 O w L) : SL w0 O w (Go.Proofs.Ytpcfgoadkfajfaa.pack [] :: L) := SL.pack (es := []) h
theorem SL.packRd {w : World} (h : SL w0 O w L) {i : Nat} {es : List Ent} (hL : L[i]? = some (Go.Proofs.Ytpcfgoadkfajfaa.pack es)) {A : Option Addr} {cap : Nat} {e : TypeId} {sz : Nat} {xs : List (Array Value)} (he : Ent.row A cap e sz xs ∈ es) : Rd w A sz xs :=
  Ent.rd ((h.ents _ (List.mem_of_getElem? hL) : ∀ e ∈ es, e.sat w) _ he)
theorem CX.packNil (h : CX P r Q w0 O n D c V (pack [] :: L)) : CX P r Q w0 O n D c V L := fun a w ha hw => h a w ha hw.packNil
/-- Entry i goes into the pack j. -/
theorem CX.packMore {L' : List Ent} {e : Ent} {es : List Ent} (hL : L.Perm (e :: pack es :: L')) (h : CX P r Q w0 O n D c V (pack (es ++ [e]) :: L')) : CX P r Q w0 O n D c V L := fun a w ha hw => h a w ha (SL.packMore (hw.perm hL))
theorem CX.packMoreE {L' : List Ent} {e : Ent} {es es' : List Ent} (he : es' = es ++ [e]) (hL : L.Perm (e :: pack es :: L')) (h : CX P r Q w0 O n D c V (pack es' :: L')) : CX P r Q w0 O n D c V L := by
  subst he
  exact CX.packMore hL h
end
end Go.Proofs.Ytpcfgoadkfajfaa
