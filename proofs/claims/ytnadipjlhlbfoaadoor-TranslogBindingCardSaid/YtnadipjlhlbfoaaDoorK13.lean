/- Walks, printed by a program. Walks, printed by a program. Encodings tell statements apart: plain Lean. -/
import Derived.Test.YtnadipjlhlbfoaaDoorK12
import Derived.Test.YtnadipjlhlbfoaaDoorK6
import Derived.Test.YtnadipjlhlbfoaaDoorK11
namespace Go.Proofs.YtnadipjlhlbfoaaDoor
set_option linter.all false
open Go Go.RowKit
set_option maxRecDepth 100000
/-- Two different strings of the lists have the same digest. -/
def collB (X Y : List ByteArray) : Bool := X.any fun x => Y.any fun y => decide (x ≠ y ∧ sum x = sum y)
theorem collB_of {X Y : List ByteArray} (h : Collides sum X Y) : collB X Y = true := by
  obtain ⟨x, hx, y, hy, h1, h2⟩ := h
  exact List.any_eq_true.2 ⟨x, hx, List.any_eq_true.2 ⟨y, hy, decide_eq_true ⟨h1, h2⟩⟩⟩
theorem any_next {α : Type} {l : List α} {i : Nat} {x : α} {p : α → Bool} (h : (l.take i).any p = false) (hx : l[i]? = some x) (hp : p x = false) : (l.take (i + 1)).any p = false := by
  rw [take_succ hx, List.any_append, h, List.any_cons, hp]; rfl
set_option maxRecDepth 100000 in
theorem w_collided {w : World} {A B : Option Addr} {capA capB : Nat} (X Y : List ByteArray) (hrX : Rd w A 1 (X.map strC)) (hrY : Rd w B 1 (Y.map strC)) (hlX : X.length ≤ 1000000) (hlY : Y.length ≤ 1000000) (hsX : ∀ s ∈ X, s.size ≤ 17592186044416) (hsY : ∀ s ∈ Y, s.size ≤ 17592186044416) :
    Calls Tryd.prog 27 #[.slice A X.length capA, .slice B Y.length capB] w (fun e w' => e = .returned (.bool (collB X Y)) ∧ SL w [] w' []) := by
  refine calls_of_CX (O := []) (L := []) (args := [.slice A X.length capA, .slice B Y.length capB]) Tryd.func27 rfl (by simp [Tryd.ntmps27]) (SL.refl w) ?_
  refine CX.sub (V' := [(0, .slice A X.length capA), (1, .slice B Y.length capB)]) ⟨rfl, rfl, trivial⟩ ?_
  refine CX.seq ?_
  refine CX.region ?_
  refine RX.cons rfl rfl (op_w (yw_assign rfl rfl) rfl rfl ?_)
  refine RX.nil (XX.next (V' := [(0, _), (1, _)]) ⟨rfl, rfl, trivial⟩ ?_)
  refine CX.seq ?_
  refine CX.seq ?_
  refine CX.region ?_
  refine RX.cons rfl rfl (op_w (yw_assign rfl rfl) rfl rfl ?_)
  refine RX.nil (XX.next (V' := [(0, _), (1, _), (5, _)]) ⟨rfl, rfl, rfl, trivial⟩ ?_)
  refine CX.block ?_
  refine CX.loop (σ := Nat) (fun i => [(0, .slice A X.length capA), (1, .slice B Y.length capB), (5, .int .i64 ((i : Nat) : Int))]) (fun i => []) (fun i => i ≤ X.length ∧ (X.take i).any (fun x => Y.any fun y => decide (x ≠ y ∧ sum x = sum y)) = false) (fun i => X.length - i) 0 ⟨Nat.zero_le _, rfl⟩ ⟨rfl, rfl, rfl, trivial⟩ rfl (fun i hI => ?_)
  obtain ⟨hi, hall⟩ := hI
  refine CX.seq ?_
  refine CX.seq ?_
  refine CX.region ?_
  refine RX.cons rfl rfl (op_w (yw_move rfl rfl) rfl rfl ?_)
  refine RX.cons rfl rfl (op_w (yw_move rfl rfl) rfl rfl ?_)
  refine RX.cons rfl rfl (op_w (yw_lenS rfl Tryd.underlying35 rfl) rfl rfl ?_)
  refine RX.cons rfl rfl (op_w (yw_lss rfl rfl rfl) rfl rfl ?_)
  refine RX.nil (XX.next (V' := [(0, _), (1, _), (5, _), (10, _)]) ⟨rfl, rfl, rfl, rfl, trivial⟩ ?_)
  refine CX.condD (p := ((i : Nat) : Int) < ((X.length : Nat) : Int)) rfl (fun c10 => ?_) (fun c10 => ?_)
  · obtain ⟨x, hx⟩ := get_some (l := X) (k := i) (by omega)
    have hA : ∃ b j, A = some ⟨b, j, none⟩ := hrX.some (k := i) (by simp; omega)
    refine CX.skip (XX.next (V' := [(0, _), (1, _), (5, _)]) ⟨rfl, rfl, rfl, trivial⟩ ?_)
    refine CX.seq ?_
    refine CX.block ?_
    refine CX.seq ?_
    refine CX.region ?_
    refine RX.cons rfl rfl (op_w (yw_assign rfl rfl) rfl rfl ?_)
    refine RX.nil (XX.next (V' := [(0, _), (1, _), (5, _), (6, _)]) ⟨rfl, rfl, rfl, rfl, trivial⟩ ?_)
    refine CX.block ?_
    refine CX.loop (σ := Nat) (fun k => [(0, .slice A X.length capA), (1, .slice B Y.length capB), (5, .int .i64 ((i : Nat) : Int)), (6, .int .i64 ((k : Nat) : Int))]) (fun k => []) (fun k => k ≤ Y.length ∧ (Y.take k).any (fun y => decide (x ≠ y ∧ sum x = sum y)) = false) (fun k => Y.length - k) 0 ⟨Nat.zero_le _, rfl⟩ ⟨rfl, rfl, rfl, rfl, trivial⟩ rfl (fun k hI => ?_)
    obtain ⟨hk, hany⟩ := hI
    refine CX.seq ?_
    refine CX.seq ?_
    refine CX.region ?_
    refine RX.cons rfl rfl (op_w (yw_move rfl rfl) rfl rfl ?_)
    refine RX.cons rfl rfl (op_w (yw_move rfl rfl) rfl rfl ?_)
    refine RX.cons rfl rfl (op_w (yw_lenS rfl Tryd.underlying35 rfl) rfl rfl ?_)
    refine RX.cons rfl rfl (op_w (yw_lss rfl rfl rfl) rfl rfl ?_)
    refine RX.nil (XX.next (V' := [(0, _), (1, _), (5, _), (6, _), (16, _)]) ⟨rfl, rfl, rfl, rfl, rfl, trivial⟩ ?_)
    refine CX.condD (p := ((k : Nat) : Int) < ((Y.length : Nat) : Int)) rfl (fun c16 => ?_) (fun c16 => ?_)
    · obtain ⟨y, hy⟩ := get_some (l := Y) (k := k) (by omega)
      have hB : ∃ b j, B = some ⟨b, j, none⟩ := hrY.some (k := k) (by simp; omega)
      have hxz := hsX x (List.mem_of_getElem? hx)
      have hyz := hsY y (List.mem_of_getElem? hy)
      refine CX.skip (XX.next (V' := [(0, _), (1, _), (5, _), (6, _)]) ⟨rfl, rfl, rfl, rfl, trivial⟩ ?_)
      refine CX.seq ?_
      refine CX.block ?_
      refine CX.seq ?_
      refine CX.draw 22 [(0, 1, 524288), (0, 32, 1048576), (3, 1572864, 2097152), (4, 2097152, 4194304), (0, 2, 8388608), (0, 64, 16777216), (48, 25165824, 33554432), (64, 33554432, 67108864), (136, 71303168, 134217728), (256, 134217728, 268435456), (512, 268435457, 536870912), (512, 268435488, 1073741824), (3584, 1879048192, 2147483648), (4608, 2415919104, 4294967296), (8704, 4563402752, 8589934592), (512, 268435458, 17179869184), (512, 268435520, 34359738368), (98816, 51808043008, 68719476736), (131584, 68987912192, 137438953472), (279040, 137707388928, 274877906944), (541184, 283736276992, 549755813888), (1049088, 550024249344, 1099511627776)] (by kernel_rfl) (by kernel_rfl) (by kernel_rfl) ?_
      refine DX.takeW 0 1 (by kernel_rfl) rfl rfl rfl rfl rfl (yw_move rfl rfl) ?_
      refine DX.takeW 1 3 (by kernel_rfl) rfl rfl rfl rfl rfl (yw_move rfl rfl) ?_
      refine DX.takeW 2 7 (by kernel_rfl) rfl rfl rfl rfl rfl (yw_index (k := i) rfl slt_35 rfl rfl (by omega) (by omega) hA) ?_
      refine DX.take 3 15 (by kernel_rfl) rfl rfl rfl rfl rfl (List.nil_sublist _) (y_elem1 rfl rfl one_9 hrX (by simp) (map_get hx)) ?_
      refine DX.takeW 4 31 (by kernel_rfl) rfl rfl rfl rfl rfl (yw_move rfl rfl) ?_
      refine DX.takeW 5 63 (by kernel_rfl) rfl rfl rfl rfl rfl (yw_move rfl rfl) ?_
      refine DX.takeW 6 127 (by kernel_rfl) rfl rfl rfl rfl rfl (yw_index (k := k) rfl slt_35 rfl rfl (by omega) (by omega) hB) ?_
      refine DX.take 7 255 (by kernel_rfl) rfl rfl rfl rfl rfl (List.nil_sublist _) (y_elem1 rfl rfl one_9 hrY (by simp) (map_get hy)) ?_
      refine DX.takeW 8 511 (by kernel_rfl) rfl rfl rfl rfl rfl (yw_strneq rfl rfl rfl) ?_
      refine DX.takeW 9 1023 (by kernel_rfl) rfl rfl rfl rfl rfl (yw_move rfl rfl) ?_
      refine DX.splitD (t := 28) (p := ByteArray.toList x ≠ ByteArray.toList y) rfl (fun d28 => ?_) (fun d28 => ?_)
      · refine DX.takeWG 10 2047 (by kernel_rfl) rfl rfl rfl rfl rfl rfl rfl rfl (yw_move rfl rfl) ?_
        refine DX.takeWG 11 4095 (by kernel_rfl) rfl rfl rfl rfl rfl rfl rfl rfl (yw_move rfl rfl) ?_
        refine DX.takeWG 12 8191 (by kernel_rfl) rfl rfl rfl rfl rfl rfl rfl rfl (yw_index (k := i) rfl slt_35 rfl rfl (by omega) (by omega) hA) ?_
        refine DX.takeG 13 16383 (by kernel_rfl) rfl rfl rfl rfl rfl rfl rfl rfl (List.nil_sublist _) (y_elem1 rfl rfl one_9 hrX (by simp) (map_get hx)) ?_
        refine DX.takeWG 15 49151 (by kernel_rfl) rfl rfl rfl rfl rfl rfl rfl rfl (yw_move rfl rfl) ?_
        refine DX.takeWG 16 114687 (by kernel_rfl) rfl rfl rfl rfl rfl rfl rfl rfl (yw_move rfl rfl) ?_
        refine DX.takeWG 17 245759 (by kernel_rfl) rfl rfl rfl rfl rfl rfl rfl rfl (yw_index (k := k) rfl slt_35 rfl rfl (by omega) (by omega) hB) ?_
        refine DX.takeG 18 507903 (by kernel_rfl) rfl rfl rfl rfl rfl rfl rfl rfl (List.nil_sublist _) (y_elem1 rfl rfl one_9 hrY (by simp) (map_get hy)) ?_
        refine DX.stepG 14 524287 (by kernel_rfl) rfl rfl rfl rfl rfl rfl (op_callV (v := .string (sum x)) rfl rfl rfl rfl rfl ent_40 (fun w hw => w_sum02 x (by rw [Array.length_toList]; show x.size ≤ _; omega)) (DXs.mk (List.nil_sublist _) ?_))
        refine DX.stepG 19 1048575 (by kernel_rfl) rfl rfl rfl rfl rfl rfl (op_callV (v := .string (sum y)) rfl rfl rfl rfl rfl ent_40 (fun w hw => w_sum02 y (by rw [Array.length_toList]; show y.size ≤ _; omega)) (DXs.mk (List.nil_sublist _) ?_))
        refine DX.takeWG 20 2097151 (by kernel_rfl) rfl rfl rfl rfl rfl rfl rfl rfl (yw_streq rfl rfl rfl) ?_
        refine DX.takeW 21 4194303 (by kernel_rfl) rfl rfl rfl rfl rfl (yw_pickT rfl rfl rfl) ?_
        refine DX.done (by kernel_rfl) (XX.next (V' := [(0, _), (1, _), (5, _), (6, _), (40, _)]) ⟨rfl, rfl, rfl, rfl, rfl, trivial⟩ ?_)
        refine CX.condD (p := ByteArray.toList (sum x) = ByteArray.toList (sum y)) rfl (fun c40 => ?_) (fun c40 => ?_)
        · refine CX.seq ?_
          refine CX.region ?_
          refine RX.cons rfl rfl (op_w (yw_assign rfl rfl) rfl rfl ?_)
          refine RX.nil (XX.next (V' := [(4, .bool true)]) ⟨rfl, trivial⟩ ?_)
          refine CX.ret ?_
          refine XX.block_ret ?_
          refine XX.then_ret ?_
          refine XX.then_ret ?_
          refine XX.block_ret ?_
          refine XX.block_ret ?_
          refine XX.then_ret ?_
          refine XX.then_ret ?_
          refine XX.block_ret ?_
          refine XX.then_ret ?_
          exact ret_tmp rfl rfl fun w1 hw => ⟨by rw [collB_of ⟨x, List.mem_of_getElem? hx, y, List.mem_of_getElem? hy, fun e => d28 (by rw [e]), toList_inj.1 c40⟩], hw.sub (List.nil_sublist _)⟩
        · refine CX.skip (XX.inBlock (V' := [(0, _), (1, _), (5, _), (6, _)]) ⟨rfl, rfl, rfl, rfl, trivial⟩ ?_)
          refine XX.next (V' := [(0, _), (1, _), (5, _), (6, _)]) ⟨rfl, rfl, rfl, rfl, trivial⟩ ?_
          refine CX.region ?_
          refine RX.cons rfl rfl (op_w (yw_move rfl rfl) rfl rfl ?_)
          refine RX.cons rfl rfl (op_w (yw_add rfl rfl rfl (by omega) (by omega)) rfl rfl ?_)
          refine RX.cons rfl rfl (op_w (yw_assign rfl rfl) rfl rfl ?_)
          refine RX.nil (XX.againP ([]) (k + 1) (by omega) ⟨by omega, any_next hany hy (decide_eq_false (fun h => c40 (by rw [h.2])))⟩ ⟨rfl, rfl, rfl, rfl, trivial⟩ (List.Perm.refl _))
      · refine DX.skip 10 2047 (by kernel_rfl) rfl rfl rfl rfl rfl rfl rfl rfl ?_
        refine DX.skip 11 4095 (by kernel_rfl) rfl rfl rfl rfl rfl rfl rfl rfl ?_
        refine DX.skip 12 8191 (by kernel_rfl) rfl rfl rfl rfl rfl rfl rfl rfl ?_
        refine DX.skip 13 16383 (by kernel_rfl) rfl rfl rfl rfl rfl rfl rfl rfl ?_
        refine DX.skip 14 32767 (by kernel_rfl) rfl rfl rfl rfl rfl rfl rfl rfl ?_
        refine DX.skip 15 65535 (by kernel_rfl) rfl rfl rfl rfl rfl rfl rfl rfl ?_
        refine DX.skip 16 131071 (by kernel_rfl) rfl rfl rfl rfl rfl rfl rfl rfl ?_
        refine DX.skip 17 262143 (by kernel_rfl) rfl rfl rfl rfl rfl rfl rfl rfl ?_
        refine DX.skip 18 524287 (by kernel_rfl) rfl rfl rfl rfl rfl rfl rfl rfl ?_
        refine DX.skip 19 1048575 (by kernel_rfl) rfl rfl rfl rfl rfl rfl rfl rfl ?_
        refine DX.skip 20 2097151 (by kernel_rfl) rfl rfl rfl rfl rfl rfl rfl rfl ?_
        refine DX.takeW 21 4194303 (by kernel_rfl) rfl rfl rfl rfl rfl (yw_pickF rfl rfl rfl) ?_
        refine DX.done (by kernel_rfl) (XX.next (V' := [(0, _), (1, _), (5, _), (6, _), (40, _)]) ⟨rfl, rfl, rfl, rfl, rfl, trivial⟩ ?_)
        refine CX.condF rfl ?_
        refine CX.skip (XX.inBlock (V' := [(0, _), (1, _), (5, _), (6, _)]) ⟨rfl, rfl, rfl, rfl, trivial⟩ ?_)
        refine XX.next (V' := [(0, _), (1, _), (5, _), (6, _)]) ⟨rfl, rfl, rfl, rfl, trivial⟩ ?_
        refine CX.region ?_
        refine RX.cons rfl rfl (op_w (yw_move rfl rfl) rfl rfl ?_)
        refine RX.cons rfl rfl (op_w (yw_add rfl rfl rfl (by omega) (by omega)) rfl rfl ?_)
        refine RX.cons rfl rfl (op_w (yw_assign rfl rfl) rfl rfl ?_)
        refine RX.nil (XX.againP ([]) (k + 1) (by omega) ⟨by omega, any_next hany hy (decide_eq_false (fun h => d28 (fun e => h.1 (toList_inj.1 e))))⟩ ⟨rfl, rfl, rfl, rfl, trivial⟩ (List.Perm.refl _))
    · refine CX.exit ?_
      refine XX.then_exit ?_
      refine XX.then_exit ?_
      refine XX.block_exit ?_
      refine XX.inBlock (V' := [(0, _), (1, _), (5, _)]) ⟨rfl, rfl, rfl, trivial⟩ ?_
      refine XX.next (V' := [(0, _), (1, _), (5, _)]) ⟨rfl, rfl, rfl, trivial⟩ ?_
      refine CX.region ?_
      refine RX.cons rfl rfl (op_w (yw_move rfl rfl) rfl rfl ?_)
      refine RX.cons rfl rfl (op_w (yw_add rfl rfl rfl (by omega) (by omega)) rfl rfl ?_)
      refine RX.cons rfl rfl (op_w (yw_assign rfl rfl) rfl rfl ?_)
      refine RX.nil (XX.againP ([]) (i + 1) (by omega) ⟨by omega, any_next hall hx (by rw [List.take_of_length_le (by omega)] at hany; exact hany)⟩ ⟨rfl, rfl, rfl, trivial⟩ (List.Perm.refl _))
  · refine CX.exit ?_
    refine XX.then_exit ?_
    refine XX.then_exit ?_
    refine XX.block_exit ?_
    refine XX.next (V' := []) trivial ?_
    refine CX.seq ?_
    refine CX.region ?_
    refine RX.cons rfl rfl (op_w (yw_assign rfl rfl) rfl rfl ?_)
    refine RX.nil (XX.next (V' := [(4, .bool false)]) ⟨rfl, trivial⟩ ?_)
    refine CX.ret ?_
    exact ret_tmp rfl rfl fun w1 hw => ⟨by rw [show collB X Y = false from by rw [List.take_of_length_le (by omega)] at hall; exact hall], hw.sub (List.nil_sublist _)⟩

set_option maxRecDepth 100000 in
theorem w_collide {w : World} {A B : Option Addr} {capA capB : Nat} (X Y : List ByteArray) (hrX : Rd w A 1 (X.map strC)) (hrY : Rd w B 1 (Y.map strC)) (hlX : X.length ≤ 1000000) (hlY : Y.length ≤ 1000000) (hsX : ∀ s ∈ X, s.size ≤ 17592186044416) (hsY : ∀ s ∈ Y, s.size ≤ 17592186044416) :
    Calls Tryd.prog 23 #[.slice A X.length capA, .slice B Y.length capB] w (fun e w' => e = .returned (.bool (collB X Y)) ∧ SL w [] w' []) := by
  refine calls_of_CX (O := []) (L := []) (args := [.slice A X.length capA, .slice B Y.length capB]) Tryd.func23 rfl (by simp [Tryd.ntmps23]) (SL.refl w) ?_
  refine CX.sub (V' := [(0, .slice A X.length capA), (1, .slice B Y.length capB)]) ⟨rfl, rfl, trivial⟩ ?_
  refine CX.seq ?_
  refine CX.region ?_
  refine RX.cons rfl rfl (op_w (yw_assign rfl rfl) rfl rfl ?_)
  refine RX.nil (XX.next (V' := [(0, _), (1, _)]) ⟨rfl, rfl, trivial⟩ ?_)
  refine CX.seq ?_
  refine CX.seq ?_
  refine CX.region ?_
  refine RX.cons rfl rfl (op_w (yw_assign rfl rfl) rfl rfl ?_)
  refine RX.nil (XX.next (V' := [(0, _), (1, _), (5, _)]) ⟨rfl, rfl, rfl, trivial⟩ ?_)
  refine CX.block ?_
  refine CX.loop (σ := Nat) (fun i => [(0, .slice A X.length capA), (1, .slice B Y.length capB), (5, .int .i64 ((i : Nat) : Int))]) (fun i => []) (fun i => i ≤ X.length ∧ (X.take i).any (fun x => Y.any fun y => decide (x ≠ y ∧ sum x = sum y)) = false) (fun i => X.length - i) 0 ⟨Nat.zero_le _, rfl⟩ ⟨rfl, rfl, rfl, trivial⟩ rfl (fun i hI => ?_)
  obtain ⟨hi, hall⟩ := hI
  refine CX.seq ?_
  refine CX.seq ?_
  refine CX.region ?_
  refine RX.cons rfl rfl (op_w (yw_move rfl rfl) rfl rfl ?_)
  refine RX.cons rfl rfl (op_w (yw_move rfl rfl) rfl rfl ?_)
  refine RX.cons rfl rfl (op_w (yw_lenS rfl Tryd.underlying35 rfl) rfl rfl ?_)
  refine RX.cons rfl rfl (op_w (yw_lss rfl rfl rfl) rfl rfl ?_)
  refine RX.nil (XX.next (V' := [(0, _), (1, _), (5, _), (10, _)]) ⟨rfl, rfl, rfl, rfl, trivial⟩ ?_)
  refine CX.condD (p := ((i : Nat) : Int) < ((X.length : Nat) : Int)) rfl (fun c10 => ?_) (fun c10 => ?_)
  · obtain ⟨x, hx⟩ := get_some (l := X) (k := i) (by omega)
    have hA : ∃ b j, A = some ⟨b, j, none⟩ := hrX.some (k := i) (by simp; omega)
    refine CX.skip (XX.next (V' := [(0, _), (1, _), (5, _)]) ⟨rfl, rfl, rfl, trivial⟩ ?_)
    refine CX.seq ?_
    refine CX.block ?_
    refine CX.seq ?_
    refine CX.region ?_
    refine RX.cons rfl rfl (op_w (yw_assign rfl rfl) rfl rfl ?_)
    refine RX.nil (XX.next (V' := [(0, _), (1, _), (5, _), (6, _)]) ⟨rfl, rfl, rfl, rfl, trivial⟩ ?_)
    refine CX.block ?_
    refine CX.loop (σ := Nat) (fun k => [(0, .slice A X.length capA), (1, .slice B Y.length capB), (5, .int .i64 ((i : Nat) : Int)), (6, .int .i64 ((k : Nat) : Int))]) (fun k => []) (fun k => k ≤ Y.length ∧ (Y.take k).any (fun y => decide (x ≠ y ∧ sum x = sum y)) = false) (fun k => Y.length - k) 0 ⟨Nat.zero_le _, rfl⟩ ⟨rfl, rfl, rfl, rfl, trivial⟩ rfl (fun k hI => ?_)
    obtain ⟨hk, hany⟩ := hI
    refine CX.seq ?_
    refine CX.seq ?_
    refine CX.region ?_
    refine RX.cons rfl rfl (op_w (yw_move rfl rfl) rfl rfl ?_)
    refine RX.cons rfl rfl (op_w (yw_move rfl rfl) rfl rfl ?_)
    refine RX.cons rfl rfl (op_w (yw_lenS rfl Tryd.underlying35 rfl) rfl rfl ?_)
    refine RX.cons rfl rfl (op_w (yw_lss rfl rfl rfl) rfl rfl ?_)
    refine RX.nil (XX.next (V' := [(0, _), (1, _), (5, _), (6, _), (16, _)]) ⟨rfl, rfl, rfl, rfl, rfl, trivial⟩ ?_)
    refine CX.condD (p := ((k : Nat) : Int) < ((Y.length : Nat) : Int)) rfl (fun c16 => ?_) (fun c16 => ?_)
    · obtain ⟨y, hy⟩ := get_some (l := Y) (k := k) (by omega)
      have hB : ∃ b j, B = some ⟨b, j, none⟩ := hrY.some (k := k) (by simp; omega)
      have hxz := hsX x (List.mem_of_getElem? hx)
      have hyz := hsY y (List.mem_of_getElem? hy)
      refine CX.skip (XX.next (V' := [(0, _), (1, _), (5, _), (6, _)]) ⟨rfl, rfl, rfl, rfl, trivial⟩ ?_)
      refine CX.seq ?_
      refine CX.block ?_
      refine CX.seq ?_
      refine CX.draw 22 [(0, 1, 524288), (0, 32, 1048576), (3, 1572864, 2097152), (4, 2097152, 4194304), (0, 2, 8388608), (0, 64, 16777216), (48, 25165824, 33554432), (64, 33554432, 67108864), (136, 71303168, 134217728), (256, 134217728, 268435456), (512, 268435457, 536870912), (512, 268435488, 1073741824), (3584, 1879048192, 2147483648), (4608, 2415919104, 4294967296), (8704, 4563402752, 8589934592), (512, 268435458, 17179869184), (512, 268435520, 34359738368), (98816, 51808043008, 68719476736), (131584, 68987912192, 137438953472), (279040, 137707388928, 274877906944), (541184, 283736276992, 549755813888), (1049088, 550024249344, 1099511627776)] (by kernel_rfl) (by kernel_rfl) (by kernel_rfl) ?_
      refine DX.takeW 0 1 (by kernel_rfl) rfl rfl rfl rfl rfl (yw_move rfl rfl) ?_
      refine DX.takeW 1 3 (by kernel_rfl) rfl rfl rfl rfl rfl (yw_move rfl rfl) ?_
      refine DX.takeW 2 7 (by kernel_rfl) rfl rfl rfl rfl rfl (yw_index (k := i) rfl slt_35 rfl rfl (by omega) (by omega) hA) ?_
      refine DX.take 3 15 (by kernel_rfl) rfl rfl rfl rfl rfl (List.nil_sublist _) (y_elem1 rfl rfl one_9 hrX (by simp) (map_get hx)) ?_
      refine DX.takeW 4 31 (by kernel_rfl) rfl rfl rfl rfl rfl (yw_move rfl rfl) ?_
      refine DX.takeW 5 63 (by kernel_rfl) rfl rfl rfl rfl rfl (yw_move rfl rfl) ?_
      refine DX.takeW 6 127 (by kernel_rfl) rfl rfl rfl rfl rfl (yw_index (k := k) rfl slt_35 rfl rfl (by omega) (by omega) hB) ?_
      refine DX.take 7 255 (by kernel_rfl) rfl rfl rfl rfl rfl (List.nil_sublist _) (y_elem1 rfl rfl one_9 hrY (by simp) (map_get hy)) ?_
      refine DX.takeW 8 511 (by kernel_rfl) rfl rfl rfl rfl rfl (yw_strneq rfl rfl rfl) ?_
      refine DX.takeW 9 1023 (by kernel_rfl) rfl rfl rfl rfl rfl (yw_move rfl rfl) ?_
      refine DX.splitD (t := 28) (p := ByteArray.toList x ≠ ByteArray.toList y) rfl (fun d28 => ?_) (fun d28 => ?_)
      · refine DX.takeWG 10 2047 (by kernel_rfl) rfl rfl rfl rfl rfl rfl rfl rfl (yw_move rfl rfl) ?_
        refine DX.takeWG 11 4095 (by kernel_rfl) rfl rfl rfl rfl rfl rfl rfl rfl (yw_move rfl rfl) ?_
        refine DX.takeWG 12 8191 (by kernel_rfl) rfl rfl rfl rfl rfl rfl rfl rfl (yw_index (k := i) rfl slt_35 rfl rfl (by omega) (by omega) hA) ?_
        refine DX.takeG 13 16383 (by kernel_rfl) rfl rfl rfl rfl rfl rfl rfl rfl (List.nil_sublist _) (y_elem1 rfl rfl one_9 hrX (by simp) (map_get hx)) ?_
        refine DX.takeWG 15 49151 (by kernel_rfl) rfl rfl rfl rfl rfl rfl rfl rfl (yw_move rfl rfl) ?_
        refine DX.takeWG 16 114687 (by kernel_rfl) rfl rfl rfl rfl rfl rfl rfl rfl (yw_move rfl rfl) ?_
        refine DX.takeWG 17 245759 (by kernel_rfl) rfl rfl rfl rfl rfl rfl rfl rfl (yw_index (k := k) rfl slt_35 rfl rfl (by omega) (by omega) hB) ?_
        refine DX.takeG 18 507903 (by kernel_rfl) rfl rfl rfl rfl rfl rfl rfl rfl (List.nil_sublist _) (y_elem1 rfl rfl one_9 hrY (by simp) (map_get hy)) ?_
        refine DX.stepG 14 524287 (by kernel_rfl) rfl rfl rfl rfl rfl rfl (op_callV (v := .string (sum x)) rfl rfl rfl rfl rfl ent_40 (fun w hw => w_sum02 x (by rw [Array.length_toList]; show x.size ≤ _; omega)) (DXs.mk (List.nil_sublist _) ?_))
        refine DX.stepG 19 1048575 (by kernel_rfl) rfl rfl rfl rfl rfl rfl (op_callV (v := .string (sum y)) rfl rfl rfl rfl rfl ent_40 (fun w hw => w_sum02 y (by rw [Array.length_toList]; show y.size ≤ _; omega)) (DXs.mk (List.nil_sublist _) ?_))
        refine DX.takeWG 20 2097151 (by kernel_rfl) rfl rfl rfl rfl rfl rfl rfl rfl (yw_streq rfl rfl rfl) ?_
        refine DX.takeW 21 4194303 (by kernel_rfl) rfl rfl rfl rfl rfl (yw_pickT rfl rfl rfl) ?_
        refine DX.done (by kernel_rfl) (XX.next (V' := [(0, _), (1, _), (5, _), (6, _), (40, _)]) ⟨rfl, rfl, rfl, rfl, rfl, trivial⟩ ?_)
        refine CX.condD (p := ByteArray.toList (sum x) = ByteArray.toList (sum y)) rfl (fun c40 => ?_) (fun c40 => ?_)
        · refine CX.seq ?_
          refine CX.region ?_
          refine RX.cons rfl rfl (op_w (yw_assign rfl rfl) rfl rfl ?_)
          refine RX.nil (XX.next (V' := [(4, .bool true)]) ⟨rfl, trivial⟩ ?_)
          refine CX.ret ?_
          refine XX.block_ret ?_
          refine XX.then_ret ?_
          refine XX.then_ret ?_
          refine XX.block_ret ?_
          refine XX.block_ret ?_
          refine XX.then_ret ?_
          refine XX.then_ret ?_
          refine XX.block_ret ?_
          refine XX.then_ret ?_
          exact ret_tmp rfl rfl fun w1 hw => ⟨by rw [collB_of ⟨x, List.mem_of_getElem? hx, y, List.mem_of_getElem? hy, fun e => d28 (by rw [e]), toList_inj.1 c40⟩], hw.sub (List.nil_sublist _)⟩
        · refine CX.skip (XX.inBlock (V' := [(0, _), (1, _), (5, _), (6, _)]) ⟨rfl, rfl, rfl, rfl, trivial⟩ ?_)
          refine XX.next (V' := [(0, _), (1, _), (5, _), (6, _)]) ⟨rfl, rfl, rfl, rfl, trivial⟩ ?_
          refine CX.region ?_
          refine RX.cons rfl rfl (op_w (yw_move rfl rfl) rfl rfl ?_)
          refine RX.cons rfl rfl (op_w (yw_add rfl rfl rfl (by omega) (by omega)) rfl rfl ?_)
          refine RX.cons rfl rfl (op_w (yw_assign rfl rfl) rfl rfl ?_)
          refine RX.nil (XX.againP ([]) (k + 1) (by omega) ⟨by omega, any_next hany hy (decide_eq_false (fun h => c40 (by rw [h.2])))⟩ ⟨rfl, rfl, rfl, rfl, trivial⟩ (List.Perm.refl _))
      · refine DX.skip 10 2047 (by kernel_rfl) rfl rfl rfl rfl rfl rfl rfl rfl ?_
        refine DX.skip 11 4095 (by kernel_rfl) rfl rfl rfl rfl rfl rfl rfl rfl ?_
        refine DX.skip 12 8191 (by kernel_rfl) rfl rfl rfl rfl rfl rfl rfl rfl ?_
        refine DX.skip 13 16383 (by kernel_rfl) rfl rfl rfl rfl rfl rfl rfl rfl ?_
        refine DX.skip 14 32767 (by kernel_rfl) rfl rfl rfl rfl rfl rfl rfl rfl ?_
        refine DX.skip 15 65535 (by kernel_rfl) rfl rfl rfl rfl rfl rfl rfl rfl ?_
        refine DX.skip 16 131071 (by kernel_rfl) rfl rfl rfl rfl rfl rfl rfl rfl ?_
        refine DX.skip 17 262143 (by kernel_rfl) rfl rfl rfl rfl rfl rfl rfl rfl ?_
        refine DX.skip 18 524287 (by kernel_rfl) rfl rfl rfl rfl rfl rfl rfl rfl ?_
        refine DX.skip 19 1048575 (by kernel_rfl) rfl rfl rfl rfl rfl rfl rfl rfl ?_
        refine DX.skip 20 2097151 (by kernel_rfl) rfl rfl rfl rfl rfl rfl rfl rfl ?_
        refine DX.takeW 21 4194303 (by kernel_rfl) rfl rfl rfl rfl rfl (yw_pickF rfl rfl rfl) ?_
        refine DX.done (by kernel_rfl) (XX.next (V' := [(0, _), (1, _), (5, _), (6, _), (40, _)]) ⟨rfl, rfl, rfl, rfl, rfl, trivial⟩ ?_)
        refine CX.condF rfl ?_
        refine CX.skip (XX.inBlock (V' := [(0, _), (1, _), (5, _), (6, _)]) ⟨rfl, rfl, rfl, rfl, trivial⟩ ?_)
        refine XX.next (V' := [(0, _), (1, _), (5, _), (6, _)]) ⟨rfl, rfl, rfl, rfl, trivial⟩ ?_
        refine CX.region ?_
        refine RX.cons rfl rfl (op_w (yw_move rfl rfl) rfl rfl ?_)
        refine RX.cons rfl rfl (op_w (yw_add rfl rfl rfl (by omega) (by omega)) rfl rfl ?_)
        refine RX.cons rfl rfl (op_w (yw_assign rfl rfl) rfl rfl ?_)
        refine RX.nil (XX.againP ([]) (k + 1) (by omega) ⟨by omega, any_next hany hy (decide_eq_false (fun h => d28 (fun e => h.1 (toList_inj.1 e))))⟩ ⟨rfl, rfl, rfl, rfl, trivial⟩ (List.Perm.refl _))
    · refine CX.exit ?_
      refine XX.then_exit ?_
      refine XX.then_exit ?_
      refine XX.block_exit ?_
      refine XX.inBlock (V' := [(0, _), (1, _), (5, _)]) ⟨rfl, rfl, rfl, trivial⟩ ?_
      refine XX.next (V' := [(0, _), (1, _), (5, _)]) ⟨rfl, rfl, rfl, trivial⟩ ?_
      refine CX.region ?_
      refine RX.cons rfl rfl (op_w (yw_move rfl rfl) rfl rfl ?_)
      refine RX.cons rfl rfl (op_w (yw_add rfl rfl rfl (by omega) (by omega)) rfl rfl ?_)
      refine RX.cons rfl rfl (op_w (yw_assign rfl rfl) rfl rfl ?_)
      refine RX.nil (XX.againP ([]) (i + 1) (by omega) ⟨by omega, any_next hall hx (by rw [List.take_of_length_le (by omega)] at hany; exact hany)⟩ ⟨rfl, rfl, rfl, trivial⟩ (List.Perm.refl _))
  · refine CX.exit ?_
    refine XX.then_exit ?_
    refine XX.then_exit ?_
    refine XX.block_exit ?_
    refine XX.next (V' := []) trivial ?_
    refine CX.seq ?_
    refine CX.region ?_
    refine RX.cons rfl rfl (op_w (yw_assign rfl rfl) rfl rfl ?_)
    refine RX.nil (XX.next (V' := [(4, .bool false)]) ⟨rfl, trivial⟩ ?_)
    refine CX.ret ?_
    exact ret_tmp rfl rfl fun w1 hw => ⟨by rw [show collB X Y = false from by rw [List.take_of_length_le (by omega)] at hall; exact hall], hw.sub (List.nil_sublist _)⟩

end Go.Proofs.YtnadipjlhlbfoaaDoor
namespace Go.Proofs.YtnadipjlhlbfoaaDoor
set_option linter.all false
open Go Go.RowKit
set_option maxRecDepth 100000
theorem ent_24 : ∀ args w, (callFunc 24 args).run Tryd.prog w = .ok (.enter 24 args) w := enters_of Tryd.func24 (by kernel_rfl) rfl
theorem ent_52 : ∀ args w, (callFunc 52 args).run Tryd.prog w = .ok (.enter 52 args) w := enters_of Tryd.func52 (by kernel_rfl) rfl
set_option maxRecDepth 100000 in
theorem w_pre24s {w : World} {A : Option Addr} {cap : Nat} (s : ByteArray) (n i : Nat) (ps : List ByteArray) (hr : Rd w A 1 (ps.map strC)) (hcap : ps.length ≤ cap) (hl : ps.length ≤ 1000000) (hsz : ∀ x ∈ ps, x.size = 32) (hs : s.size ≤ 4294967296) (hn : n ≤ 1099511627776) (hi : i ≤ 1099511627776) (ih : ∀ (qs : List ByteArray) (m j : Nat) (w : World) (A : Option Addr) (cap : Nat), qs.length < ps.length → Rd w A 1 (qs.map strC) → qs.length ≤ cap → qs.length ≤ 1000000 → (∀ x ∈ qs, x.size = 32) → m ≤ 1099511627776 → j ≤ 1099511627776 → Calls Tryd.prog 24 #[.string s, .int .i64 ((m : Nat) : Int), .int .i64 ((j : Nat) : Int), .slice A qs.length cap] w (fun e w' => ∃ z : Option Addr × Nat, True ∧ e = .returned (.slice z.1 (preF sum s (List.reverse qs) m j).length z.2) ∧ SL w [] w' [.row z.1 z.2 9 1 (List.map strC (preF sum s (List.reverse qs) m j))])) :
    Calls Tryd.prog 24 #[.string s, .int .i64 ((n : Nat) : Int), .int .i64 ((i : Nat) : Int), .slice A ps.length cap] w (fun e w' => ∃ z : Option Addr × Nat, True ∧ e = .returned (.slice z.1 (preF sum s (List.reverse ps) n i).length z.2) ∧ SL w [] w' [.row z.1 z.2 9 1 (List.map strC (preF sum s (List.reverse ps) n i))]) := by
  refine calls_of_CX (O := []) (L := []) (args := [.string s, .int .i64 ((n : Nat) : Int), .int .i64 ((i : Nat) : Int), .slice A ps.length cap]) Tryd.func24 rfl (by simp [Tryd.ntmps24]) (SL.refl w) ?_
  refine CX.sub (V' := [(0, .string s), (1, .int .i64 ((n : Nat) : Int)), (2, .int .i64 ((i : Nat) : Int)), (3, .slice A ps.length cap)]) ⟨rfl, rfl, rfl, rfl, trivial⟩ ?_
  refine CX.seq ?_
  refine CX.region ?_
  refine RX.cons rfl rfl (op_w (yw_assign rfl rfl) rfl rfl ?_)
  refine RX.nil (XX.next (V' := [(0, _), (1, _), (2, _), (3, _)]) ⟨rfl, rfl, rfl, rfl, trivial⟩ ?_)
  refine CX.seq ?_
  refine CX.seq ?_
  refine CX.region ?_
  refine RX.cons rfl rfl (op_w (yw_move rfl rfl) rfl rfl ?_)
  refine RX.cons rfl rfl (op_w (yw_leq rfl rfl rfl) rfl rfl ?_)
  refine RX.cons rfl rfl (op_w (yw_move rfl rfl) rfl rfl ?_)
  refine RX.splitD (t := 16) (p := ((n : Nat) : Int) ≤ 1) rfl (fun d16 => ?_) (fun d16 => ?_)
  · refine RX.skip rfl rfl rfl rfl rfl rfl rfl ?_
    refine RX.skip rfl rfl rfl rfl rfl rfl rfl ?_
    refine RX.skip rfl rfl rfl rfl rfl rfl rfl ?_
    refine RX.cons rfl rfl (op_w (yw_pickT rfl rfl rfl) rfl rfl ?_)
    refine RX.nil (XX.next (V' := [(0, _), (1, _), (2, _), (3, _), (20, _)]) ⟨rfl, rfl, rfl, rfl, rfl, trivial⟩ ?_)
    refine CX.condT rfl ?_
    refine CX.seq ?_
    refine CX.region ?_
    refine RX.cons rfl rfl (op_w (yw_move rfl rfl) rfl rfl ?_)
    refine RX.cons rfl rfl (op_w (yw_stradd rfl rfl rfl (by show 1 + s.size ≤ _; omega)) rfl rfl ?_)
    refine RX.know (t := 22) (u := .string (mark 0 s)) rfl rfl ?_
    refine RX.cons rfl rfl (op_buildSlice rfl rfl rfl slb_35 rfl rfl (by intro v hv; simp only [List.mem_cons, List.not_mem_nil, or_false] at hv; subst hv; exact ⟨rfl, (plain_of rfl)⟩) (by decide) fun gh => ?_)
    refine RX.cons rfl rfl (op_w (yw_assign rfl rfl) rfl rfl ?_)
    refine RX.nil (XX.next (V' := [(8, .slice (some ⟨gh, 0, none⟩) 1 1)]) ⟨rfl, trivial⟩ ?_)
    refine CX.ret ?_
    refine XX.then_ret ?_
    exact ret_tmp rfl rfl fun w1 hw => ⟨(some ⟨gh, 0, none⟩, 1), trivial, by rw [pre_stop s (.inl (by omega))]; rfl, by rw [pre_stop s (.inl (by omega))]; exact hw⟩
  · refine RX.consG rfl rfl rfl rfl rfl (op_w (yw_move rfl rfl) rfl rfl ?_)
    refine RX.consG rfl rfl rfl rfl rfl (op_w (yw_lenS rfl Tryd.underlying35 rfl) rfl rfl ?_)
    refine RX.consG rfl rfl rfl rfl rfl (op_w (yw_eql rfl rfl rfl) rfl rfl ?_)
    refine RX.cons rfl rfl (op_w (yw_pickF rfl rfl rfl) rfl rfl ?_)
    refine RX.nil (XX.next (V' := [(0, _), (1, _), (2, _), (3, _), (20, _)]) ⟨rfl, rfl, rfl, rfl, rfl, trivial⟩ ?_)
    refine CX.condD (p := ((ps.length : Nat) : Int) = 0) rfl (fun c20 => ?_) (fun c20 => ?_)
    · refine CX.seq ?_
      refine CX.region ?_
      refine RX.cons rfl rfl (op_w (yw_move rfl rfl) rfl rfl ?_)
      refine RX.cons rfl rfl (op_w (yw_stradd rfl rfl rfl (by show 1 + s.size ≤ _; omega)) rfl rfl ?_)
      refine RX.know (t := 22) (u := .string (mark 0 s)) rfl rfl ?_
      refine RX.cons rfl rfl (op_buildSlice rfl rfl rfl slb_35 rfl rfl (by intro v hv; simp only [List.mem_cons, List.not_mem_nil, or_false] at hv; subst hv; exact ⟨rfl, (plain_of rfl)⟩) (by decide) fun gh => ?_)
      refine RX.cons rfl rfl (op_w (yw_assign rfl rfl) rfl rfl ?_)
      refine RX.nil (XX.next (V' := [(8, .slice (some ⟨gh, 0, none⟩) 1 1)]) ⟨rfl, trivial⟩ ?_)
      refine CX.ret ?_
      refine XX.then_ret ?_
      exact ret_tmp rfl rfl fun w1 hw => ⟨(some ⟨gh, 0, none⟩, 1), trivial, by rw [pre_stop s (.inr (by rw [List.eq_nil_of_length_eq_zero (l := ps) (by omega)]; rfl))]; rfl, by rw [pre_stop s (.inr (by rw [List.eq_nil_of_length_eq_zero (l := ps) (by omega)]; rfl))]; exact hw⟩
    · obtain ⟨x0, hx0⟩ := get_some (l := ps) (k := ps.length - 1) (by omega)
      have hx0z := hsz x0 (List.mem_of_getElem? hx0)
      have hA : ∃ b j, A = some ⟨b, j, none⟩ := hr.some (k := 0) (by simp; omega)
      have hq1 := lft_pos n
      have hq2 := lft_lt (n := n) (by omega)
      refine CX.skip (XX.next (V' := [(0, _), (1, _), (2, _), (3, _)]) ⟨rfl, rfl, rfl, rfl, trivial⟩ ?_)
      refine CX.seq ?_
      refine CX.region ?_
      refine RX.cons rfl rfl (op_w (yw_move rfl rfl) rfl rfl ?_)
      refine RX.cons rfl rfl (op_callV (v := .int .i64 ((lft n : Nat) : Int)) rfl rfl rfl rfl rfl ent_41 (fun w hw => w_left02 n (by omega) (by omega)) ?_)
      refine RX.cons rfl rfl (op_w (yw_assign rfl rfl) rfl rfl ?_)
      refine RX.nil (XX.next (V' := [(0, _), (1, _), (2, _), (3, _), (9, _)]) ⟨rfl, rfl, rfl, rfl, rfl, trivial⟩ ?_)
      refine CX.seq ?_
      refine CX.region ?_
      refine RX.cons rfl rfl (op_w (yw_move rfl rfl) rfl rfl ?_)
      refine RX.cons rfl rfl (op_w (yw_move rfl rfl) rfl rfl ?_)
      refine RX.cons rfl rfl (op_w (yw_lenS rfl Tryd.underlying35 rfl) rfl rfl ?_)
      refine RX.cons rfl rfl (op_w (yw_sub rfl rfl rfl (by omega) (by omega)) rfl rfl ?_)
      refine RX.cons rfl rfl (op_w (yw_index (k := (ps.length - 1)) rfl slt_35 rfl rfl (by omega) (by omega) hA) rfl rfl ?_)
      refine RX.cons rfl rfl (op_yld (y_elem1 rfl rfl one_9 hr (by simp) (map_get hx0)) rfl rfl ?_)
      refine RX.cons rfl rfl (op_w (yw_assign rfl rfl) rfl rfl ?_)
      refine RX.nil (XX.next (V' := [(0, _), (1, _), (2, _), (3, _), (9, _), (10, _)]) ⟨rfl, rfl, rfl, rfl, rfl, rfl, trivial⟩ ?_)
      refine CX.seq ?_
      refine CX.region ?_
      refine RX.cons rfl rfl (op_w (yw_move rfl rfl) rfl rfl ?_)
      refine RX.cons rfl rfl (op_w (yw_move rfl rfl) rfl rfl ?_)
      refine RX.cons rfl rfl (op_w (yw_lenS rfl Tryd.underlying35 rfl) rfl rfl ?_)
      refine RX.cons rfl rfl (op_w (yw_sub rfl rfl rfl (by omega) (by omega)) rfl rfl ?_)
      refine RX.cons rfl rfl (op_w (yw_sliceTo (k := (ps.length - 1)) rfl slt_35 rfl rfl (by omega) (by omega)) rfl rfl ?_)
      refine RX.know (t := 36) (u := .slice A ((List.take (ps.length - 1) ps).length) cap) rfl (congrArg (fun n => Value.slice A n cap) (by simp)) ?_
      refine RX.cons rfl rfl (op_w (yw_assign rfl rfl) rfl rfl ?_)
      refine RX.nil (XX.next (V' := [(0, _), (1, _), (2, _), (9, _), (10, _), (11, _)]) ⟨rfl, rfl, rfl, rfl, rfl, rfl, trivial⟩ ?_)
      refine CX.seq ?_
      refine CX.seq ?_
      refine CX.region ?_
      refine RX.cons rfl rfl (op_w (yw_move rfl rfl) rfl rfl ?_)
      refine RX.cons rfl rfl (op_w (yw_move rfl rfl) rfl rfl ?_)
      refine RX.cons rfl rfl (op_w (yw_lss rfl rfl rfl) rfl rfl ?_)
      refine RX.nil (XX.next (V' := [(0, _), (1, _), (2, _), (9, _), (10, _), (11, _), (39, _)]) ⟨rfl, rfl, rfl, rfl, rfl, rfl, rfl, trivial⟩ ?_)
      refine CX.condD (p := ((i : Nat) : Int) < ((lft n : Nat) : Int)) rfl (fun c39 => ?_) (fun c39 => ?_)
      · refine CX.seq ?_
        refine CX.region ?_
        refine RX.cons rfl rfl (op_w (yw_move rfl rfl) rfl rfl ?_)
        refine RX.cons rfl rfl (op_w (yw_move rfl rfl) rfl rfl ?_)
        refine RX.cons rfl rfl (op_w (yw_move rfl rfl) rfl rfl ?_)
        refine RX.cons rfl rfl (op_w (yw_move rfl rfl) rfl rfl ?_)
        refine RX.cons rfl rfl (op_callE rfl rfl rfl rfl rfl ent_24 (fun w hw => ih (List.take (ps.length - 1) ps) (lft n) i w _ _ (by rw [List.length_take]; omega) (hw.rd (hr.takeM (ps.length - 1)) (by simp)) (by rw [List.length_take]; omega) (by rw [List.length_take]; omega) (fun x hx => hsz x (List.mem_of_mem_take hx)) (by omega) (by omega)) (fun zp _ => ?_))
        refine RX.cons rfl rfl (op_w (yw_assign rfl rfl) rfl rfl ?_)
        refine RX.nil (XX.next (V' := [(10, _), (12, _)]) ⟨rfl, rfl, trivial⟩ ?_)
        refine CX.seq ?_
        have hpp := pre_pos s (List.take (ps.length - 1) ps).reverse (lft n) i
        have hpl := pre_length s (List.take (ps.length - 1) ps).reverse (lft n) i
        rw [List.length_reverse, List.length_take] at hpl
        obtain ⟨y0, hy0⟩ := get_some (l := (preF sum s (List.reverse (List.take (ps.length - 1) ps)) (lft n) i)) (k := (preF sum s (List.reverse (List.take (ps.length - 1) ps)) (lft n) i).length - 1) (by omega)
        have hy0l := last_getD hy0
        have hy0z := pre_sizes s (b := 4294967296) (by decide) hs (List.take (ps.length - 1) ps).reverse (lft n) i (fun x hx => hsz x (List.mem_of_mem_take (List.mem_reverse.1 hx))) y0 (List.mem_of_getElem? hy0)
        refine CX.rowSome 0 rfl (by rw [List.length_map]; omega) (fun hAp => ?_)
        refine CX.region ?_
        refine RX.cons rfl rfl (op_w (yw_move rfl rfl) rfl rfl ?_)
        refine RX.cons rfl rfl (op_w (yw_move rfl rfl) rfl rfl ?_)
        refine RX.cons rfl rfl (op_w (yw_move rfl rfl) rfl rfl ?_)
        refine RX.cons rfl rfl (op_w (yw_lenS rfl Tryd.underlying35 rfl) rfl rfl ?_)
        refine RX.cons rfl rfl (op_w (yw_sub rfl rfl rfl (by omega) (by omega)) rfl rfl ?_)
        refine RX.cons rfl rfl (op_w (yw_index (k := ((preF sum s (List.reverse (List.take (ps.length - 1) ps)) (lft n) i).length - 1)) rfl slt_35 rfl rfl (by omega) (by omega) hAp) rfl rfl ?_)
        refine RX.cons rfl rfl (op_yld (y_rowElem1 (i := 0) rfl rfl one_9 rfl (map_get hy0)) rfl rfl ?_)
        refine RX.cons rfl rfl (op_callV (v := .string (sum y0)) rfl rfl rfl rfl rfl ent_40 (fun w hw => w_sum02 y0 (by rw [Array.length_toList]; show y0.size ≤ _; omega)) ?_)
        refine RX.cons rfl rfl (op_w (yw_stradd rfl rfl rfl (by rw [sum_size]; decide)) rfl rfl ?_)
        refine RX.cons rfl rfl (op_w (yw_move rfl rfl) rfl rfl ?_)
        refine RX.cons rfl rfl (op_w (yw_stradd rfl rfl rfl (by rw [ByteArray.size_append, sum_size, hx0z]; decide)) rfl rfl ?_)
        refine RX.know (t := 55) (u := .string (mark 1 (sum y0 ++ x0))) rfl (congrArg Value.string (mark_cat 1 _ _)) ?_
        refine RX.cons rfl rfl (op_buildSlice rfl rfl rfl slb_35 rfl rfl (by intro v hv; simp only [List.mem_cons, List.not_mem_nil, or_false] at hv; subst hv; exact ⟨rfl, (plain_of rfl)⟩) (by decide) fun g9 => ?_)
        refine RX.cons rfl rfl (op_appendM strC (i := 1) (j := 0) (xs := (preF sum s (List.reverse (List.take (ps.length - 1) ps)) (lft n) i)) ([(mark 1 (sum y0 ++ x0))]) rfl rfl rfl slb_35 rfl rfl rfl rfl rfl rfl (by rw [List.length_singleton]; omega) (by rw [List.length_singleton]; omega) fun A6 c6 => ?_)
        refine RX.cons rfl rfl (op_w (yw_assign rfl rfl) rfl rfl ?_)
        refine RX.nil (XX.next (V' := [(8, .slice A6 (((preF sum s (List.reverse (List.take (ps.length - 1) ps)) (lft n) i) ++ [(mark 1 (sum y0 ++ x0))]).length) c6)]) ⟨rfl, trivial⟩ ?_)
        refine CX.ret ?_
        refine XX.then_ret ?_
        exact ret_tmp rfl rfl fun w1 hw => ⟨(A6, c6), trivial, by rw [rev_last hx0, pre_lt s x0 _ (by omega) (by omega), hy0l], by rw [rev_last hx0, pre_lt s x0 _ (by omega) (by omega), hy0l]; exact hw.pick ((perm_pick 1 rfl).trans (List.Perm.cons _ (List.Perm.refl _)))⟩
      · refine CX.skip (XX.next (V' := [(0, _), (1, _), (2, _), (9, _), (10, _), (11, _)]) ⟨rfl, rfl, rfl, rfl, rfl, rfl, trivial⟩ ?_)
        refine CX.seq ?_
        refine CX.region ?_
        refine RX.cons rfl rfl (op_w (yw_move rfl rfl) rfl rfl ?_)
        refine RX.cons rfl rfl (op_w (yw_move rfl rfl) rfl rfl ?_)
        refine RX.cons rfl rfl (op_w (yw_move rfl rfl) rfl rfl ?_)
        refine RX.cons rfl rfl (op_w (yw_sub rfl rfl rfl (by omega) (by omega)) rfl rfl ?_)
        refine RX.know (t := 61) (u := .int .i64 ((n - lft n : Nat) : Int)) rfl (congrArg (Value.int .i64) (by omega)) ?_
        refine RX.cons rfl rfl (op_w (yw_move rfl rfl) rfl rfl ?_)
        refine RX.cons rfl rfl (op_w (yw_move rfl rfl) rfl rfl ?_)
        refine RX.cons rfl rfl (op_w (yw_sub rfl rfl rfl (by omega) (by omega)) rfl rfl ?_)
        refine RX.know (t := 64) (u := .int .i64 ((i - lft n : Nat) : Int)) rfl (congrArg (Value.int .i64) (by omega)) ?_
        refine RX.cons rfl rfl (op_w (yw_move rfl rfl) rfl rfl ?_)
        refine RX.cons rfl rfl (op_callE rfl rfl rfl rfl rfl ent_24 (fun w hw => ih (List.take (ps.length - 1) ps) (n - lft n) (i - lft n) w _ _ (by rw [List.length_take]; omega) (hw.rd (hr.takeM (ps.length - 1)) (by simp)) (by rw [List.length_take]; omega) (by rw [List.length_take]; omega) (fun x hx => hsz x (List.mem_of_mem_take hx)) (by omega) (by omega)) (fun zp _ => ?_))
        refine RX.cons rfl rfl (op_w (yw_assign rfl rfl) rfl rfl ?_)
        refine RX.nil (XX.next (V' := [(10, _), (13, _)]) ⟨rfl, rfl, trivial⟩ ?_)
        refine CX.seq ?_
        have hpp := pre_pos s (List.take (ps.length - 1) ps).reverse (n - lft n) (i - lft n)
        have hpl := pre_length s (List.take (ps.length - 1) ps).reverse (n - lft n) (i - lft n)
        rw [List.length_reverse, List.length_take] at hpl
        obtain ⟨y0, hy0⟩ := get_some (l := (preF sum s (List.reverse (List.take (ps.length - 1) ps)) (n - lft n) (i - lft n))) (k := (preF sum s (List.reverse (List.take (ps.length - 1) ps)) (n - lft n) (i - lft n)).length - 1) (by omega)
        have hy0l := last_getD hy0
        have hy0z := pre_sizes s (b := 4294967296) (by decide) hs (List.take (ps.length - 1) ps).reverse (n - lft n) (i - lft n) (fun x hx => hsz x (List.mem_of_mem_take (List.mem_reverse.1 hx))) y0 (List.mem_of_getElem? hy0)
        refine CX.rowSome 0 rfl (by rw [List.length_map]; omega) (fun hAp => ?_)
        refine CX.region ?_
        refine RX.cons rfl rfl (op_w (yw_move rfl rfl) rfl rfl ?_)
        refine RX.cons rfl rfl (op_w (yw_move rfl rfl) rfl rfl ?_)
        refine RX.cons rfl rfl (op_w (yw_stradd rfl rfl rfl (by rw [hx0z]; decide)) rfl rfl ?_)
        refine RX.cons rfl rfl (op_w (yw_move rfl rfl) rfl rfl ?_)
        refine RX.cons rfl rfl (op_w (yw_move rfl rfl) rfl rfl ?_)
        refine RX.cons rfl rfl (op_w (yw_lenS rfl Tryd.underlying35 rfl) rfl rfl ?_)
        refine RX.cons rfl rfl (op_w (yw_sub rfl rfl rfl (by omega) (by omega)) rfl rfl ?_)
        refine RX.cons rfl rfl (op_w (yw_index (k := ((preF sum s (List.reverse (List.take (ps.length - 1) ps)) (n - lft n) (i - lft n)).length - 1)) rfl slt_35 rfl rfl (by omega) (by omega) hAp) rfl rfl ?_)
        refine RX.cons rfl rfl (op_yld (y_rowElem1 (i := 0) rfl rfl one_9 rfl (map_get hy0)) rfl rfl ?_)
        refine RX.cons rfl rfl (op_callV (v := .string (sum y0)) rfl rfl rfl rfl rfl ent_40 (fun w hw => w_sum02 y0 (by rw [Array.length_toList]; show y0.size ≤ _; omega)) ?_)
        refine RX.cons rfl rfl (op_w (yw_stradd rfl rfl rfl (by rw [ByteArray.size_append, sum_size, hx0z]; decide)) rfl rfl ?_)
        refine RX.know (t := 77) (u := .string (mark 1 (x0 ++ sum y0))) rfl (congrArg Value.string (mark_cat 1 _ _)) ?_
        refine RX.cons rfl rfl (op_buildSlice rfl rfl rfl slb_35 rfl rfl (by intro v hv; simp only [List.mem_cons, List.not_mem_nil, or_false] at hv; subst hv; exact ⟨rfl, (plain_of rfl)⟩) (by decide) fun g9 => ?_)
        refine RX.cons rfl rfl (op_appendM strC (i := 1) (j := 0) (xs := (preF sum s (List.reverse (List.take (ps.length - 1) ps)) (n - lft n) (i - lft n))) ([(mark 1 (x0 ++ sum y0))]) rfl rfl rfl slb_35 rfl rfl rfl rfl rfl rfl (by rw [List.length_singleton]; omega) (by rw [List.length_singleton]; omega) fun A6 c6 => ?_)
        refine RX.cons rfl rfl (op_w (yw_assign rfl rfl) rfl rfl ?_)
        refine RX.nil (XX.next (V' := [(8, .slice A6 (((preF sum s (List.reverse (List.take (ps.length - 1) ps)) (n - lft n) (i - lft n)) ++ [(mark 1 (x0 ++ sum y0))]).length) c6)]) ⟨rfl, trivial⟩ ?_)
        refine CX.ret ?_
        exact ret_tmp rfl rfl fun w1 hw => ⟨(A6, c6), trivial, by rw [rev_last hx0, pre_ge s x0 _ (by omega) (by omega), hy0l], by rw [rev_last hx0, pre_ge s x0 _ (by omega) (by omega), hy0l]; exact hw.pick ((perm_pick 1 rfl).trans (List.Perm.cons _ (List.Perm.refl _)))⟩

theorem w_pre24 {w : World} {A : Option Addr} {cap : Nat} (s : ByteArray) (n i : Nat) (ps : List ByteArray) (hr : Rd w A 1 (ps.map strC)) (hcap : ps.length ≤ cap) (hl : ps.length ≤ 1000000) (hsz : ∀ x ∈ ps, x.size = 32) (hs : s.size ≤ 4294967296) (hn : n ≤ 1099511627776) (hi : i ≤ 1099511627776) : Calls Tryd.prog 24 #[.string s, .int .i64 ((n : Nat) : Int), .int .i64 ((i : Nat) : Int), .slice A ps.length cap] w (fun e w' => ∃ z : Option Addr × Nat, True ∧ e = .returned (.slice z.1 (preF sum s (List.reverse ps) n i).length z.2) ∧ SL w [] w' [.row z.1 z.2 9 1 (List.map strC (preF sum s (List.reverse ps) n i))]) := by
  have H : ∀ (N : Nat) (ps : List ByteArray) (n i : Nat) (w : World) (A : Option Addr) (cap : Nat), ps.length ≤ N → Rd w A 1 (ps.map strC) → ps.length ≤ cap → ps.length ≤ 1000000 → (∀ x ∈ ps, x.size = 32) → n ≤ 1099511627776 → i ≤ 1099511627776 → Calls Tryd.prog 24 #[.string s, .int .i64 ((n : Nat) : Int), .int .i64 ((i : Nat) : Int), .slice A ps.length cap] w (fun e w' => ∃ z : Option Addr × Nat, True ∧ e = .returned (.slice z.1 (preF sum s (List.reverse ps) n i).length z.2) ∧ SL w [] w' [.row z.1 z.2 9 1 (List.map strC (preF sum s (List.reverse ps) n i))]) := by
    intro N
    induction N with
    | zero => exact fun ps n i w A cap hN hr hcap hl hsz hn hi => w_pre24s s n i ps hr hcap hl hsz hs hn hi (fun qs m j w A cap h => by omega)
    | succ N ih => exact fun ps n i w A cap hN hr hcap hl hsz hn hi => w_pre24s s n i ps hr hcap hl hsz hs hn hi (fun qs m j w A cap h => ih qs m j w A cap (by omega))
  exact H ps.length ps n i w A cap (Nat.le_refl _) hr hcap hl hsz hn hi
set_option maxRecDepth 100000 in
theorem w_entries24 {w : World} {A : Option Addr} {cap : Nat} (X : List SX) (hr : Rd w A 3 (X.map stC)) (hX : ∀ x ∈ X, Rd w x.1.1 3 (x.2.ls.map lnC)) (hXl : ∀ x ∈ X, x.2.ls.length ≤ 1000000) (hl : X.length ≤ 1000000) (hok : ∀ x ∈ X, okS x.2 = true) :
    Calls Tryd.prog 29 #[.slice A X.length cap] w (fun e w' => ∃ z : Option Addr × Nat, True ∧ e = .returned (.slice z.1 (entsX X).length z.2) ∧ SL w [] w' [.row z.1 z.2 9 1 (List.map strC (entsX X))]) := by
  refine calls_of_CX (O := []) (L := []) (args := [.slice A X.length cap]) Tryd.func29 rfl (by simp [Tryd.ntmps29]) (SL.refl w) ?_
  refine CX.sub (V' := [(0, .slice A X.length cap)]) ⟨rfl, trivial⟩ ?_
  refine CX.seq ?_
  refine CX.region ?_
  refine RX.cons rfl rfl (op_w (yw_assign rfl rfl) rfl rfl ?_)
  refine RX.nil (XX.next (V' := [(0, _)]) ⟨rfl, trivial⟩ ?_)
  refine CX.seq ?_
  refine CX.region ?_
  refine RX.cons rfl rfl (op_w (yw_assign rfl rfl) rfl rfl ?_)
  refine RX.nil (XX.next (V' := [(0, _), (3, _)]) ⟨rfl, rfl, trivial⟩ ?_)
  refine CX.seq ?_
  refine CX.region ?_
  refine RX.cons rfl rfl (op_makeSlice (m := 32) rfl rfl rfl slb_60 rfl rfl rfl rfl (plain_of rfl) (by decide) (by decide) fun gz => ?_)
  refine RX.know1 0 (q := .row (some ⟨gz, 0, none⟩) 32 5 1 (List.map u8c (List.replicate 32 (0 : UInt8)))) rfl (congrArg (Ent.row (some ⟨gz, 0, none⟩) 32 5 1) zero32_cells) ?_
  refine RX.cons rfl rfl (op_yld (y_bytesRow (i := 0) (l := (List.replicate 32 (0 : UInt8))) rfl rfl Tryd.underlying60 Tryd.underlying5 Tryd.underlying9 rfl (by decide)) rfl rfl ?_)
  refine RX.know (t := 9) (u := .string zero32) rfl rfl ?_
  refine RX.cons rfl rfl (op_w (yw_assign rfl rfl) rfl rfl ?_)
  refine RX.nil (XX.next (V' := [(0, _), (3, _), (4, _)]) ⟨rfl, rfl, rfl, trivial⟩ ?_)
  refine CX.seq ?_
  refine CX.seq ?_
  refine CX.region ?_
  refine RX.cons rfl rfl (op_w (yw_assign rfl rfl) rfl rfl ?_)
  refine RX.nil (XX.next (V' := [(0, _), (3, _), (4, _), (5, _)]) ⟨rfl, rfl, rfl, rfl, trivial⟩ ?_)
  refine CX.block ?_
  refine CX.drop (L' := []) (List.nil_sublist _) ?_
  refine CX.rowNil 9 1 ?_
  refine CX.loop (σ := Nat × (Option Addr × Nat) × List ByteArray × ByteArray) (fun z => [(0, .slice A X.length cap), (3, .slice z.2.1.1 (List.length (z.2.2.1 : List ByteArray)) z.2.1.2), (4, .string z.2.2.2), (5, .int .i64 ((z.1 : Nat) : Int))]) (fun z => [.row z.2.1.1 z.2.1.2 9 1 (List.map strC z.2.2.1)]) (fun z => z.1 ≤ X.length ∧ z.2.2.1 = (entsF zero32 ((encsX X).take z.1)) ∧ z.2.2.2 = headF zero32 ((encsX X).take z.1) ∧ z.2.2.2.size = 32 ∧ z.2.2.1.length = z.1) (fun z => X.length - z.1) (0, (none, 0), [], zero32) ⟨Nat.zero_le _, rfl, rfl, rfl, rfl⟩ ⟨rfl, rfl, rfl, rfl, trivial⟩ rfl (fun z hI => ?_)
  obtain ⟨i, ⟨A1, c1⟩, es, hd⟩ := z
  dsimp only at hI ⊢
  obtain ⟨hi, hes, hhd, hds, hel⟩ := hI
  refine CX.seq ?_
  refine CX.seq ?_
  refine CX.region ?_
  refine RX.cons rfl rfl (op_w (yw_move rfl rfl) rfl rfl ?_)
  refine RX.cons rfl rfl (op_w (yw_move rfl rfl) rfl rfl ?_)
  refine RX.cons rfl rfl (op_w (yw_lenS rfl Tryd.underlying22 rfl) rfl rfl ?_)
  refine RX.cons rfl rfl (op_w (yw_lss rfl rfl rfl) rfl rfl ?_)
  refine RX.nil (XX.next (V' := [(0, _), (3, _), (4, _), (5, _), (13, _)]) ⟨rfl, rfl, rfl, rfl, rfl, trivial⟩ ?_)
  refine CX.condD (p := ((i : Nat) : Int) < ((X.length : Nat) : Int)) rfl (fun c13 => ?_) (fun c13 => ?_)
  · obtain ⟨x0, hx0⟩ := get_some (l := X) (k := i) (by omega)
    have hx0m := List.mem_of_getElem? hx0
    have hA : ∃ b j, A = some ⟨b, j, none⟩ := hr.some (k := 0) (by simp; omega)
    have hez := encS_size x0.2
    have hez2 := hXl x0 hx0m
    have hxe : (encsX X)[i]? = some (encS x0.2) := map_get (f := fun x : SX => encS x.2) hx0
    refine CX.skip (XX.next (V' := [(0, _), (3, _), (4, _), (5, _)]) ⟨rfl, rfl, rfl, rfl, trivial⟩ ?_)
    refine CX.seq ?_
    refine CX.block ?_
    refine CX.seq ?_
    refine CX.region ?_
    refine RX.cons rfl rfl (op_w (yw_move rfl rfl) rfl rfl ?_)
    refine RX.cons rfl rfl (op_w (yw_move rfl rfl) rfl rfl ?_)
    refine RX.cons rfl rfl (op_w (yw_index (k := i) rfl slt_22 rfl rfl (by omega) (by omega) hA) rfl rfl ?_)
    refine RX.cons rfl rfl (op_yld (y_elem rfl rfl agg_34 hr (by simp) (map_get hx0)) rfl rfl ?_)
    refine RX.cons rfl rfl (op_callV (v := .tuple #[.string (encS x0.2), .int .i64 0]) rfl rfl rfl rfl rfl ent_22 (fun w hw => by have h := w_encode19 (cap := x0.1.2) x0.2 (hw.rd (hX x0 hx0m) (by simp)) (hXl x0 hx0m); rw [encR_ok (hok x0 hx0m)] at h; exact h) ?_)
    refine RX.cons rfl rfl (op_w (yw_move rfl rfl) rfl rfl ?_)
    refine RX.cons rfl rfl (op_w (yw_extract rfl rfl rfl) rfl rfl ?_)
    refine RX.cons rfl rfl (op_w (yw_extract rfl rfl rfl) rfl rfl ?_)
    refine RX.cons rfl rfl (op_w (yw_assign rfl rfl) rfl rfl ?_)
    refine RX.cons rfl rfl (op_w (yw_assign rfl rfl) rfl rfl ?_)
    refine RX.nil (XX.next (V' := [(0, _), (3, _), (4, _), (5, _), (6, _)]) ⟨rfl, rfl, rfl, rfl, rfl, trivial⟩ ?_)
    refine CX.seq ?_
    refine CX.region ?_
    refine RX.cons rfl rfl (op_w (yw_move rfl rfl) rfl rfl ?_)
    refine RX.cons rfl rfl (op_w (yw_move rfl rfl) rfl rfl ?_)
    refine RX.cons rfl rfl (op_callV (v := .string (chainH sum hd (encS x0.2))) rfl rfl rfl rfl rfl ent_52 (fun w hw => w_chain02 hd (encS x0.2) (by omega)) ?_)
    refine RX.cons rfl rfl (op_w (yw_assign rfl rfl) rfl rfl ?_)
    refine RX.nil (XX.next (V' := [(0, _), (3, _), (4, _), (5, _), (6, _)]) ⟨rfl, rfl, rfl, rfl, rfl, trivial⟩ ?_)
    refine CX.region ?_
    refine RX.cons rfl rfl (op_w (yw_move rfl rfl) rfl rfl ?_)
    refine RX.cons rfl rfl (op_w (yw_move rfl rfl) rfl rfl ?_)
    refine RX.cons rfl rfl (op_w (yw_stradd rfl rfl rfl (by rw [show (chainH sum hd (encS x0.2)).size = 32 from sum_size _]; decide)) rfl rfl ?_)
    refine RX.know (t := 29) (u := .string (saltB ++ chainH sum hd (encS x0.2))) rfl rfl ?_
    refine RX.cons rfl rfl (op_callV (v := .string (sum (saltB ++ chainH sum hd (encS x0.2)))) rfl rfl rfl rfl rfl ent_40 (fun w hw => w_sum02 (saltB ++ chainH sum hd (encS x0.2)) (by rw [Array.length_toList]; show (saltB ++ chainH sum hd (encS x0.2)).size ≤ _; rw [ByteArray.size_append, show (chainH sum hd (encS x0.2)).size = 32 from sum_size _]; decide)) ?_)
    refine RX.cons rfl rfl (op_w (yw_move rfl rfl) rfl rfl ?_)
    refine RX.cons rfl rfl (op_w (yw_stradd rfl rfl rfl (by rw [sum_size]; omega)) rfl rfl ?_)
    refine RX.cons rfl rfl (op_buildSlice rfl rfl rfl slb_35 rfl rfl (by intro v hv; simp only [List.mem_cons, List.not_mem_nil, or_false] at hv; subst hv; exact ⟨rfl, (plain_of rfl)⟩) (by decide) fun g9 => ?_)
    refine RX.cons rfl rfl (op_appendM strC (i := 1) (j := 0) (xs := es) ([entB (chainH sum hd (encS x0.2)) (encS x0.2)]) rfl rfl rfl slb_35 rfl rfl rfl rfl rfl rfl (by simp only [List.length_singleton]; omega) (by simp only [List.length_singleton]; omega) fun A2 c2 => ?_)
    refine RX.cons rfl rfl (op_w (yw_assign rfl rfl) rfl rfl ?_)
    refine RX.nil (XX.inBlock (V' := [(0, _), (3, _), (4, _), (5, _)]) ⟨rfl, rfl, rfl, rfl, trivial⟩ ?_)
    refine XX.next (V' := [(0, _), (3, _), (4, _), (5, _)]) ⟨rfl, rfl, rfl, rfl, trivial⟩ ?_
    refine CX.region ?_
    refine RX.cons rfl rfl (op_w (yw_move rfl rfl) rfl rfl ?_)
    refine RX.cons rfl rfl (op_w (yw_add rfl rfl rfl (by omega) (by omega)) rfl rfl ?_)
    refine RX.cons rfl rfl (op_w (yw_assign rfl rfl) rfl rfl ?_)
    refine RX.nil (XX.againP ([.row (some ⟨g9, 0, none⟩) 1 9 1 (List.map strC ([entB (chainH sum hd (encS x0.2)) (encS x0.2)]))]) (i + 1, (A2, c2), es ++ [entB (chainH sum hd (encS x0.2)) (encS x0.2)], chainH sum hd (encS x0.2)) (by dsimp only; omega) ⟨by dsimp only; omega, by dsimp only; rw [take_succ hxe, entsF_snoc, ← hes, ← hhd], by dsimp only; rw [take_succ hxe, headF_snoc, ← hhd], sum_size _, by dsimp only; rw [List.length_append, List.length_singleton, hel]⟩ ⟨rfl, rfl, rfl, rfl, trivial⟩ ((perm_pick 1 rfl).trans (List.Perm.cons _ (List.Perm.refl _))))
  · have hes' : es = entsX X := by rw [hes, List.take_of_length_le (by rw [encsX, List.length_map]; omega)]; rfl
    refine CX.exit ?_
    refine XX.then_exit ?_
    refine XX.then_exit ?_
    refine XX.block_exit ?_
    refine XX.next (V' := [(3, _)]) ⟨rfl, trivial⟩ ?_
    refine CX.seq ?_
    refine CX.region ?_
    refine RX.cons rfl rfl (op_w (yw_move rfl rfl) rfl rfl ?_)
    refine RX.cons rfl rfl (op_w (yw_assign rfl rfl) rfl rfl ?_)
    refine RX.nil (XX.next (V' := [(2, .slice A1 (List.length (es : List ByteArray)) c1)]) ⟨rfl, trivial⟩ ?_)
    refine CX.ret ?_
    exact ret_tmp rfl rfl fun w1 hw => ⟨(A1, c1), trivial, by rw [← hes'], by rw [← hes']; exact hw.pick ((perm_pick 0 rfl).trans (List.Perm.cons _ (List.Perm.refl _)))⟩

end Go.Proofs.YtnadipjlhlbfoaaDoor
namespace Go.Proofs.YtnadipjlhlbfoaaDoor
set_option linter.all false
open Go Go.RowKit
theorem low7 (z : BitVec 64) : ((z &&& 127#64).setWidth 8).toNat = z.toNat % 128 := by
  rw [BitVec.toNat_setWidth, BitVec.toNat_and, show (127#64).toNat = 2 ^ 7 - 1 from rfl, Nat.and_two_pow_sub_one_eq_mod]
  omega
theorem or128 (x : BitVec 8) (h : x.toNat < 128) : (x ||| 128#8).toNat = x.toNat + 128 := by
  rw [BitVec.toNat_or, show (128#8).toNat = 2 ^ 7 * 1 from rfl, Nat.or_comm, ← Nat.two_pow_add_eq_or_of_lt (by omega)]
  omega
theorem grp_last (z : BitVec 64) : (grpB ((z &&& 127#64).setWidth 8, true)).toNat = z.toNat % 128 := low7 z
theorem grp_more (z : BitVec 64) : (grpB ((z &&& 127#64).setWidth 8, false)).toNat = z.toNat % 128 + 128 := by
  show (((z &&& 127#64).setWidth 8) ||| 128#8).toNat = _
  rw [or128 _ (by rw [low7]; omega), low7]
theorem shr7 (z : BitVec 64) : (z >>> 7).toNat = z.toNat / 128 := by rw [BitVec.toNat_ushiftRight, Nat.shiftRight_eq_div_pow]
theorem putW_prefix : ∀ (f : Nat) (z z' : BitVec 64) (r r' : List UInt8), z.toNat < 2 ^ (7 * f) → z'.toNat < 2 ^ (7 * f) → (putW f z).map grpB ++ r = (putW f z').map grpB ++ r' → z = z' ∧ r = r'
  | 0, z, z', r, r', h, h', e => by
    simp at h h'
    exact ⟨BitVec.eq_of_toNat_eq (by omega), e⟩
  | f + 1, z, z', r, r', h, h', e => by
    by_cases hz : z.toNat < 128
    · rw [putW_last hz] at e
      by_cases hz' : z'.toNat < 128
      · rw [putW_last hz'] at e
        simp only [List.map_cons, List.map_nil, List.cons_append, List.nil_append, List.cons.injEq] at e
        have h1 := congrArg UInt8.toNat e.1
        rw [grp_last, grp_last] at h1
        exact ⟨BitVec.eq_of_toNat_eq (by omega), e.2⟩
      · rw [putW_more hz'] at e
        simp only [List.map_cons, List.map_nil, List.cons_append, List.nil_append, List.cons.injEq] at e
        have h1 := congrArg UInt8.toNat e.1
        rw [grp_last, grp_more] at h1
        omega
    · rw [putW_more hz] at e
      by_cases hz' : z'.toNat < 128
      · rw [putW_last hz'] at e
        simp only [List.map_cons, List.map_nil, List.cons_append, List.nil_append, List.cons.injEq] at e
        have h1 := congrArg UInt8.toNat e.1
        rw [grp_last, grp_more] at h1
        omega
      · rw [putW_more hz'] at e
        simp only [List.map_cons, List.cons_append, List.cons.injEq] at e
        have h1 := congrArg UInt8.toNat e.1
        rw [grp_more, grp_more] at h1
        have h2 := putW_prefix f (z >>> 7) (z' >>> 7) r r' (by rw [shr7]; exact grp_lt h) (by rw [shr7]; exact grp_lt h') e.2
        have h3 := congrArg BitVec.toNat h2.1
        rw [shr7, shr7] at h3
        exact ⟨BitVec.eq_of_toNat_eq (by omega), h2.2⟩
theorem encI_prefix {n m : Nat} {r r' : List UInt8} (hn : n ≤ 4611686018427387903) (hm : m ≤ 4611686018427387903) (e : encI n ++ r = encI m ++ r') : n = m ∧ r = r' := by
  have h := putW_prefix 10 (BitVec.ofNat 64 (2 * n)) (BitVec.ofNat 64 (2 * m)) r r' (Nat.lt_trans (BitVec.isLt _) (by decide)) (Nat.lt_trans (BitVec.isLt _) (by decide)) e
  have h1 := congrArg BitVec.toNat h.1
  rw [ofNat_toNat (by omega), ofNat_toNat (by omega)] at h1
  exact ⟨by omega, h.2⟩
theorem putL_prefix : ∀ (ns ms : List Int) (r r' : List UInt8), ns.length = ms.length → (∀ n ∈ ns, 0 ≤ n ∧ n ≤ 4611686018427387903) → (∀ n ∈ ms, 0 ≤ n ∧ n ≤ 4611686018427387903) → putL ns ++ r = putL ms ++ r' → ns = ms ∧ r = r'
  | [], [], r, r', _, _, _, e => ⟨rfl, e⟩
  | [], m :: ms, _, _, h, _, _, _ => by simp at h
  | n :: ns, [], _, _, h, _, _, _ => by simp at h
  | n :: ns, m :: ms, r, r', h, hn, hm, e => by
    have e1 : encI n.toNat ++ (putL ns ++ r) = encI m.toNat ++ (putL ms ++ r') := by
      have : ∀ (k : Int) (l : List Int) (t : List UInt8), putL (k :: l) ++ t = encI k.toNat ++ (putL l ++ t) := fun k l t => by simp [putL]
      rw [← this, ← this]; exact e
    have hn0 := hn n List.mem_cons_self
    have hm0 := hm m List.mem_cons_self
    obtain ⟨h1, h2⟩ := encI_prefix (by omega) (by omega) e1
    obtain ⟨h3, h4⟩ := putL_prefix ns ms r r' (by simpa using h) (fun k hk => hn k (List.mem_cons_of_mem _ hk)) (fun k hk => hm k (List.mem_cons_of_mem _ hk)) h2
    refine ⟨?_, h4⟩
    rw [h3, show n = m by omega]
theorem numsL_inj : ∀ {l m : List Ln}, numsL l = numsL m → l = m
  | [], [], _ => rfl
  | [], y :: m, e => by simp [numsL] at e
  | x :: l, [], e => by simp [numsL] at e
  | x :: l, y :: m, e => by
    have : ∀ (z : Ln) (l : List Ln), numsL (z :: l) = z.p :: z.b :: z.a :: numsL l := fun _ _ => rfl
    rw [this, this] at e
    simp only [List.cons.injEq] at e
    obtain ⟨e1, e2, e3, e4⟩ := e
    rw [numsL_inj e4]
    cases x; cases y
    simp at e1 e2 e3
    rw [e1, e2, e3]
theorem stm_nums {s : Stm} (h : okS s = true) : (∀ n ∈ [s.h, s.c, ((s.ls.length : Nat) : Int)], 0 ≤ n ∧ n ≤ 4611686018427387903) ∧ ∀ n ∈ numsL s.ls, 0 ≤ n ∧ n ≤ 4611686018427387903 := by
  obtain ⟨h0, h1, h2, h3, h4, h5⟩ := okS_parts h
  have hlen := okS_len h
  constructor
  · intro n hn
    simp only [List.mem_cons, List.not_mem_nil, or_false] at hn
    rcases hn with rfl | rfl | rfl <;> omega
  · intro n hn
    obtain ⟨x, hx, hn⟩ := List.mem_flatMap.1 hn
    have := okL_all h0 x hx
    simp only [List.mem_cons, List.not_mem_nil, or_false] at hn
    rcases hn with rfl | rfl | rfl <;> omega
theorem encL_inj {s t : Stm} (hs : okS s = true) (ht : okS t = true) (e : encL s = encL t) : s = t := by
  obtain ⟨a1, a2⟩ := stm_nums hs
  obtain ⟨b1, b2⟩ := stm_nums ht
  obtain ⟨h1, h2⟩ := putL_prefix [s.h, s.c, ((s.ls.length : Nat) : Int)] [t.h, t.c, ((t.ls.length : Nat) : Int)] _ _ rfl a1 b1 e
  simp only [List.cons.injEq, and_true] at h1
  obtain ⟨e1, e2, e3⟩ := h1
  have h3 : putL (numsL s.ls) ++ [] = putL (numsL t.ls) ++ [] := by rw [h2]
  obtain ⟨h4, _⟩ := putL_prefix _ _ [] [] (by rw [numsL_length, numsL_length]; omega) a2 b2 h3
  have h5 := numsL_inj h4
  cases s; cases t
  simp at e1 e2 h5
  rw [e1, e2, h5]
theorem encS_inj {s t : Stm} (hs : okS s = true) (ht : okS t = true) (e : encS s = encS t) : s = t :=
  encL_inj hs ht (by
    have := congrArg (fun b : ByteArray => b.data.toList) e
    simpa [encS] using this)
/-- Lists of entries tell lists of encodings apart. -/
theorem entsF_inj : ∀ {l m : List ByteArray} {h h' : ByteArray}, entsF h l = entsF h' m → l = m
  | [], [], _, _, _ => rfl
  | [], y :: m, _, _, e => by simp [entsF] at e
  | x :: l, [], _, _, e => by simp [entsF] at e
  | x :: l, y :: m, h, h', e => by
    rw [entsF, entsF, List.cons.injEq] at e
    have h1 := (append_inj e.1 (by rw [sum_size, sum_size])).2
    rw [entsF_inj e.2, h1]
end Go.Proofs.YtnadipjlhlbfoaaDoor
