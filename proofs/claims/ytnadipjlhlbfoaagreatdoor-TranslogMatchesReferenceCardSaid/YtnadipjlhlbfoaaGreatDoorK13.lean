/- Walks, printed by a program. Walks, printed by a program. Walks, printed by a program. Walks, printed by a program. -/
import Derived.Test.YtnadipjlhlbfoaaGreatDoorK12
namespace Go.Proofs.YtnadipjlhlbfoaaGreatDoor
set_option linter.all false
open Go Go.RowKit
set_option maxRecDepth 100000
theorem ent_68 : ∀ args w, (callFunc 68 args).run Tryz.prog w = .ok (.enter 68 args) w := enters_of Tryz.func68 (by kernel_rfl) rfl
set_option maxRecDepth 100000 in
theorem w_same02 {w : World} {A B : Option Addr} {ca cb : Nat} (X Y : List ByteArray) (hrX : Rd w A 1 (X.map strC)) (hrY : Rd w B 1 (Y.map strC)) (hl : X.length ≤ 1000000) :
    Calls Tryz.prog 38 #[.slice A X.length ca, .slice B Y.length cb] w (fun e w' => e = .returned (.bool (decide (X = Y))) ∧ SL w [] w' []) := by
 refine calls_of_CX (O := []) (L := []) (args := [.slice A X.length ca, .slice B Y.length cb]) Tryz.func38 rfl (by simp [Tryz.ntmps38]) (SL.refl w) ?_
 refine CX.sub (V' := [(0, .slice A X.length ca), (1, .slice B Y.length cb)]) ⟨rfl, rfl, trivial⟩ ?_
 refine CX.seq ?_
 refine CX.region ?_
 refine RX.cons rfl rfl (op_w (yw_assign rfl rfl) rfl rfl ?_)
 refine RX.nil (XX.next (V' := [(0, _), (1, _)]) ⟨rfl, rfl, trivial⟩ ?_)
 refine CX.seq ?_
 refine CX.seq ?_
 refine CX.region ?_
 refine RX.cons rfl rfl (op_w (yw_move rfl rfl) rfl rfl ?_)
 refine RX.cons rfl rfl (op_w (yw_lenS rfl Tryz.underlying26 rfl) rfl rfl ?_)
 refine RX.cons rfl rfl (op_w (yw_move rfl rfl) rfl rfl ?_)
 refine RX.cons rfl rfl (op_w (yw_lenS rfl Tryz.underlying26 rfl) rfl rfl ?_)
 refine RX.cons rfl rfl (op_w (yw_neq rfl rfl rfl) rfl rfl ?_)
 refine RX.nil (XX.next (V' := [(0, _), (1, _), (10, _)]) ⟨rfl, rfl, rfl, trivial⟩ ?_)
 refine CX.condD (p := ((X.length : Nat) : Int) ≠ ((Y.length : Nat) : Int)) rfl (fun c10 => ?_) (fun c10 => ?_)
 ·refine CX.seq ?_
  refine CX.region ?_
  refine RX.cons rfl rfl (op_w (yw_assign rfl rfl) rfl rfl ?_)
  refine RX.nil (XX.next (V' := [(4, .bool false)]) ⟨rfl, trivial⟩ ?_)
  refine CX.ret ?_
  refine XX.then_ret ?_
  exact ret_tmp rfl rfl fun w1 hw => ⟨by rw [decide_eq_false (fun e => c10 (by rw [e]))], hw.sub (List.nil_sublist _)⟩
 ·refine CX.skip (XX.next (V' := [(0, _), (1, _)]) ⟨rfl, rfl, trivial⟩ ?_)
  refine CX.seq ?_
  refine CX.seq ?_
  refine CX.region ?_
  refine RX.cons rfl rfl (op_w (yw_assign rfl rfl) rfl rfl ?_)
  refine RX.nil (XX.next (V' := [(0, _), (1, _), (5, _)]) ⟨rfl, rfl, rfl, trivial⟩ ?_)
  refine CX.block ?_
  have hlen : X.length = Y.length := by omega
  refine CX.loop (σ := Nat) (fun i => [(0, .slice A X.length ca), (1, .slice B Y.length cb), (5, .int .i64 ((i : Nat) : Int))]) (fun i => []) (fun i => i ≤ X.length ∧ X.take i = Y.take i) (fun i => X.length - i) 0 ⟨Nat.zero_le _, by simp⟩ ⟨rfl, rfl, rfl, trivial⟩ rfl (fun i hI => ?_)
  obtain ⟨hi, hf⟩ := hI
  refine CX.seq ?_
  refine CX.seq ?_
  refine CX.region ?_
  refine RX.cons rfl rfl (op_w (yw_move rfl rfl) rfl rfl ?_)
  refine RX.cons rfl rfl (op_w (yw_move rfl rfl) rfl rfl ?_)
  refine RX.cons rfl rfl (op_w (yw_lenS rfl Tryz.underlying26 rfl) rfl rfl ?_)
  refine RX.cons rfl rfl (op_w (yw_lss rfl rfl rfl) rfl rfl ?_)
  refine RX.nil (XX.next (V' := [(0, _), (1, _), (5, _), (14, _)]) ⟨rfl, rfl, rfl, rfl, trivial⟩ ?_)
  refine CX.condD (p := ((i : Nat) : Int) < ((X.length : Nat) : Int)) rfl (fun c14 => ?_) (fun c14 => ?_)
  ·obtain ⟨x0, ha⟩ := get_some (l := X) (k := i) (by omega)
   obtain ⟨y0, hb⟩ := get_some (l := Y) (k := i) (by omega)
   have hA : ∃ b j, A = some ⟨b, j, none⟩ := hrX.some (k := i) (by simp; omega)
   have hB : ∃ b j, B = some ⟨b, j, none⟩ := hrY.some (k := i) (by simp; omega)
   refine CX.skip (XX.next (V' := [(0, _), (1, _), (5, _)]) ⟨rfl, rfl, rfl, trivial⟩ ?_)
   refine CX.seq ?_
   refine CX.block ?_
   refine CX.seq ?_
   refine CX.draw 9 [(0, 1, 131072), (0, 32, 262144), (3, 393216, 524288), (4, 524288, 1048576), (0, 2, 2097152), (0, 32, 4194304), (48, 6291456, 8388608), (64, 8388608, 16777216), (136, 17825792, 33554432)] (by kernel_rfl) (by kernel_rfl) (by kernel_rfl) ?_
   refine DX.takeW 0 1 (by kernel_rfl) rfl rfl rfl rfl rfl (yw_move rfl rfl) ?_
   refine DX.takeW 1 3 (by kernel_rfl) rfl rfl rfl rfl rfl (yw_move rfl rfl) ?_
   refine DX.takeW 2 7 (by kernel_rfl) rfl rfl rfl rfl rfl (yw_index (k := i) rfl slt_26 rfl rfl (by omega) (by omega) hA) ?_
   refine DX.take 3 15 (by kernel_rfl) rfl rfl rfl rfl rfl (List.nil_sublist _) (y_elem1 rfl rfl one_9 hrX (by simp) (map_get ha)) ?_
   refine DX.takeW 4 31 (by kernel_rfl) rfl rfl rfl rfl rfl (yw_move rfl rfl) ?_
   refine DX.takeW 5 63 (by kernel_rfl) rfl rfl rfl rfl rfl (yw_move rfl rfl) ?_
   refine DX.takeW 6 127 (by kernel_rfl) rfl rfl rfl rfl rfl (yw_index (k := i) rfl slt_26 rfl rfl (by omega) (by omega) hB) ?_
   refine DX.take 7 255 (by kernel_rfl) rfl rfl rfl rfl rfl (List.nil_sublist _) (y_elem1 rfl rfl one_9 hrY (by simp) (map_get hb)) ?_
   refine DX.takeW 8 511 (by kernel_rfl) rfl rfl rfl rfl rfl (yw_strneq rfl rfl rfl) ?_
   refine DX.done (by kernel_rfl) (XX.next (V' := [(0, _), (1, _), (5, _), (25, _)]) ⟨rfl, rfl, rfl, rfl, trivial⟩ ?_)
   refine CX.condD (p := ByteArray.toList x0 ≠ ByteArray.toList y0) rfl (fun c25 => ?_) (fun c25 => ?_)
   ·refine CX.seq ?_
    refine CX.region ?_
    refine RX.cons rfl rfl (op_w (yw_assign rfl rfl) rfl rfl ?_)
    refine RX.nil (XX.next (V' := [(4, .bool false)]) ⟨rfl, trivial⟩ ?_)
    refine CX.ret ?_
    refine XX.block_ret ?_
    refine XX.then_ret ?_
    refine XX.then_ret ?_
    refine XX.block_ret ?_
    refine XX.then_ret ?_
    exact ret_tmp rfl rfl fun w1 hw => ⟨by rw [decide_eq_false (differ_at ha hb (fun e => c25 (by rw [e])))], hw.sub (List.nil_sublist _)⟩
   ·refine CX.skip (XX.inBlock (V' := [(0, _), (1, _), (5, _)]) ⟨rfl, rfl, rfl, trivial⟩ ?_)
    refine XX.next (V' := [(0, _), (1, _), (5, _)]) ⟨rfl, rfl, rfl, trivial⟩ ?_
    refine CX.region ?_
    refine RX.cons rfl rfl (op_w (yw_move rfl rfl) rfl rfl ?_)
    refine RX.cons rfl rfl (op_w (yw_add rfl rfl rfl (by omega) (by omega)) rfl rfl ?_)
    refine RX.cons rfl rfl (op_w (yw_assign rfl rfl) rfl rfl ?_)
    refine RX.nil (XX.againP ([]) (i + 1) (by omega) ⟨by omega, same_upto hf ha hb (toList_inj.1 (Decidable.not_not.1 c25))⟩ ⟨rfl, rfl, rfl, trivial⟩ (List.Perm.refl _))
  ·refine CX.exit ?_
   refine XX.then_exit ?_
   refine XX.then_exit ?_
   refine XX.block_exit ?_
   refine XX.next (V' := []) trivial ?_
   refine CX.seq ?_
   refine CX.region ?_
   refine RX.cons rfl rfl (op_w (yw_assign rfl rfl) rfl rfl ?_)
   refine RX.nil (XX.next (V' := [(4, .bool true)]) ⟨rfl, trivial⟩ ?_)
   refine CX.ret ?_
   exact ret_tmp rfl rfl fun w1 hw => ⟨by rw [decide_eq_true (by rw [List.take_of_length_le (by omega), List.take_of_length_le (by omega)] at hf; exact hf)], hw.sub (List.nil_sublist _)⟩

theorem all_snocP {α : Type} {p : α → Prop} {l : List α} {i : Nat} {x : α} (hx : l[i]? = some x) (hp : p x) (h : ∀ y ∈ l.take i, p y) : ∀ y ∈ l.take (i + 1), p y := by
  intro y hy
  rw [take_succ hx] at hy
  rcases List.mem_append.1 hy with h1 | h1
  · exact h y h1
  · rw [List.mem_singleton.1 h1]; exact hp
set_option maxRecDepth 100000 in
theorem w_digests02 {w : World} {A : Option Addr} {cap : Nat} (p : List ByteArray) (hr : Rd w A 1 (p.map strC)) (hl : p.length ≤ 1099511627776) :
    Calls Tryz.prog 67 #[.slice A p.length cap] w (fun e w' => e = .returned (.bool (decide (∀ x ∈ p, x.size = 32))) ∧ SL w [] w' []) := by
 refine calls_of_CX (O := []) (L := []) (args := [.slice A p.length cap]) Tryz.func67 rfl (by simp [Tryz.ntmps67]) (SL.refl w) ?_
 refine CX.sub (V' := [(0, .slice A p.length cap)]) ⟨rfl, trivial⟩ ?_
 refine CX.seq ?_
 refine CX.region ?_
 refine RX.cons rfl rfl (op_w (yw_assign rfl rfl) rfl rfl ?_)
 refine RX.nil (XX.next (V' := [(0, _)]) ⟨rfl, trivial⟩ ?_)
 refine CX.seq ?_
 refine CX.seq ?_
 refine CX.region ?_
 refine RX.cons rfl rfl (op_w (yw_assign rfl rfl) rfl rfl ?_)
 refine RX.nil (XX.next (V' := [(0, _), (3, _)]) ⟨rfl, rfl, trivial⟩ ?_)
 refine CX.block ?_
 refine CX.loop (σ := Nat) (fun i => [(0, .slice A p.length cap), (3, .int .i64 ((i : Nat) : Int))]) (fun i => []) (fun i => i ≤ p.length ∧ ∀ x ∈ p.take i, x.size = 32) (fun i => p.length - i) 0 ⟨Nat.zero_le _, by simp⟩ ⟨rfl, rfl, trivial⟩ rfl (fun i hI => ?_)
 obtain ⟨hi, hall⟩ := hI
 refine CX.seq ?_
 refine CX.seq ?_
 refine CX.region ?_
 refine RX.cons rfl rfl (op_w (yw_move rfl rfl) rfl rfl ?_)
 refine RX.cons rfl rfl (op_w (yw_move rfl rfl) rfl rfl ?_)
 refine RX.cons rfl rfl (op_w (yw_lenS rfl Tryz.underlying26 rfl) rfl rfl ?_)
 refine RX.cons rfl rfl (op_w (yw_lss rfl rfl rfl) rfl rfl ?_)
 refine RX.nil (XX.next (V' := [(0, _), (3, _), (7, _)]) ⟨rfl, rfl, rfl, trivial⟩ ?_)
 refine CX.condD (p := ((i : Nat) : Int) < ((p.length : Nat) : Int)) rfl (fun c7 => ?_) (fun c7 => ?_)
 ·obtain ⟨x0, hx0⟩ := get_some (l := p) (k := i) (by omega)
  have hx0m := List.mem_of_getElem? hx0
  have hA : ∃ b j, A = some ⟨b, j, none⟩ := hr.some (k := i) (by simp; omega)
  refine CX.skip (XX.next (V' := [(0, _), (3, _)]) ⟨rfl, rfl, trivial⟩ ?_)
  refine CX.seq ?_
  refine CX.block ?_
  refine CX.seq ?_
  refine CX.region ?_
  refine RX.cons rfl rfl (op_w (yw_move rfl rfl) rfl rfl ?_)
  refine RX.cons rfl rfl (op_w (yw_move rfl rfl) rfl rfl ?_)
  refine RX.cons rfl rfl (op_w (yw_index (k := i) rfl slt_26 rfl rfl (by omega) (by omega) hA) rfl rfl ?_)
  refine RX.cons rfl rfl (op_yld (y_elem1 rfl rfl one_9 hr (by simp) (map_get hx0)) rfl rfl ?_)
  refine RX.cons rfl rfl (op_w (yw_lenStr rfl Tryz.underlying9 rfl) rfl rfl ?_)
  refine RX.cons rfl rfl (op_w (yw_neq rfl rfl rfl) rfl rfl ?_)
  refine RX.nil (XX.next (V' := [(0, _), (3, _), (15, _)]) ⟨rfl, rfl, rfl, trivial⟩ ?_)
  refine CX.condD (p := ((ByteArray.size x0 : Nat) : Int) ≠ 32) rfl (fun c15 => ?_) (fun c15 => ?_)
  ·refine CX.seq ?_
   refine CX.region ?_
   refine RX.cons rfl rfl (op_w (yw_assign rfl rfl) rfl rfl ?_)
   refine RX.nil (XX.next (V' := [(2, .bool false)]) ⟨rfl, trivial⟩ ?_)
   refine CX.ret ?_
   refine XX.block_ret ?_
   refine XX.then_ret ?_
   refine XX.then_ret ?_
   refine XX.block_ret ?_
   refine XX.then_ret ?_
   exact ret_tmp rfl rfl fun w1 hw => ⟨by rw [decide_eq_false (fun e => c15 (by rw [e x0 hx0m]; rfl))], hw.sub (List.nil_sublist _)⟩
  ·refine CX.skip (XX.inBlock (V' := [(0, _), (3, _)]) ⟨rfl, rfl, trivial⟩ ?_)
   refine XX.next (V' := [(0, _), (3, _)]) ⟨rfl, rfl, trivial⟩ ?_
   refine CX.region ?_
   refine RX.cons rfl rfl (op_w (yw_move rfl rfl) rfl rfl ?_)
   refine RX.cons rfl rfl (op_w (yw_add rfl rfl rfl (by omega) (by omega)) rfl rfl ?_)
   refine RX.cons rfl rfl (op_w (yw_assign rfl rfl) rfl rfl ?_)
   refine RX.nil (XX.againP ([]) (i + 1) (by omega) ⟨by omega, all_snocP (p := fun x : ByteArray => x.size = 32) hx0 (by omega) hall⟩ ⟨rfl, rfl, trivial⟩ (List.Perm.refl _))
 ·refine CX.exit ?_
  refine XX.then_exit ?_
  refine XX.then_exit ?_
  refine XX.block_exit ?_
  refine XX.next (V' := []) trivial ?_
  refine CX.seq ?_
  refine CX.region ?_
  refine RX.cons rfl rfl (op_w (yw_assign rfl rfl) rfl rfl ?_)
  refine RX.nil (XX.next (V' := [(2, .bool true)]) ⟨rfl, trivial⟩ ?_)
  refine CX.ret ?_
  exact ret_tmp rfl rfl fun w1 hw => ⟨by rw [decide_eq_true (fun x hx => hall x (by rw [List.take_of_length_le (by omega)]; exact hx))], hw.sub (List.nil_sublist _)⟩

set_option maxRecDepth 100000 in
theorem w_value02s {w : World} {A : Option Addr} {cap : Nat} (n i : Nat) (s : ByteArray) (ps : List ByteArray) (hr : Rd w A 1 (ps.map strC)) (hcap : ps.length ≤ cap) (hl : ps.length ≤ 1099511627776) (hsz : ∀ x ∈ ps, x.size = 32) (hs : s.size ≤ 4294967296) (hn : n ≤ 9223372036854775807) (hi : i < n) (ih : ∀ (qs : List ByteArray) (m j : Nat) (w : World) (A : Option Addr) (cap : Nat), qs.length < ps.length → Rd w A 1 (qs.map strC) → qs.length ≤ cap → qs.length ≤ 1099511627776 → (∀ x ∈ qs, x.size = 32) → m ≤ 9223372036854775807 → j < m → Calls Tryz.prog 68 #[.int .i64 ((m : Nat) : Int), .int .i64 ((j : Nat) : Int), .string s, .slice A qs.length cap] w (fun e w' => ∃ z : ByteArray × Bool, (z.1.size ≤ 32 ∧ value sum s (List.reverse qs) m j = if z.2 then some z.1 else none) ∧ e = .returned (.tuple #[.string z.1, .bool z.2]) ∧ SL w [] w' [])) :
    Calls Tryz.prog 68 #[.int .i64 ((n : Nat) : Int), .int .i64 ((i : Nat) : Int), .string s, .slice A ps.length cap] w (fun e w' => ∃ z : ByteArray × Bool, (z.1.size ≤ 32 ∧ value sum s (List.reverse ps) n i = if z.2 then some z.1 else none) ∧ e = .returned (.tuple #[.string z.1, .bool z.2]) ∧ SL w [] w' []) := by
 refine calls_of_CX (O := []) (L := []) (args := [.int .i64 ((n : Nat) : Int), .int .i64 ((i : Nat) : Int), .string s, .slice A ps.length cap]) Tryz.func68 rfl (by simp [Tryz.ntmps68]) (SL.refl w) ?_
 refine CX.sub (V' := [(0, .int .i64 ((n : Nat) : Int)), (1, .int .i64 ((i : Nat) : Int)), (2, .string s), (3, .slice A ps.length cap)]) ⟨rfl, rfl, rfl, rfl, trivial⟩ ?_
 refine CX.seq ?_
 refine CX.region ?_
 refine RX.cons rfl rfl (op_w (yw_assign rfl rfl) rfl rfl ?_)
 refine RX.cons rfl rfl (op_w (yw_assign rfl rfl) rfl rfl ?_)
 refine RX.nil (XX.next (V' := [(0, _), (1, _), (2, _), (3, _)]) ⟨rfl, rfl, rfl, rfl, trivial⟩ ?_)
 refine CX.seq ?_
 refine CX.region ?_
 refine RX.cons rfl rfl (op_w (yw_move rfl rfl) rfl rfl ?_)
 refine RX.cons rfl rfl (op_w (yw_lenS rfl Tryz.underlying26 rfl) rfl rfl ?_)
 refine RX.cons rfl rfl (op_w (yw_sub rfl rfl rfl (by omega) (by omega)) rfl rfl ?_)
 refine RX.cons rfl rfl (op_w (yw_assign rfl rfl) rfl rfl ?_)
 refine RX.nil (XX.next (V' := [(0, _), (1, _), (2, _), (3, _), (10, _)]) ⟨rfl, rfl, rfl, rfl, rfl, trivial⟩ ?_)
 refine CX.seq ?_
 refine CX.seq ?_
 refine CX.region ?_
 refine RX.cons rfl rfl (op_w (yw_move rfl rfl) rfl rfl ?_)
 refine RX.cons rfl rfl (op_w (yw_eql rfl rfl rfl) rfl rfl ?_)
 refine RX.nil (XX.next (V' := [(0, _), (1, _), (2, _), (3, _), (10, _), (20, _)]) ⟨rfl, rfl, rfl, rfl, rfl, rfl, trivial⟩ ?_)
 refine CX.condD (p := ((n : Nat) : Int) = 1) rfl (fun c20 => ?_) (fun c20 => ?_)
 ·refine CX.seq ?_
  refine CX.region ?_
  refine RX.cons rfl rfl (op_w (yw_move rfl rfl) rfl rfl ?_)
  refine RX.cons rfl rfl (op_callV (v := .string (leafH sum s)) rfl rfl rfl rfl rfl ent_61 (fun w hw => w_leaf02 s (by omega)) ?_)
  refine RX.cons rfl rfl (op_w (yw_move rfl rfl) rfl rfl ?_)
  refine RX.cons rfl rfl (op_w (yw_lss rfl rfl rfl) rfl rfl ?_)
  refine RX.cons rfl rfl (op_w (yw_assign rfl rfl) rfl rfl ?_)
  refine RX.cons rfl rfl (op_w (yw_assign rfl rfl) rfl rfl ?_)
  refine RX.nil (XX.next (V' := [(8, .string (leafH sum s)), (9, .bool (decide (((ps.length : Nat) : Int) - 1 < 0)))]) ⟨rfl, rfl, trivial⟩ ?_)
  refine CX.ret ?_
  refine XX.then_ret ?_
  exact ret_tmp2 rfl rfl rfl fun w1 hw => ⟨(leafH sum s, decide (ps.length = 0)), ⟨by rw [show (leafH sum s).size = 32 from sum_size _]; decide, by rw [value_end sum s (by omega)]; by_cases hq : ps.length = 0 <;> simp [hq, List.eq_nil_iff_length_eq_zero]⟩, by rw [show decide (((ps.length : Nat) : Int) - 1 < 0) = decide (ps.length = 0) from by rw [decide_eq_decide]; omega], hw.sub (List.nil_sublist _)⟩
 ·refine CX.skip (XX.next (V' := [(0, _), (1, _), (2, _), (3, _), (10, _)]) ⟨rfl, rfl, rfl, rfl, rfl, trivial⟩ ?_)
  refine CX.seq ?_
  refine CX.seq ?_
  refine CX.region ?_
  refine RX.cons rfl rfl (op_w (yw_move rfl rfl) rfl rfl ?_)
  refine RX.cons rfl rfl (op_w (yw_lss rfl rfl rfl) rfl rfl ?_)
  refine RX.nil (XX.next (V' := [(0, _), (1, _), (2, _), (3, _), (10, _), (26, _)]) ⟨rfl, rfl, rfl, rfl, rfl, rfl, trivial⟩ ?_)
  refine CX.condD (p := ((ps.length : Nat) : Int) - 1 < 0) rfl (fun c26 => ?_) (fun c26 => ?_)
  ·refine CX.seq ?_
   refine CX.region ?_
   refine RX.cons rfl rfl (op_w (yw_assign rfl rfl) rfl rfl ?_)
   refine RX.cons rfl rfl (op_w (yw_assign rfl rfl) rfl rfl ?_)
   refine RX.nil (XX.next (V' := [(8, .string .empty), (9, .bool false)]) ⟨rfl, rfl, trivial⟩ ?_)
   refine CX.ret ?_
   refine XX.then_ret ?_
   exact ret_tmp2 rfl rfl rfl fun w1 hw => ⟨(.empty, false), ⟨by decide, by rw [List.eq_nil_of_length_eq_zero (l := ps) (by omega), List.reverse_nil, value_out sum s (by omega)]; rfl⟩, rfl, hw.sub (List.nil_sublist _)⟩
  ·obtain ⟨x0, hx0⟩ := get_some (l := ps) (k := ps.length - 1) (by omega)
   have hx0z := hsz x0 (List.mem_of_getElem? hx0)
   have hA : ∃ b j, A = some ⟨b, j, none⟩ := hr.some (k := 0) (by simp; omega)
   have hq1 := lft_pos n
   have hq2 := lft_lt (n := n) (by omega)
   refine CX.skip (XX.next (V' := [(0, _), (1, _), (2, _), (3, _), (10, _)]) ⟨rfl, rfl, rfl, rfl, rfl, trivial⟩ ?_)
   refine CX.seq ?_
   refine CX.region ?_
   refine RX.cons rfl rfl (op_w (yw_move rfl rfl) rfl rfl ?_)
   refine RX.cons rfl rfl (op_callV (v := .int .i64 ((lft n : Nat) : Int)) rfl rfl rfl rfl rfl ent_62 (fun w hw => w_left02 n (by omega) (by omega)) ?_)
   refine RX.cons rfl rfl (op_w (yw_assign rfl rfl) rfl rfl ?_)
   refine RX.nil (XX.next (V' := [(0, _), (1, _), (2, _), (3, _), (10, _), (11, _)]) ⟨rfl, rfl, rfl, rfl, rfl, rfl, trivial⟩ ?_)
   refine CX.seq ?_
   refine CX.seq ?_
   refine CX.region ?_
   refine RX.cons rfl rfl (op_w (yw_move rfl rfl) rfl rfl ?_)
   refine RX.cons rfl rfl (op_w (yw_move rfl rfl) rfl rfl ?_)
   refine RX.cons rfl rfl (op_w (yw_lss rfl rfl rfl) rfl rfl ?_)
   refine RX.nil (XX.next (V' := [(0, _), (1, _), (2, _), (3, _), (10, _), (11, _), (31, _)]) ⟨rfl, rfl, rfl, rfl, rfl, rfl, rfl, trivial⟩ ?_)
   refine CX.condD (p := ((i : Nat) : Int) < ((lft n : Nat) : Int)) rfl (fun c31 => ?_) (fun c31 => ?_)
   ·refine CX.seq ?_
    refine CX.region ?_
    refine RX.cons rfl rfl (op_w (yw_move rfl rfl) rfl rfl ?_)
    refine RX.cons rfl rfl (op_w (yw_move rfl rfl) rfl rfl ?_)
    refine RX.cons rfl rfl (op_w (yw_move rfl rfl) rfl rfl ?_)
    refine RX.cons rfl rfl (op_w (yw_move rfl rfl) rfl rfl ?_)
    refine RX.cons rfl rfl (op_w (yw_move rfl rfl) rfl rfl ?_)
    refine RX.know (t := 37) (u := .int .i64 ((ps.length - 1 : Nat) : Int)) rfl (congrArg (Value.int .i64) (by omega)) ?_
    refine RX.cons rfl rfl (op_w (yw_sliceTo (k := (ps.length - 1)) rfl slt_26 rfl rfl (by omega) (by omega)) rfl rfl ?_)
    refine RX.know (t := 38) (u := .slice A ((List.take (ps.length - 1) ps).length) cap) rfl (congrArg (fun n => Value.slice A n cap) (by simp)) ?_
    refine RX.cons rfl rfl (op_callE rfl rfl rfl rfl rfl ent_68 (fun w hw => ih (List.take (ps.length - 1) ps) (lft n) i w _ _ (by rw [List.length_take]; omega) (hw.rd (hr.takeM (ps.length - 1)) (by simp)) (by rw [List.length_take]; omega) (by rw [List.length_take]; omega) (fun x hx => hsz x (List.mem_of_mem_take hx)) (by omega) (by omega)) (fun zv hzv => ?_))
    refine RX.cons rfl rfl (op_w (yw_move rfl rfl) rfl rfl ?_)
    refine RX.cons rfl rfl (op_w (yw_extract rfl rfl rfl) rfl rfl ?_)
    refine RX.cons rfl rfl (op_w (yw_extract rfl rfl rfl) rfl rfl ?_)
    refine RX.cons rfl rfl (op_w (yw_assign rfl rfl) rfl rfl ?_)
    refine RX.cons rfl rfl (op_w (yw_assign rfl rfl) rfl rfl ?_)
    refine RX.nil (XX.next (V' := [(3, _), (10, _), (12, _), (13, _)]) ⟨rfl, rfl, rfl, rfl, trivial⟩ ?_)
    refine CX.seq ?_
    refine CX.region ?_
    refine RX.cons rfl rfl (op_w (yw_move rfl rfl) rfl rfl ?_)
    refine RX.cons rfl rfl (op_w (yw_move rfl rfl) rfl rfl ?_)
    refine RX.cons rfl rfl (op_w (yw_move rfl rfl) rfl rfl ?_)
    refine RX.know (t := 44) (u := .int .i64 ((ps.length - 1 : Nat) : Int)) rfl (congrArg (Value.int .i64) (by omega)) ?_
    refine RX.cons rfl rfl (op_w (yw_index (k := (ps.length - 1)) rfl slt_26 rfl rfl (by omega) (by omega) hA) rfl rfl ?_)
    refine RX.cons rfl rfl (op_yld (y_elem1 rfl rfl one_9 hr (by simp) (map_get hx0)) rfl rfl ?_)
    refine RX.cons rfl rfl (op_callV (v := .string (nodeH sum zv.1 x0)) rfl rfl rfl rfl rfl ent_63 (fun w hw => w_node02 zv.1 x0 (by have := hzv.1; omega)) ?_)
    refine RX.cons rfl rfl (op_w (yw_move rfl rfl) rfl rfl ?_)
    refine RX.cons rfl rfl (op_w (yw_assign rfl rfl) rfl rfl ?_)
    refine RX.cons rfl rfl (op_w (yw_assign rfl rfl) rfl rfl ?_)
    refine RX.nil (XX.next (V' := [(8, .string (nodeH sum zv.1 x0)), (9, .bool zv.2)]) ⟨rfl, rfl, trivial⟩ ?_)
    refine CX.ret ?_
    refine XX.then_ret ?_
    exact ret_tmp2 rfl rfl rfl fun w1 hw => ⟨(nodeH sum zv.1 x0, zv.2), ⟨by rw [show (nodeH sum zv.1 x0).size = 32 from sum_size _]; decide, by rw [rev_last hx0, value_lt sum s x0 _ (by omega) (by omega), hzv.2]; cases zv.2 <;> rfl⟩, rfl, hw.sub (List.nil_sublist _)⟩
   ·refine CX.skip (XX.next (V' := [(0, _), (1, _), (2, _), (3, _), (10, _), (11, _)]) ⟨rfl, rfl, rfl, rfl, rfl, rfl, trivial⟩ ?_)
    refine CX.seq ?_
    refine CX.region ?_
    refine RX.cons rfl rfl (op_w (yw_move rfl rfl) rfl rfl ?_)
    refine RX.cons rfl rfl (op_w (yw_move rfl rfl) rfl rfl ?_)
    refine RX.cons rfl rfl (op_w (yw_sub rfl rfl rfl (by omega) (by omega)) rfl rfl ?_)
    refine RX.know (t := 52) (u := .int .i64 ((n - lft n : Nat) : Int)) rfl (congrArg (Value.int .i64) (by omega)) ?_
    refine RX.cons rfl rfl (op_w (yw_move rfl rfl) rfl rfl ?_)
    refine RX.cons rfl rfl (op_w (yw_move rfl rfl) rfl rfl ?_)
    refine RX.cons rfl rfl (op_w (yw_sub rfl rfl rfl (by omega) (by omega)) rfl rfl ?_)
    refine RX.know (t := 55) (u := .int .i64 ((i - lft n : Nat) : Int)) rfl (congrArg (Value.int .i64) (by omega)) ?_
    refine RX.cons rfl rfl (op_w (yw_move rfl rfl) rfl rfl ?_)
    refine RX.cons rfl rfl (op_w (yw_move rfl rfl) rfl rfl ?_)
    refine RX.cons rfl rfl (op_w (yw_move rfl rfl) rfl rfl ?_)
    refine RX.know (t := 58) (u := .int .i64 ((ps.length - 1 : Nat) : Int)) rfl (congrArg (Value.int .i64) (by omega)) ?_
    refine RX.cons rfl rfl (op_w (yw_sliceTo (k := (ps.length - 1)) rfl slt_26 rfl rfl (by omega) (by omega)) rfl rfl ?_)
    refine RX.know (t := 59) (u := .slice A ((List.take (ps.length - 1) ps).length) cap) rfl (congrArg (fun n => Value.slice A n cap) (by simp)) ?_
    refine RX.cons rfl rfl (op_callE rfl rfl rfl rfl rfl ent_68 (fun w hw => ih (List.take (ps.length - 1) ps) (n - lft n) (i - lft n) w _ _ (by rw [List.length_take]; omega) (hw.rd (hr.takeM (ps.length - 1)) (by simp)) (by rw [List.length_take]; omega) (by rw [List.length_take]; omega) (fun x hx => hsz x (List.mem_of_mem_take hx)) (by omega) (by omega)) (fun zv hzv => ?_))
    refine RX.cons rfl rfl (op_w (yw_move rfl rfl) rfl rfl ?_)
    refine RX.cons rfl rfl (op_w (yw_extract rfl rfl rfl) rfl rfl ?_)
    refine RX.cons rfl rfl (op_w (yw_extract rfl rfl rfl) rfl rfl ?_)
    refine RX.cons rfl rfl (op_w (yw_assign rfl rfl) rfl rfl ?_)
    refine RX.cons rfl rfl (op_w (yw_assign rfl rfl) rfl rfl ?_)
    refine RX.nil (XX.next (V' := [(3, _), (10, _), (14, _), (15, _)]) ⟨rfl, rfl, rfl, rfl, trivial⟩ ?_)
    refine CX.seq ?_
    refine CX.region ?_
    refine RX.cons rfl rfl (op_w (yw_move rfl rfl) rfl rfl ?_)
    refine RX.cons rfl rfl (op_w (yw_move rfl rfl) rfl rfl ?_)
    refine RX.know (t := 64) (u := .int .i64 ((ps.length - 1 : Nat) : Int)) rfl (congrArg (Value.int .i64) (by omega)) ?_
    refine RX.cons rfl rfl (op_w (yw_index (k := (ps.length - 1)) rfl slt_26 rfl rfl (by omega) (by omega) hA) rfl rfl ?_)
    refine RX.cons rfl rfl (op_yld (y_elem1 rfl rfl one_9 hr (by simp) (map_get hx0)) rfl rfl ?_)
    refine RX.cons rfl rfl (op_w (yw_move rfl rfl) rfl rfl ?_)
    refine RX.cons rfl rfl (op_callV (v := .string (nodeH sum x0 zv.1)) rfl rfl rfl rfl rfl ent_63 (fun w hw => w_node02 x0 zv.1 (by have := hzv.1; omega)) ?_)
    refine RX.cons rfl rfl (op_w (yw_move rfl rfl) rfl rfl ?_)
    refine RX.cons rfl rfl (op_w (yw_assign rfl rfl) rfl rfl ?_)
    refine RX.cons rfl rfl (op_w (yw_assign rfl rfl) rfl rfl ?_)
    refine RX.nil (XX.next (V' := [(8, .string (nodeH sum x0 zv.1)), (9, .bool zv.2)]) ⟨rfl, rfl, trivial⟩ ?_)
    refine CX.ret ?_
    exact ret_tmp2 rfl rfl rfl fun w1 hw => ⟨(nodeH sum x0 zv.1, zv.2), ⟨by rw [show (nodeH sum x0 zv.1).size = 32 from sum_size _]; decide, by rw [rev_last hx0, value_ge sum s x0 _ (by omega) (by omega), hzv.2]; cases zv.2 <;> rfl⟩, rfl, hw.sub (List.nil_sublist _)⟩

theorem w_value02 {w : World} {A : Option Addr} {cap : Nat} (n i : Nat) (s : ByteArray) (ps : List ByteArray) (hr : Rd w A 1 (ps.map strC)) (hcap : ps.length ≤ cap) (hl : ps.length ≤ 1099511627776) (hsz : ∀ x ∈ ps, x.size = 32) (hs : s.size ≤ 4294967296) (hn : n ≤ 9223372036854775807) (hi : i < n) : Calls Tryz.prog 68 #[.int .i64 ((n : Nat) : Int), .int .i64 ((i : Nat) : Int), .string s, .slice A ps.length cap] w (fun e w' => ∃ z : ByteArray × Bool, (z.1.size ≤ 32 ∧ value sum s (List.reverse ps) n i = if z.2 then some z.1 else none) ∧ e = .returned (.tuple #[.string z.1, .bool z.2]) ∧ SL w [] w' []) := by
  have H : ∀ (N : Nat) (ps : List ByteArray) (n i : Nat) (w : World) (A : Option Addr) (cap : Nat), ps.length ≤ N → Rd w A 1 (ps.map strC) → ps.length ≤ cap → ps.length ≤ 1099511627776 → (∀ x ∈ ps, x.size = 32) → n ≤ 9223372036854775807 → i < n → Calls Tryz.prog 68 #[.int .i64 ((n : Nat) : Int), .int .i64 ((i : Nat) : Int), .string s, .slice A ps.length cap] w (fun e w' => ∃ z : ByteArray × Bool, (z.1.size ≤ 32 ∧ value sum s (List.reverse ps) n i = if z.2 then some z.1 else none) ∧ e = .returned (.tuple #[.string z.1, .bool z.2]) ∧ SL w [] w' []) := by
    intro N
    induction N with
    | zero => exact fun ps n i w A cap hN hr hcap hl hsz hn hi => w_value02s n i s ps hr hcap hl hsz hs hn hi (fun qs m j w A cap h => by omega)
    | succ N ih => exact fun ps n i w A cap hN hr hcap hl hsz hn hi => w_value02s n i s ps hr hcap hl hsz hs hn hi (fun qs m j w A cap h => ih qs m j w A cap (by omega))
  exact H ps.length ps n i w A cap (Nat.le_refl _) hr hcap hl hsz hn hi
end Go.Proofs.YtnadipjlhlbfoaaGreatDoor
namespace Go.Proofs.YtnadipjlhlbfoaaGreatDoor
set_option linter.all false
open Go Go.RowKit
set_option maxRecDepth 100000
theorem ent_67 : ∀ args w, (callFunc 67 args).run Tryz.prog w = .ok (.enter 67 args) w := enters_of Tryz.func67 (by kernel_rfl) rfl
theorem ent_40 : ∀ args w, (callFunc 40 args).run Tryz.prog w = .ok (.enter 40 args) w := enters_of Tryz.func40 (by kernel_rfl) rfl
theorem ent_38 : ∀ args w, (callFunc 38 args).run Tryz.prog w = .ok (.enter 38 args) w := enters_of Tryz.func38 (by kernel_rfl) rfl
set_option maxRecDepth 100000 in
theorem w_verify02 {w : World} {A : Option Addr} {cap : Nat} (root : ByteArray) (n i : Nat) (s : ByteArray) (p : List ByteArray) (hr : Rd w A 1 (p.map strC)) (hcap : p.length ≤ cap) (hl : p.length ≤ 1099511627776) (hs : s.size ≤ 4294967296) (hn : n ≤ 9223372036854775807) (hi : i < n) :
    Calls Tryz.prog 40 #[.string root, .int .i64 ((n : Nat) : Int), .int .i64 ((i : Nat) : Int), .string s, .slice A p.length cap] w (fun e w' => e = .returned (.bool (verN root n i s p)) ∧ SL w [] w' []) := by
 refine calls_of_CX (O := []) (L := []) (args := [.string root, .int .i64 ((n : Nat) : Int), .int .i64 ((i : Nat) : Int), .string s, .slice A p.length cap]) Tryz.func40 rfl (by simp [Tryz.ntmps40]) (SL.refl w) ?_
 refine CX.sub (V' := [(0, .string root), (1, .int .i64 ((n : Nat) : Int)), (2, .int .i64 ((i : Nat) : Int)), (3, .string s), (4, .slice A p.length cap)]) ⟨rfl, rfl, rfl, rfl, rfl, trivial⟩ ?_
 refine CX.seq ?_
 refine CX.region ?_
 refine RX.cons rfl rfl (op_w (yw_assign rfl rfl) rfl rfl ?_)
 refine RX.nil (XX.next (V' := [(0, _), (1, _), (2, _), (3, _), (4, _)]) ⟨rfl, rfl, rfl, rfl, rfl, trivial⟩ ?_)
 refine CX.seq ?_
 refine CX.region ?_
 refine RX.cons rfl rfl (op_w (yw_move rfl rfl) rfl rfl ?_)
 refine RX.cons rfl rfl (op_callV (v := .bool (decide (∀ x ∈ (p : List ByteArray), ByteArray.size x = 32))) rfl rfl rfl rfl rfl ent_67 (fun w hw => w_digests02 p (hw.rd hr (by simp)) hl) ?_)
 refine RX.cons rfl rfl (op_w (yw_assign rfl rfl) rfl rfl ?_)
 refine RX.nil (XX.next (V' := [(0, _), (1, _), (2, _), (3, _), (4, _), (11, _)]) ⟨rfl, rfl, rfl, rfl, rfl, rfl, trivial⟩ ?_)
 refine CX.seq ?_
 refine CX.seq ?_
 refine CX.region ?_
 refine RX.cons rfl rfl (op_w (yw_move rfl rfl) rfl rfl ?_)
 refine RX.cons rfl rfl (op_w (yw_lss rfl rfl rfl) rfl rfl ?_)
 refine RX.cons rfl rfl (op_w (yw_move rfl rfl) rfl rfl ?_)
 refine RX.splitD (t := 18) (p := ((i : Nat) : Int) < 0) rfl (fun d18 => ?_) (fun d18 => ?_)
 ·exfalso; omega
 ·refine RX.consG rfl rfl rfl rfl rfl (op_w (yw_move rfl rfl) rfl rfl ?_)
  refine RX.consG rfl rfl rfl rfl rfl (op_w (yw_move rfl rfl) rfl rfl ?_)
  refine RX.consG rfl rfl rfl rfl rfl (op_w (yw_geq rfl rfl rfl) rfl rfl ?_)
  refine RX.cons rfl rfl (op_w (yw_pickF rfl rfl rfl) rfl rfl ?_)
  refine RX.cons rfl rfl (op_w (yw_move rfl rfl) rfl rfl ?_)
  refine RX.splitD (t := 23) (p := ((n : Nat) : Int) ≤ ((i : Nat) : Int)) rfl (fun d23 => ?_) (fun d23 => ?_)
  ·exfalso; omega
  ·refine RX.consG rfl rfl rfl rfl rfl (op_w (yw_move rfl rfl) rfl rfl ?_)
   refine RX.consG rfl rfl rfl rfl rfl (op_w (yw_notD rfl rfl) rfl rfl ?_)
   refine RX.cons rfl rfl (op_w (yw_pickF rfl rfl rfl) rfl rfl ?_)
   refine RX.nil (XX.next (V' := [(0, _), (1, _), (2, _), (3, _), (4, _), (26, _)]) ⟨rfl, rfl, rfl, rfl, rfl, rfl, trivial⟩ ?_)
   refine CX.condD (p := ¬ (∀ x ∈ (p : List ByteArray), ByteArray.size x = 32)) rfl (fun c26 => ?_) (fun c26 => ?_)
   ·refine CX.seq ?_
    refine CX.region ?_
    refine RX.cons rfl rfl (op_w (yw_assign rfl rfl) rfl rfl ?_)
    refine RX.nil (XX.next (V' := [(10, .bool false)]) ⟨rfl, trivial⟩ ?_)
    refine CX.ret ?_
    refine XX.then_ret ?_
    exact ret_tmp rfl rfl fun w1 hw => ⟨by rw [verN_odd c26], hw.sub (List.nil_sublist _)⟩
   ·have hall : ∀ x ∈ p, x.size = 32 := Decidable.not_not.1 c26
    refine CX.skip (XX.next (V' := [(0, _), (1, _), (2, _), (3, _), (4, _)]) ⟨rfl, rfl, rfl, rfl, rfl, trivial⟩ ?_)
    refine CX.seq ?_
    refine CX.region ?_
    refine RX.cons rfl rfl (op_w (yw_move rfl rfl) rfl rfl ?_)
    refine RX.cons rfl rfl (op_w (yw_move rfl rfl) rfl rfl ?_)
    refine RX.cons rfl rfl (op_w (yw_move rfl rfl) rfl rfl ?_)
    refine RX.cons rfl rfl (op_w (yw_move rfl rfl) rfl rfl ?_)
    refine RX.cons rfl rfl (op_callE rfl rfl rfl rfl rfl ent_68 (fun w hw => w_value02 n i s p (hw.rd hr (by simp)) hcap hl hall hs hn hi) (fun zv hzv => ?_))
    refine RX.cons rfl rfl (op_w (yw_move rfl rfl) rfl rfl ?_)
    refine RX.cons rfl rfl (op_w (yw_extract rfl rfl rfl) rfl rfl ?_)
    refine RX.cons rfl rfl (op_w (yw_extract rfl rfl rfl) rfl rfl ?_)
    refine RX.cons rfl rfl (op_w (yw_assign rfl rfl) rfl rfl ?_)
    refine RX.cons rfl rfl (op_w (yw_assign rfl rfl) rfl rfl ?_)
    refine RX.nil (XX.next (V' := [(0, _), (12, _), (13, _)]) ⟨rfl, rfl, rfl, trivial⟩ ?_)
    refine CX.seq ?_
    refine CX.region ?_
    refine RX.cons rfl rfl (op_w (yw_move rfl rfl) rfl rfl ?_)
    refine RX.cons rfl rfl (op_w (yw_move rfl rfl) rfl rfl ?_)
    refine RX.split (t := 36) (b := zv.2) rfl (fun d36 => ?_) (fun d36 => ?_)
    ·refine RX.consG rfl rfl rfl rfl rfl (op_w (yw_move rfl rfl) rfl rfl ?_)
     refine RX.consG rfl rfl rfl rfl rfl (op_w (yw_move rfl rfl) rfl rfl ?_)
     refine RX.consG rfl rfl rfl rfl rfl (op_w (yw_streq rfl rfl rfl) rfl rfl ?_)
     refine RX.cons rfl rfl (op_w (yw_pickT rfl rfl rfl) rfl rfl ?_)
     refine RX.cons rfl rfl (op_w (yw_assign rfl rfl) rfl rfl ?_)
     refine RX.nil (XX.next (V' := [(10, .bool (decide (ByteArray.toList zv.1 = ByteArray.toList root)))]) ⟨rfl, trivial⟩ ?_)
     refine CX.ret ?_
     exact ret_tmp rfl rfl fun w1 hw => ⟨by rw [verN_some (v := zv.1) hall (by rw [hzv.2, d36]; rfl)], hw.sub (List.nil_sublist _)⟩
    ·refine RX.skip rfl rfl rfl rfl rfl rfl rfl ?_
     refine RX.skip rfl rfl rfl rfl rfl rfl rfl ?_
     refine RX.skip rfl rfl rfl rfl rfl rfl rfl ?_
     refine RX.cons rfl rfl (op_w (yw_pickF rfl rfl rfl) rfl rfl ?_)
     refine RX.cons rfl rfl (op_w (yw_assign rfl rfl) rfl rfl ?_)
     refine RX.nil (XX.next (V' := [(10, .bool false)]) ⟨rfl, trivial⟩ ?_)
     refine CX.ret ?_
     exact ret_tmp rfl rfl fun w1 hw => ⟨by rw [verN_none (by rw [hzv.2, d36]; rfl)], hw.sub (List.nil_sublist _)⟩

set_option maxRecDepth 100000 in
theorem w_verify02Out {w : World} {A : Option Addr} {cap : Nat} (root : ByteArray) (n i : Int) (s : ByteArray) (p : List ByteArray) (hr : Rd w A 1 (p.map strC)) (hl : p.length ≤ 1099511627776) (hi : i < 0 ∨ n ≤ i) :
    Calls Tryz.prog 40 #[.string root, .int .i64 n, .int .i64 i, .string s, .slice A p.length cap] w (fun e w' => e = .returned (.bool false) ∧ SL w [] w' []) := by
 refine calls_of_CX (O := []) (L := []) (args := [.string root, .int .i64 n, .int .i64 i, .string s, .slice A p.length cap]) Tryz.func40 rfl (by simp [Tryz.ntmps40]) (SL.refl w) ?_
 refine CX.sub (V' := [(0, .string root), (1, .int .i64 n), (2, .int .i64 i), (3, .string s), (4, .slice A p.length cap)]) ⟨rfl, rfl, rfl, rfl, rfl, trivial⟩ ?_
 refine CX.seq ?_
 refine CX.region ?_
 refine RX.cons rfl rfl (op_w (yw_assign rfl rfl) rfl rfl ?_)
 refine RX.nil (XX.next (V' := [(0, _), (1, _), (2, _), (3, _), (4, _)]) ⟨rfl, rfl, rfl, rfl, rfl, trivial⟩ ?_)
 refine CX.seq ?_
 refine CX.region ?_
 refine RX.cons rfl rfl (op_w (yw_move rfl rfl) rfl rfl ?_)
 refine RX.cons rfl rfl (op_callV (v := .bool (decide (∀ x ∈ (p : List ByteArray), ByteArray.size x = 32))) rfl rfl rfl rfl rfl ent_67 (fun w hw => w_digests02 p (hw.rd hr (by simp)) hl) ?_)
 refine RX.cons rfl rfl (op_w (yw_assign rfl rfl) rfl rfl ?_)
 refine RX.nil (XX.next (V' := [(0, _), (1, _), (2, _), (3, _), (4, _), (11, _)]) ⟨rfl, rfl, rfl, rfl, rfl, rfl, trivial⟩ ?_)
 refine CX.seq ?_
 refine CX.seq ?_
 refine CX.region ?_
 refine RX.cons rfl rfl (op_w (yw_move rfl rfl) rfl rfl ?_)
 refine RX.cons rfl rfl (op_w (yw_lss rfl rfl rfl) rfl rfl ?_)
 refine RX.cons rfl rfl (op_w (yw_move rfl rfl) rfl rfl ?_)
 refine RX.splitD (t := 18) (p := i < 0) rfl (fun d18 => ?_) (fun d18 => ?_)
 ·refine RX.skip rfl rfl rfl rfl rfl rfl rfl ?_
  refine RX.skip rfl rfl rfl rfl rfl rfl rfl ?_
  refine RX.skip rfl rfl rfl rfl rfl rfl rfl ?_
  refine RX.cons rfl rfl (op_w (yw_pickT rfl rfl rfl) rfl rfl ?_)
  refine RX.cons rfl rfl (op_w (yw_move rfl rfl) rfl rfl ?_)
  refine RX.skip rfl rfl rfl rfl rfl rfl rfl ?_
  refine RX.skip rfl rfl rfl rfl rfl rfl rfl ?_
  refine RX.cons rfl rfl (op_w (yw_pickT rfl rfl rfl) rfl rfl ?_)
  refine RX.nil (XX.next (V' := [(0, _), (1, _), (2, _), (3, _), (4, _), (26, _)]) ⟨rfl, rfl, rfl, rfl, rfl, rfl, trivial⟩ ?_)
  refine CX.condT rfl ?_
  refine CX.seq ?_
  refine CX.region ?_
  refine RX.cons rfl rfl (op_w (yw_assign rfl rfl) rfl rfl ?_)
  refine RX.nil (XX.next (V' := [(10, .bool false)]) ⟨rfl, trivial⟩ ?_)
  refine CX.ret ?_
  refine XX.then_ret ?_
  exact ret_tmp rfl rfl fun w1 hw => ⟨rfl, hw.sub (List.nil_sublist _)⟩
 ·refine RX.consG rfl rfl rfl rfl rfl (op_w (yw_move rfl rfl) rfl rfl ?_)
  refine RX.consG rfl rfl rfl rfl rfl (op_w (yw_move rfl rfl) rfl rfl ?_)
  refine RX.consG rfl rfl rfl rfl rfl (op_w (yw_geq rfl rfl rfl) rfl rfl ?_)
  refine RX.cons rfl rfl (op_w (yw_pickF rfl rfl rfl) rfl rfl ?_)
  refine RX.cons rfl rfl (op_w (yw_move rfl rfl) rfl rfl ?_)
  refine RX.splitD (t := 23) (p := n ≤ i) rfl (fun d23 => ?_) (fun d23 => ?_)
  ·refine RX.skip rfl rfl rfl rfl rfl rfl rfl ?_
   refine RX.skip rfl rfl rfl rfl rfl rfl rfl ?_
   refine RX.cons rfl rfl (op_w (yw_pickT rfl rfl rfl) rfl rfl ?_)
   refine RX.nil (XX.next (V' := [(0, _), (1, _), (2, _), (3, _), (4, _), (26, _)]) ⟨rfl, rfl, rfl, rfl, rfl, rfl, trivial⟩ ?_)
   refine CX.condT rfl ?_
   refine CX.seq ?_
   refine CX.region ?_
   refine RX.cons rfl rfl (op_w (yw_assign rfl rfl) rfl rfl ?_)
   refine RX.nil (XX.next (V' := [(10, .bool false)]) ⟨rfl, trivial⟩ ?_)
   refine CX.ret ?_
   refine XX.then_ret ?_
   exact ret_tmp rfl rfl fun w1 hw => ⟨rfl, hw.sub (List.nil_sublist _)⟩
  ·exfalso; omega

theorem w_verify02Z {w : World} {A : Option Addr} {cap : Nat} (root : ByteArray) (n i : Int) (s : ByteArray) (p : List ByteArray) (hr : Rd w A 1 (p.map strC)) (hcap : p.length ≤ cap) (hl : p.length ≤ 1099511627776) (hs : s.size ≤ 4294967296) (hn : n ≤ 9223372036854775807) : Calls Tryz.prog 40 #[.string root, .int .i64 n, .int .i64 i, .string s, .slice A p.length cap] w (fun e w' => e = .returned (.bool (verZ root n i s p)) ∧ SL w [] w' []) := by
  by_cases h : 0 ≤ i ∧ i < n
  · obtain ⟨n', rfl⟩ := Int.eq_ofNat_of_zero_le (show 0 ≤ n by omega)
    obtain ⟨i', rfl⟩ := Int.eq_ofNat_of_zero_le h.1
    rw [verZ_in (by omega)]
    exact w_verify02 root n' i' s p hr hcap hl hs (by omega) (by omega)
  · rw [verZ_out (by omega)]
    exact w_verify02Out root n i s p hr hl (by omega)
set_option maxRecDepth 100000 in
theorem w_verify24 {w : World} (root : ByteArray) (s : Stm) (i n : Int) (salt : ByteArray) (path : List ByteArray) (z : LZ) (hr : Rd w z.1.1 3 (s.ls.map lnC)) (hl : s.ls.length ≤ 1000000) (hp : Rd w z.2.1 1 (path.map strC)) (hcp : path.length ≤ z.2.2) (hpl : path.length ≤ 1000000) (hn : n ≤ 9223372036854775807) :
    Calls Tryz.prog 20 #[.string root, .agg (prZ s i n salt path z)] w (fun e w' => e = .returned (.bool (verL root s i n salt path)) ∧ SL w [] w' []) := by
 refine calls_of_CX (O := []) (L := []) (args := [.string root, .agg (prZ s i n salt path z)]) Tryz.func20 rfl (by simp [Tryz.ntmps20]) (SL.refl w) ?_
 refine CX.sub (V' := [(0, .string root), (1, .agg (prZ s i n salt path z))]) ⟨rfl, rfl, trivial⟩ ?_
 refine CX.seq ?_
 refine CX.region ?_
 refine RX.cons rfl rfl (op_box rfl rfl rfl rfl fun gp => ?_)
 refine RX.cons rfl rfl (op_w (yw_assign rfl rfl) rfl rfl ?_)
 refine RX.nil (XX.next (V' := [(0, _), (3, _)]) ⟨rfl, rfl, trivial⟩ ?_)
 refine CX.seq ?_
 by_cases hok : okS s = true
 ·refine CX.region ?_
  refine RX.cons rfl rfl (op_w (yw_field0 rfl fld_28_0 rfl) rfl rfl ?_)
  refine RX.cons rfl rfl (op_yld (y_loadP (i := 0) (vs := #[.int .i64 (Stm.h s), .int .i64 (Stm.c s), .slice z.1.1 (List.length (Stm.ls s)) z.1.2]) rfl rfl agg_25 rfl rfl (fun k hk => by match k, hk with | 0, _ => rfl | 1, _ => rfl | 2, _ => rfl)) rfl rfl ?_)
  refine RX.cons rfl rfl (op_callV (v := .tuple #[.string (encS s), .int .i64 0]) rfl rfl rfl rfl rfl ent_27 (fun w hw => by have h := w_encode19 (cap := z.1.2) s (hw.rd hr (by simp)) hl; rw [encR_ok hok] at h; exact h) ?_)
  refine RX.cons rfl rfl (op_w (yw_move rfl rfl) rfl rfl ?_)
  refine RX.cons rfl rfl (op_w (yw_extract rfl rfl rfl) rfl rfl ?_)
  refine RX.cons rfl rfl (op_w (yw_extract rfl rfl rfl) rfl rfl ?_)
  refine RX.cons rfl rfl (op_w (yw_assign rfl rfl) rfl rfl ?_)
  refine RX.cons rfl rfl (op_w (yw_assign rfl rfl) rfl rfl ?_)
  refine RX.nil (XX.next (V' := [(0, _), (3, _), (5, _), (6, _)]) ⟨rfl, rfl, rfl, rfl, trivial⟩ ?_)
  refine CX.seq ?_
  refine CX.region ?_
  refine RX.cons rfl rfl (op_w (yw_move rfl rfl) rfl rfl ?_)
  refine RX.cons rfl rfl (op_w (yw_eql rfl rfl rfl) rfl rfl ?_)
  refine RX.know (t := 14) (u := .bool true) rfl rfl ?_
  refine RX.cons rfl rfl (op_w (yw_move rfl rfl) rfl rfl ?_)
  refine RX.consG rfl rfl rfl rfl rfl (op_w (yw_fieldAddr rfl fld_28_3 rfl) rfl rfl ?_)
  refine RX.consG rfl rfl rfl rfl rfl (op_yld (y_load (i := 0) rfl rfl one_9 rfl rfl) rfl rfl ?_)
  refine RX.consG rfl rfl rfl rfl rfl (op_w (yw_lenStr rfl Tryz.underlying9 rfl) rfl rfl ?_)
  refine RX.consG rfl rfl rfl rfl rfl (op_w (yw_eql rfl rfl rfl) rfl rfl ?_)
  refine RX.cons rfl rfl (op_w (yw_pickT rfl rfl rfl) rfl rfl ?_)
  refine RX.cons rfl rfl (op_w (yw_move rfl rfl) rfl rfl ?_)
  refine RX.splitD (t := 21) (p := ((ByteArray.size salt : Nat) : Int) = 32) rfl (fun d21 => ?_) (fun d21 => ?_)
  ·refine RX.consG rfl rfl rfl rfl rfl (op_w (yw_move rfl rfl) rfl rfl ?_)
   refine RX.consG rfl rfl rfl rfl rfl (op_w (yw_fieldAddr rfl fld_28_2 rfl) rfl rfl ?_)
   refine RX.consG rfl rfl rfl rfl rfl (op_yld (y_load (i := 0) rfl rfl one_3 rfl rfl) rfl rfl ?_)
   refine RX.consG rfl rfl rfl rfl rfl (op_w (yw_fieldAddr rfl fld_28_1 rfl) rfl rfl ?_)
   refine RX.consG rfl rfl rfl rfl rfl (op_yld (y_load (i := 0) rfl rfl one_3 rfl rfl) rfl rfl ?_)
   refine RX.consG rfl rfl rfl rfl rfl (op_w (yw_fieldAddr rfl fld_28_3 rfl) rfl rfl ?_)
   refine RX.consG rfl rfl rfl rfl rfl (op_yld (y_load (i := 0) rfl rfl one_9 rfl rfl) rfl rfl ?_)
   refine RX.consG rfl rfl rfl rfl rfl (op_w (yw_move rfl rfl) rfl rfl ?_)
   refine RX.consG rfl rfl rfl rfl rfl (op_w (yw_stradd rfl rfl rfl (by have := word_le s hl salt (by omega); rw [ByteArray.size_append] at this; exact Nat.le_trans this (by decide))) rfl rfl ?_)
   refine RX.consG rfl rfl rfl rfl rfl (op_w (yw_fieldAddr rfl fld_28_4 rfl) rfl rfl ?_)
   refine RX.consG rfl rfl rfl rfl rfl (op_yld (y_load (i := 0) rfl rfl one_26 rfl rfl) rfl rfl ?_)
   refine RX.consG rfl rfl rfl rfl rfl (op_callV (v := .bool (verZ root n i (salt ++ (encS s)) path)) rfl rfl rfl rfl rfl ent_40 (fun w hw => w_verify02Z root n i (salt ++ (encS s)) path (hw.rd hp (by simp)) hcp (by omega) (word_le s hl salt (by omega)) hn) ?_)
   refine RX.cons rfl rfl (op_w (yw_pickT rfl rfl rfl) rfl rfl ?_)
   refine RX.cons rfl rfl (op_w (yw_assign rfl rfl) rfl rfl ?_)
   refine RX.nil (XX.next (V' := [(4, .bool (verZ root n i (salt ++ (encS s)) path))]) ⟨rfl, trivial⟩ ?_)
   refine CX.ret ?_
   exact ret_tmp rfl rfl fun w1 hw => ⟨by rw [verL, hok, decide_eq_true (show salt.size = 32 by omega), Bool.true_and, Bool.true_and], hw.sub (List.nil_sublist _)⟩
  ·refine RX.skip rfl rfl rfl rfl rfl rfl rfl ?_
   refine RX.skip rfl rfl rfl rfl rfl rfl rfl ?_
   refine RX.skip rfl rfl rfl rfl rfl rfl rfl ?_
   refine RX.skip rfl rfl rfl rfl rfl rfl rfl ?_
   refine RX.skip rfl rfl rfl rfl rfl rfl rfl ?_
   refine RX.skip rfl rfl rfl rfl rfl rfl rfl ?_
   refine RX.skip rfl rfl rfl rfl rfl rfl rfl ?_
   refine RX.skip rfl rfl rfl rfl rfl rfl rfl ?_
   refine RX.skip rfl rfl rfl rfl rfl rfl rfl ?_
   refine RX.skip rfl rfl rfl rfl rfl rfl rfl ?_
   refine RX.skip rfl rfl rfl rfl rfl rfl rfl ?_
   refine RX.skip rfl rfl rfl rfl rfl rfl rfl ?_
   refine RX.cons rfl rfl (op_w (yw_pickF rfl rfl rfl) rfl rfl ?_)
   refine RX.cons rfl rfl (op_w (yw_assign rfl rfl) rfl rfl ?_)
   refine RX.nil (XX.next (V' := [(4, .bool false)]) ⟨rfl, trivial⟩ ?_)
   refine CX.ret ?_
   exact ret_tmp rfl rfl fun w1 hw => ⟨by rw [verL, decide_eq_false (show ¬ salt.size = 32 by omega), Bool.false_and, Bool.and_false], hw.sub (List.nil_sublist _)⟩
 ·refine CX.region ?_
  refine RX.cons rfl rfl (op_w (yw_field0 rfl fld_28_0 rfl) rfl rfl ?_)
  refine RX.cons rfl rfl (op_yld (y_loadP (i := 0) (vs := #[.int .i64 (Stm.h s), .int .i64 (Stm.c s), .slice z.1.1 (List.length (Stm.ls s)) z.1.2]) rfl rfl agg_25 rfl rfl (fun k hk => by match k, hk with | 0, _ => rfl | 1, _ => rfl | 2, _ => rfl)) rfl rfl ?_)
  refine RX.cons rfl rfl (op_callV (v := .tuple #[.string .empty, .int .i64 190]) rfl rfl rfl rfl rfl ent_27 (fun w hw => by have h := w_encode19 (cap := z.1.2) s (hw.rd hr (by simp)) hl; rw [encR_bad (by simpa using hok)] at h; exact h) ?_)
  refine RX.cons rfl rfl (op_w (yw_move rfl rfl) rfl rfl ?_)
  refine RX.cons rfl rfl (op_w (yw_extract rfl rfl rfl) rfl rfl ?_)
  refine RX.cons rfl rfl (op_w (yw_extract rfl rfl rfl) rfl rfl ?_)
  refine RX.cons rfl rfl (op_w (yw_assign rfl rfl) rfl rfl ?_)
  refine RX.cons rfl rfl (op_w (yw_assign rfl rfl) rfl rfl ?_)
  refine RX.nil (XX.next (V' := [(0, _), (3, _), (5, _), (6, _)]) ⟨rfl, rfl, rfl, rfl, trivial⟩ ?_)
  refine CX.seq ?_
  refine CX.region ?_
  refine RX.cons rfl rfl (op_w (yw_move rfl rfl) rfl rfl ?_)
  refine RX.cons rfl rfl (op_w (yw_eql rfl rfl rfl) rfl rfl ?_)
  refine RX.know (t := 14) (u := .bool false) rfl rfl ?_
  refine RX.cons rfl rfl (op_w (yw_move rfl rfl) rfl rfl ?_)
  refine RX.skip rfl rfl rfl rfl rfl rfl rfl ?_
  refine RX.skip rfl rfl rfl rfl rfl rfl rfl ?_
  refine RX.skip rfl rfl rfl rfl rfl rfl rfl ?_
  refine RX.skip rfl rfl rfl rfl rfl rfl rfl ?_
  refine RX.cons rfl rfl (op_w (yw_pickF rfl rfl rfl) rfl rfl ?_)
  refine RX.cons rfl rfl (op_w (yw_move rfl rfl) rfl rfl ?_)
  refine RX.skip rfl rfl rfl rfl rfl rfl rfl ?_
  refine RX.skip rfl rfl rfl rfl rfl rfl rfl ?_
  refine RX.skip rfl rfl rfl rfl rfl rfl rfl ?_
  refine RX.skip rfl rfl rfl rfl rfl rfl rfl ?_
  refine RX.skip rfl rfl rfl rfl rfl rfl rfl ?_
  refine RX.skip rfl rfl rfl rfl rfl rfl rfl ?_
  refine RX.skip rfl rfl rfl rfl rfl rfl rfl ?_
  refine RX.skip rfl rfl rfl rfl rfl rfl rfl ?_
  refine RX.skip rfl rfl rfl rfl rfl rfl rfl ?_
  refine RX.skip rfl rfl rfl rfl rfl rfl rfl ?_
  refine RX.skip rfl rfl rfl rfl rfl rfl rfl ?_
  refine RX.skip rfl rfl rfl rfl rfl rfl rfl ?_
  refine RX.cons rfl rfl (op_w (yw_pickF rfl rfl rfl) rfl rfl ?_)
  refine RX.cons rfl rfl (op_w (yw_assign rfl rfl) rfl rfl ?_)
  refine RX.nil (XX.next (V' := [(4, .bool false)]) ⟨rfl, trivial⟩ ?_)
  refine CX.ret ?_
  exact ret_tmp rfl rfl fun w1 hw => ⟨by rw [verL, (by simpa using hok : okS s = false), Bool.false_and], hw.sub (List.nil_sublist _)⟩

set_option maxRecDepth 100000 in
theorem w_sameProof {w : World} (s : Stm) (i n : Int) (salt : ByteArray) (path : List ByteArray) (y z : LZ) (hry : Rd w y.1.1 3 (s.ls.map lnC)) (hpy : Rd w y.2.1 1 (path.map strC)) (hrz : Rd w z.1.1 3 (s.ls.map lnC)) (hpz : Rd w z.2.1 1 (path.map strC)) (hl : s.ls.length ≤ 1000000) (hpl : path.length ≤ 1000000) :
    Calls Tryz.prog 18 #[.agg (prZ s i n salt path y), .agg (prZ s i n salt path z)] w (fun e w' => e = .returned (.bool true) ∧ SL w [] w' []) := by
 refine calls_of_CX (O := []) (L := []) (args := [.agg (prZ s i n salt path y), .agg (prZ s i n salt path z)]) Tryz.func18 rfl (by simp [Tryz.ntmps18]) (SL.refl w) ?_
 refine CX.sub (V' := [(0, .agg (prZ s i n salt path y)), (1, .agg (prZ s i n salt path z))]) ⟨rfl, rfl, trivial⟩ ?_
 refine CX.seq ?_
 refine CX.region ?_
 refine RX.cons rfl rfl (op_box rfl rfl rfl rfl fun ga => ?_)
 refine RX.cons rfl rfl (op_box rfl rfl rfl rfl fun gb => ?_)
 refine RX.cons rfl rfl (op_w (yw_assign rfl rfl) rfl rfl ?_)
 refine RX.nil (XX.next (V' := [(2, _), (3, _)]) ⟨rfl, rfl, trivial⟩ ?_)
 refine CX.seq ?_
 refine CX.region ?_
 refine RX.cons rfl rfl (op_w (yw_field0 rfl fld_28_0 rfl) rfl rfl ?_)
 refine RX.cons rfl rfl (op_yld (y_loadP (i := 1) (vs := #[.int .i64 (Stm.h s), .int .i64 (Stm.c s), .slice y.1.1 (List.length (Stm.ls s)) y.1.2]) rfl rfl agg_25 rfl rfl (fun k hk => by match k, hk with | 0, _ => rfl | 1, _ => rfl | 2, _ => rfl)) rfl rfl ?_)
 refine RX.cons rfl rfl (op_w (yw_field0 rfl fld_28_0 rfl) rfl rfl ?_)
 refine RX.cons rfl rfl (op_yld (y_loadP (i := 0) (vs := #[.int .i64 (Stm.h s), .int .i64 (Stm.c s), .slice z.1.1 (List.length (Stm.ls s)) z.1.2]) rfl rfl agg_25 rfl rfl (fun k hk => by match k, hk with | 0, _ => rfl | 1, _ => rfl | 2, _ => rfl)) rfl rfl ?_)
 refine RX.cons rfl rfl (op_callV (v := .bool (decide (s = s))) rfl rfl rfl rfl rfl ent_31 (fun w hw => w_same s s (hw.rd hry (by simp)) (hw.rd hrz (by simp)) hl) ?_)
 refine RX.know (t := 9) (u := .bool true) rfl (congrArg Value.bool (decide_eq_true rfl)) ?_
 refine RX.cons rfl rfl (op_w (yw_move rfl rfl) rfl rfl ?_)
 refine RX.consG rfl rfl rfl rfl rfl (op_w (yw_fieldAddr rfl fld_28_1 rfl) rfl rfl ?_)
 refine RX.consG rfl rfl rfl rfl rfl (op_yld (y_load (i := 1) rfl rfl one_3 rfl rfl) rfl rfl ?_)
 refine RX.consG rfl rfl rfl rfl rfl (op_w (yw_fieldAddr rfl fld_28_1 rfl) rfl rfl ?_)
 refine RX.consG rfl rfl rfl rfl rfl (op_yld (y_load (i := 0) rfl rfl one_3 rfl rfl) rfl rfl ?_)
 refine RX.consG rfl rfl rfl rfl rfl (op_w (yw_eql rfl rfl rfl) rfl rfl ?_)
 refine RX.know (t := 15) (u := .bool true) rfl (congrArg Value.bool (decide_eq_true rfl)) ?_
 refine RX.cons rfl rfl (op_w (yw_pickT rfl rfl rfl) rfl rfl ?_)
 refine RX.cons rfl rfl (op_w (yw_move rfl rfl) rfl rfl ?_)
 refine RX.consG rfl rfl rfl rfl rfl (op_w (yw_fieldAddr rfl fld_28_2 rfl) rfl rfl ?_)
 refine RX.consG rfl rfl rfl rfl rfl (op_yld (y_load (i := 1) rfl rfl one_3 rfl rfl) rfl rfl ?_)
 refine RX.consG rfl rfl rfl rfl rfl (op_w (yw_fieldAddr rfl fld_28_2 rfl) rfl rfl ?_)
 refine RX.consG rfl rfl rfl rfl rfl (op_yld (y_load (i := 0) rfl rfl one_3 rfl rfl) rfl rfl ?_)
 refine RX.consG rfl rfl rfl rfl rfl (op_w (yw_eql rfl rfl rfl) rfl rfl ?_)
 refine RX.know (t := 22) (u := .bool true) rfl (congrArg Value.bool (decide_eq_true rfl)) ?_
 refine RX.cons rfl rfl (op_w (yw_pickT rfl rfl rfl) rfl rfl ?_)
 refine RX.cons rfl rfl (op_w (yw_move rfl rfl) rfl rfl ?_)
 refine RX.consG rfl rfl rfl rfl rfl (op_w (yw_fieldAddr rfl fld_28_3 rfl) rfl rfl ?_)
 refine RX.consG rfl rfl rfl rfl rfl (op_yld (y_load (i := 1) rfl rfl one_9 rfl rfl) rfl rfl ?_)
 refine RX.consG rfl rfl rfl rfl rfl (op_w (yw_fieldAddr rfl fld_28_3 rfl) rfl rfl ?_)
 refine RX.consG rfl rfl rfl rfl rfl (op_yld (y_load (i := 0) rfl rfl one_9 rfl rfl) rfl rfl ?_)
 refine RX.consG rfl rfl rfl rfl rfl (op_w (yw_streq rfl rfl rfl) rfl rfl ?_)
 refine RX.know (t := 29) (u := .bool true) rfl (congrArg Value.bool (decide_eq_true rfl)) ?_
 refine RX.cons rfl rfl (op_w (yw_pickT rfl rfl rfl) rfl rfl ?_)
 refine RX.cons rfl rfl (op_w (yw_move rfl rfl) rfl rfl ?_)
 refine RX.consG rfl rfl rfl rfl rfl (op_w (yw_fieldAddr rfl fld_28_4 rfl) rfl rfl ?_)
 refine RX.consG rfl rfl rfl rfl rfl (op_yld (y_load (i := 1) rfl rfl one_26 rfl rfl) rfl rfl ?_)
 refine RX.consG rfl rfl rfl rfl rfl (op_w (yw_fieldAddr rfl fld_28_4 rfl) rfl rfl ?_)
 refine RX.consG rfl rfl rfl rfl rfl (op_yld (y_load (i := 0) rfl rfl one_26 rfl rfl) rfl rfl ?_)
 refine RX.consG rfl rfl rfl rfl rfl (op_callV (v := .bool (decide ((path : List ByteArray) = path))) rfl rfl rfl rfl rfl ent_38 (fun w hw => w_same02 path path (hw.rd hpy (by simp)) (hw.rd hpz (by simp)) hpl) ?_)
 refine RX.know (t := 36) (u := .bool true) rfl (congrArg Value.bool (decide_eq_true rfl)) ?_
 refine RX.cons rfl rfl (op_w (yw_pickT rfl rfl rfl) rfl rfl ?_)
 refine RX.cons rfl rfl (op_w (yw_assign rfl rfl) rfl rfl ?_)
 refine RX.nil (XX.next (V' := [(4, .bool true)]) ⟨rfl, trivial⟩ ?_)
 refine CX.ret ?_
 exact ret_tmp rfl rfl fun w1 hw => ⟨rfl, hw.sub (List.nil_sublist _)⟩

end Go.Proofs.YtnadipjlhlbfoaaGreatDoor
namespace Go.Proofs.YtnadipjlhlbfoaaGreatDoor
set_option linter.all false
open Go Go.RowKit
set_option maxRecDepth 100000
theorem ent_34 : ∀ args w, (callFunc 34 args).run Tryz.prog w = .ok (.enter 34 args) w := enters_of Tryz.func34 (by kernel_rfl) rfl
theorem ent_66 : ∀ args w, (callFunc 66 args).run Tryz.prog w = .ok (.enter 66 args) w := enters_of Tryz.func66 (by kernel_rfl) rfl
theorem path_le (l : List ByteArray) (i : Nat) : (path sum l i).reverse.length ≤ l.length := by
  rw [List.length_reverse, path, path_length]; exact depth_le _ _ _
theorem ext_len (l : List ByteArray) (m : Nat) (w : Bool) : (ext sum l m w).reverse.length ≤ l.length := by
  rw [List.length_reverse, ext]; exact extF_length _ _ _ _
set_option maxRecDepth 100000 in
theorem w_proof02s {w : World} {A : Option Addr} {cap : Nat} (xs : List ByteArray) (hr : Rd w A 1 (xs.map strC)) (hcap : xs.length ≤ cap) (hl : xs.length ≤ 1000000) (hsz : ∀ s ∈ xs, s.size ≤ 4294967296) (i : Nat) (hi : i < xs.length) (ih : ∀ (ys : List ByteArray) (i : Nat) (w : World) (A : Option Addr) (cap : Nat), ys.length < xs.length → Rd w A 1 (ys.map strC) → ys.length ≤ cap → ys.length ≤ 1000000 → (∀ s ∈ ys, s.size ≤ 4294967296) → i < ys.length → Calls Tryz.prog 34 #[.slice A ys.length cap, .int .i64 ((i : Nat) : Int)] w (fun e w' => ∃ z : Option Addr × Nat, True ∧ e = .returned (.tuple #[.slice z.1 (List.length ((path sum ys i).reverse)) z.2, .int .i64 0]) ∧ SL w [] w' [.row z.1 z.2 9 1 (List.map strC ((path sum ys i).reverse))])) :
    Calls Tryz.prog 34 #[.slice A xs.length cap, .int .i64 ((i : Nat) : Int)] w (fun e w' => ∃ z : Option Addr × Nat, True ∧ e = .returned (.tuple #[.slice z.1 (List.length ((path sum xs i).reverse)) z.2, .int .i64 0]) ∧ SL w [] w' [.row z.1 z.2 9 1 (List.map strC ((path sum xs i).reverse))]) := by
 refine calls_of_CX (O := []) (L := []) (args := [.slice A xs.length cap, .int .i64 ((i : Nat) : Int)]) Tryz.func34 rfl (by simp [Tryz.ntmps34]) (SL.refl w) ?_
 refine CX.sub (V' := [(0, .slice A xs.length cap), (1, .int .i64 ((i : Nat) : Int))]) ⟨rfl, rfl, trivial⟩ ?_
 refine CX.seq ?_
 refine CX.region ?_
 refine RX.cons rfl rfl (op_w (yw_assign rfl rfl) rfl rfl ?_)
 refine RX.cons rfl rfl (op_w (yw_assign rfl rfl) rfl rfl ?_)
 refine RX.nil (XX.next (V' := [(0, _), (1, _)]) ⟨rfl, rfl, trivial⟩ ?_)
 refine CX.seq ?_
 refine CX.seq ?_
 refine CX.region ?_
 refine RX.cons rfl rfl (op_w (yw_move rfl rfl) rfl rfl ?_)
 refine RX.cons rfl rfl (op_w (yw_lss rfl rfl rfl) rfl rfl ?_)
 refine RX.cons rfl rfl (op_w (yw_move rfl rfl) rfl rfl ?_)
 refine RX.splitD (t := 13) (p := ((i : Nat) : Int) < 0) rfl (fun d13 => ?_) (fun d13 => ?_)
 ·exfalso; omega
 ·refine RX.consG rfl rfl rfl rfl rfl (op_w (yw_move rfl rfl) rfl rfl ?_)
  refine RX.consG rfl rfl rfl rfl rfl (op_w (yw_move rfl rfl) rfl rfl ?_)
  refine RX.consG rfl rfl rfl rfl rfl (op_w (yw_lenS rfl Tryz.underlying26 rfl) rfl rfl ?_)
  refine RX.consG rfl rfl rfl rfl rfl (op_w (yw_geq rfl rfl rfl) rfl rfl ?_)
  refine RX.cons rfl rfl (op_w (yw_pickF rfl rfl rfl) rfl rfl ?_)
  refine RX.nil (XX.next (V' := [(0, _), (1, _), (18, _)]) ⟨rfl, rfl, rfl, trivial⟩ ?_)
  refine CX.condD (p := ((xs.length : Nat) : Int) ≤ ((i : Nat) : Int)) rfl (fun c18 => ?_) (fun c18 => ?_)
  ·exfalso; omega
  ·refine CX.skip (XX.next (V' := [(0, _), (1, _)]) ⟨rfl, rfl, trivial⟩ ?_)
   refine CX.seq ?_
   refine CX.seq ?_
   refine CX.region ?_
   refine RX.cons rfl rfl (op_w (yw_move rfl rfl) rfl rfl ?_)
   refine RX.cons rfl rfl (op_w (yw_lenS rfl Tryz.underlying26 rfl) rfl rfl ?_)
   refine RX.cons rfl rfl (op_w (yw_eql rfl rfl rfl) rfl rfl ?_)
   refine RX.nil (XX.next (V' := [(0, _), (1, _), (21, _)]) ⟨rfl, rfl, rfl, trivial⟩ ?_)
   refine CX.condD (p := ((xs.length : Nat) : Int) = 1) rfl (fun c21 => ?_) (fun c21 => ?_)
   ·refine CX.seq ?_
    refine CX.region ?_
    refine RX.cons rfl rfl (op_w (yw_assign rfl rfl) rfl rfl ?_)
    refine RX.cons rfl rfl (op_w (yw_assign rfl rfl) rfl rfl ?_)
    refine RX.nil (XX.next (V' := [(4, .slice none 0 0), (5, .int .i64 0)]) ⟨rfl, rfl, trivial⟩ ?_)
    refine CX.ret ?_
    refine XX.then_ret ?_
    exact ret_tmp2 rfl rfl rfl fun w1 hw => ⟨(none, 0), trivial, by rw [path_one sum (by omega)]; rfl, by rw [path_one sum (by omega)]; exact (hw.sub (List.nil_sublist _)).rowNil 9 1⟩
   ·refine CX.skip (XX.next (V' := [(0, _), (1, _)]) ⟨rfl, rfl, trivial⟩ ?_)
    refine CX.seq ?_
    have hq1 := lft_pos xs.length
    have hq2 := lft_lt (n := xs.length) (by omega)
    have htl : (List.take (lft xs.length) xs).length = lft xs.length := by simp; omega
    have hdl : (List.drop (lft xs.length) xs).length = xs.length - lft xs.length := by simp
    obtain ⟨b0, q0, hA'⟩ := hr.some (k := 0) (by simp; omega)
    refine CX.region ?_
    refine RX.cons rfl rfl (op_w (yw_move rfl rfl) rfl rfl ?_)
    refine RX.cons rfl rfl (op_w (yw_lenS rfl Tryz.underlying26 rfl) rfl rfl ?_)
    refine RX.cons rfl rfl (op_callV (v := .int .i64 ((lft xs.length : Nat) : Int)) rfl rfl rfl rfl rfl ent_62 (fun w hw => w_left02 xs.length (by omega) (by omega)) ?_)
    refine RX.cons rfl rfl (op_w (yw_assign rfl rfl) rfl rfl ?_)
    refine RX.nil (XX.next (V' := [(0, _), (1, _), (6, _)]) ⟨rfl, rfl, rfl, trivial⟩ ?_)
    refine CX.seq ?_
    refine CX.seq ?_
    refine CX.region ?_
    refine RX.cons rfl rfl (op_w (yw_move rfl rfl) rfl rfl ?_)
    refine RX.cons rfl rfl (op_w (yw_move rfl rfl) rfl rfl ?_)
    refine RX.cons rfl rfl (op_w (yw_lss rfl rfl rfl) rfl rfl ?_)
    refine RX.nil (XX.next (V' := [(0, _), (1, _), (6, _), (27, _)]) ⟨rfl, rfl, rfl, rfl, trivial⟩ ?_)
    refine CX.condD (p := ((i : Nat) : Int) < ((lft xs.length : Nat) : Int)) rfl (fun c27 => ?_) (fun c27 => ?_)
    ·refine CX.seq ?_
     refine CX.region ?_
     refine RX.cons rfl rfl (op_w (yw_move rfl rfl) rfl rfl ?_)
     refine RX.cons rfl rfl (op_w (yw_move rfl rfl) rfl rfl ?_)
     refine RX.cons rfl rfl (op_w (yw_sliceTo (k := (lft xs.length)) rfl slt_26 rfl rfl (by omega) (by omega)) rfl rfl ?_)
     refine RX.know (t := 31) (u := .slice A ((List.take (lft xs.length) xs).length) cap) rfl (congrArg (fun n => Value.slice A n cap) htl.symm) ?_
     refine RX.cons rfl rfl (op_w (yw_move rfl rfl) rfl rfl ?_)
     refine RX.cons rfl rfl (op_callE rfl rfl rfl rfl rfl ent_34 (fun w hw => ih (List.take (lft xs.length) xs) i w _ _ (by rw [htl]; exact hq2) (hw.rd (hr.takeM (lft xs.length)) (by simp)) (by omega) (by omega) (fun s hs => hsz s (List.mem_of_mem_take hs)) (by rw [htl]; omega)) (fun zh _ => ?_))
     refine RX.cons rfl rfl (op_w (yw_move rfl rfl) rfl rfl ?_)
     refine RX.cons rfl rfl (op_w (yw_extract rfl rfl rfl) rfl rfl ?_)
     refine RX.cons rfl rfl (op_w (yw_extract rfl rfl rfl) rfl rfl ?_)
     refine RX.cons rfl rfl (op_w (yw_assign rfl rfl) rfl rfl ?_)
     refine RX.cons rfl rfl (op_w (yw_assign rfl rfl) rfl rfl ?_)
     refine RX.nil (XX.next (V' := [(0, _), (6, _), (7, _)]) ⟨rfl, rfl, rfl, trivial⟩ ?_)
     refine CX.seq ?_
     refine CX.region ?_
     refine RX.cons rfl rfl (op_w (yw_move rfl rfl) rfl rfl ?_)
     refine RX.cons rfl rfl (op_w (yw_move rfl rfl) rfl rfl ?_)
     refine RX.cons rfl rfl (op_w (yw_move rfl rfl) rfl rfl ?_)
     refine RX.cons rfl rfl (op_w (yw_sliceFromS (k := (lft xs.length)) hA' rfl slt_26 rfl rfl (by omega) (by omega) (by omega) (by omega)) rfl rfl ?_)
     refine RX.know (t := 39) (u := .slice (some ⟨b0, q0 + (lft xs.length) * 1, none⟩) ((List.drop (lft xs.length) xs).length) (cap - (lft xs.length))) rfl (congrArg (fun n => Value.slice (some ⟨b0, q0 + (lft xs.length) * 1, none⟩) n (cap - (lft xs.length))) hdl.symm) ?_
     refine RX.cons rfl rfl (op_callV (v := .string (root sum (List.drop (lft xs.length) xs))) rfl rfl rfl rfl rfl ent_29 (fun w hw => w_root02 (List.drop (lft xs.length) xs) (hw.rd (hr.dropM hA' (lft xs.length)) (by simp)) (by omega) (by omega) (fun s hs => hsz s (List.mem_of_mem_drop hs))) ?_)
     refine RX.cons rfl rfl (op_buildSlice rfl rfl rfl slb_26 rfl rfl (by intro v hv; simp only [List.mem_cons, List.not_mem_nil, or_false] at hv; subst hv; exact ⟨rfl, (plain_of rfl)⟩) (by decide) fun g9 => ?_)
     refine RX.cons rfl rfl (op_appendM strC (i := 1) (j := 0) (xs := (path sum (List.take (lft xs.length) xs) i).reverse) ([root sum (List.drop (lft xs.length) xs)]) rfl rfl rfl slb_26 rfl rfl rfl rfl rfl rfl (by have h8 := path_le (List.take (lft xs.length) xs) i; rw [htl] at h8; rw [List.length_singleton]; omega) (by have h8 := path_le (List.take (lft xs.length) xs) i; rw [htl] at h8; rw [List.length_singleton]; omega) fun A6 c6 => ?_)
     refine RX.cons rfl rfl (op_w (yw_assign rfl rfl) rfl rfl ?_)
     refine RX.cons rfl rfl (op_w (yw_assign rfl rfl) rfl rfl ?_)
     refine RX.nil (XX.next (V' := [(4, .slice A6 (((path sum (List.take (lft xs.length) xs) i).reverse ++ [root sum (List.drop (lft xs.length) xs)]).length) c6), (5, .int .i64 0)]) ⟨rfl, rfl, trivial⟩ ?_)
     refine CX.ret ?_
     refine XX.then_ret ?_
     exact ret_tmp2 rfl rfl rfl fun w1 hw => ⟨(A6, c6), trivial, by rw [path_lt sum (l := xs) (by omega) (by omega), List.reverse_cons], by rw [path_lt sum (l := xs) (by omega) (by omega), List.reverse_cons]; exact hw.pick ((perm_pick 1 rfl).trans (List.Perm.cons _ (List.Perm.refl _)))⟩
    ·refine CX.skip (XX.next (V' := [(0, _), (1, _), (6, _)]) ⟨rfl, rfl, rfl, trivial⟩ ?_)
     refine CX.seq ?_
     refine CX.region ?_
     refine RX.cons rfl rfl (op_w (yw_move rfl rfl) rfl rfl ?_)
     refine RX.cons rfl rfl (op_w (yw_move rfl rfl) rfl rfl ?_)
     refine RX.cons rfl rfl (op_w (yw_sliceFromS (k := (lft xs.length)) hA' rfl slt_26 rfl rfl (by omega) (by omega) (by omega) (by omega)) rfl rfl ?_)
     refine RX.know (t := 46) (u := .slice (some ⟨b0, q0 + (lft xs.length) * 1, none⟩) ((List.drop (lft xs.length) xs).length) (cap - (lft xs.length))) rfl (congrArg (fun n => Value.slice (some ⟨b0, q0 + (lft xs.length) * 1, none⟩) n (cap - (lft xs.length))) hdl.symm) ?_
     refine RX.cons rfl rfl (op_w (yw_move rfl rfl) rfl rfl ?_)
     refine RX.cons rfl rfl (op_w (yw_move rfl rfl) rfl rfl ?_)
     refine RX.cons rfl rfl (op_w (yw_sub rfl rfl rfl (by omega) (by omega)) rfl rfl ?_)
     refine RX.know (t := 49) (u := .int .i64 ((i - (lft xs.length) : Nat) : Int)) rfl (congrArg (Value.int .i64) (by omega)) ?_
     refine RX.cons rfl rfl (op_callE rfl rfl rfl rfl rfl ent_34 (fun w hw => ih (List.drop (lft xs.length) xs) (i - (lft xs.length)) w _ _ (by rw [hdl]; omega) (hw.rd (hr.dropM hA' (lft xs.length)) (by simp)) (by omega) (by omega) (fun s hs => hsz s (List.mem_of_mem_drop hs)) (by rw [hdl]; omega)) (fun zh _ => ?_))
     refine RX.cons rfl rfl (op_w (yw_move rfl rfl) rfl rfl ?_)
     refine RX.cons rfl rfl (op_w (yw_extract rfl rfl rfl) rfl rfl ?_)
     refine RX.cons rfl rfl (op_w (yw_extract rfl rfl rfl) rfl rfl ?_)
     refine RX.cons rfl rfl (op_w (yw_assign rfl rfl) rfl rfl ?_)
     refine RX.cons rfl rfl (op_w (yw_assign rfl rfl) rfl rfl ?_)
     refine RX.nil (XX.next (V' := [(0, _), (6, _), (9, _)]) ⟨rfl, rfl, rfl, trivial⟩ ?_)
     refine CX.seq ?_
     refine CX.region ?_
     refine RX.cons rfl rfl (op_w (yw_move rfl rfl) rfl rfl ?_)
     refine RX.cons rfl rfl (op_w (yw_move rfl rfl) rfl rfl ?_)
     refine RX.cons rfl rfl (op_w (yw_move rfl rfl) rfl rfl ?_)
     refine RX.cons rfl rfl (op_w (yw_sliceTo (k := (lft xs.length)) rfl slt_26 rfl rfl (by omega) (by omega)) rfl rfl ?_)
     refine RX.know (t := 56) (u := .slice A ((List.take (lft xs.length) xs).length) cap) rfl (congrArg (fun n => Value.slice A n cap) htl.symm) ?_
     refine RX.cons rfl rfl (op_callV (v := .string (root sum (List.take (lft xs.length) xs))) rfl rfl rfl rfl rfl ent_29 (fun w hw => w_root02 (List.take (lft xs.length) xs) (hw.rd (hr.takeM (lft xs.length)) (by simp)) (by omega) (by omega) (fun s hs => hsz s (List.mem_of_mem_take hs))) ?_)
     refine RX.cons rfl rfl (op_buildSlice rfl rfl rfl slb_26 rfl rfl (by intro v hv; simp only [List.mem_cons, List.not_mem_nil, or_false] at hv; subst hv; exact ⟨rfl, (plain_of rfl)⟩) (by decide) fun g9 => ?_)
     refine RX.cons rfl rfl (op_appendM strC (i := 1) (j := 0) (xs := (path sum (List.drop (lft xs.length) xs) (i - (lft xs.length))).reverse) ([root sum (List.take (lft xs.length) xs)]) rfl rfl rfl slb_26 rfl rfl rfl rfl rfl rfl (by have h8 := path_le (List.drop (lft xs.length) xs) (i - (lft xs.length)); rw [hdl] at h8; rw [List.length_singleton]; omega) (by have h8 := path_le (List.drop (lft xs.length) xs) (i - (lft xs.length)); rw [hdl] at h8; rw [List.length_singleton]; omega) fun A6 c6 => ?_)
     refine RX.cons rfl rfl (op_w (yw_assign rfl rfl) rfl rfl ?_)
     refine RX.cons rfl rfl (op_w (yw_assign rfl rfl) rfl rfl ?_)
     refine RX.nil (XX.next (V' := [(4, .slice A6 (((path sum (List.drop (lft xs.length) xs) (i - (lft xs.length))).reverse ++ [root sum (List.take (lft xs.length) xs)]).length) c6), (5, .int .i64 0)]) ⟨rfl, rfl, trivial⟩ ?_)
     refine CX.ret ?_
     exact ret_tmp2 rfl rfl rfl fun w1 hw => ⟨(A6, c6), trivial, by rw [path_ge sum (l := xs) (by omega) (by omega), List.reverse_cons], by rw [path_ge sum (l := xs) (by omega) (by omega), List.reverse_cons]; exact hw.pick ((perm_pick 1 rfl).trans (List.Perm.cons _ (List.Perm.refl _)))⟩

theorem w_proof02 {w : World} {A : Option Addr} {cap : Nat} (xs : List ByteArray) (hr : Rd w A 1 (xs.map strC)) (hcap : xs.length ≤ cap) (hl : xs.length ≤ 1000000) (hsz : ∀ s ∈ xs, s.size ≤ 4294967296) (i : Nat) (hi : i < xs.length) : Calls Tryz.prog 34 #[.slice A xs.length cap, .int .i64 ((i : Nat) : Int)] w (fun e w' => ∃ z : Option Addr × Nat, True ∧ e = .returned (.tuple #[.slice z.1 (List.length ((path sum xs i).reverse)) z.2, .int .i64 0]) ∧ SL w [] w' [.row z.1 z.2 9 1 (List.map strC ((path sum xs i).reverse))]) := by
  have H : ∀ (N : Nat) (xs : List ByteArray) (i : Nat) (w : World) (A : Option Addr) (cap : Nat), xs.length ≤ N → Rd w A 1 (xs.map strC) → xs.length ≤ cap → xs.length ≤ 1000000 → (∀ s ∈ xs, s.size ≤ 4294967296) → i < xs.length → Calls Tryz.prog 34 #[.slice A xs.length cap, .int .i64 ((i : Nat) : Int)] w (fun e w' => ∃ z : Option Addr × Nat, True ∧ e = .returned (.tuple #[.slice z.1 (List.length ((path sum xs i).reverse)) z.2, .int .i64 0]) ∧ SL w [] w' [.row z.1 z.2 9 1 (List.map strC ((path sum xs i).reverse))]) := by
    intro N
    induction N with
    | zero => exact fun xs i w A cap hN hr hcap hl hsz hi => w_proof02s xs hr hcap hl hsz i hi (fun ys i w A cap h => by omega)
    | succ N ih => exact fun xs i w A cap hN hr hcap hl hsz hi => w_proof02s xs hr hcap hl hsz i hi (fun ys i w A cap h => ih ys i w A cap (by omega))
  exact H xs.length xs i w A cap (Nat.le_refl _) hr hcap hl hsz hi
set_option maxRecDepth 100000 in
theorem w_part02s {w : World} {A : Option Addr} {cap : Nat} (xs : List ByteArray) (hr : Rd w A 1 (xs.map strC)) (hcap : xs.length ≤ cap) (hl : xs.length ≤ 1000000) (hsz : ∀ s ∈ xs, s.size ≤ 4294967296) (m : Nat) (b : Bool) (hm1 : 1 ≤ m) (hm : m ≤ xs.length) (ih : ∀ (ys : List ByteArray) (m : Nat) (b : Bool) (w : World) (A : Option Addr) (cap : Nat), ys.length < xs.length → Rd w A 1 (ys.map strC) → ys.length ≤ cap → ys.length ≤ 1000000 → (∀ s ∈ ys, s.size ≤ 4294967296) → 1 ≤ m → m ≤ ys.length → Calls Tryz.prog 66 #[.slice A ys.length cap, .int .i64 ((m : Nat) : Int), .bool b] w (fun e w' => ∃ z : Option Addr × Nat, True ∧ e = .returned (.slice z.1 (List.length (ext sum ys m b).reverse) z.2) ∧ SL w [] w' [.row z.1 z.2 9 1 (List.map strC ((ext sum ys m b).reverse))])) :
    Calls Tryz.prog 66 #[.slice A xs.length cap, .int .i64 ((m : Nat) : Int), .bool b] w (fun e w' => ∃ z : Option Addr × Nat, True ∧ e = .returned (.slice z.1 (List.length (ext sum xs m b).reverse) z.2) ∧ SL w [] w' [.row z.1 z.2 9 1 (List.map strC ((ext sum xs m b).reverse))]) := by
 refine calls_of_CX (O := []) (L := []) (args := [.slice A xs.length cap, .int .i64 ((m : Nat) : Int), .bool b]) Tryz.func66 rfl (by simp [Tryz.ntmps66]) (SL.refl w) ?_
 refine CX.sub (V' := [(0, .slice A xs.length cap), (1, .int .i64 ((m : Nat) : Int)), (2, .bool b)]) ⟨rfl, rfl, rfl, trivial⟩ ?_
 refine CX.seq ?_
 refine CX.region ?_
 refine RX.cons rfl rfl (op_w (yw_assign rfl rfl) rfl rfl ?_)
 refine RX.nil (XX.next (V' := [(0, _), (1, _), (2, _)]) ⟨rfl, rfl, rfl, trivial⟩ ?_)
 refine CX.seq ?_
 refine CX.seq ?_
 refine CX.region ?_
 refine RX.cons rfl rfl (op_w (yw_move rfl rfl) rfl rfl ?_)
 refine RX.cons rfl rfl (op_w (yw_move rfl rfl) rfl rfl ?_)
 refine RX.cons rfl rfl (op_w (yw_lenS rfl Tryz.underlying26 rfl) rfl rfl ?_)
 refine RX.cons rfl rfl (op_w (yw_eql rfl rfl rfl) rfl rfl ?_)
 refine RX.nil (XX.next (V' := [(0, _), (1, _), (2, _), (11, _)]) ⟨rfl, rfl, rfl, rfl, trivial⟩ ?_)
 refine CX.condD (p := ((m : Nat) : Int) = ((xs.length : Nat) : Int)) rfl (fun c11 => ?_) (fun c11 => ?_)
 ·refine CX.seq ?_
  refine CX.seq ?_
  refine CX.region ?_
  refine RX.cons rfl rfl (op_w (yw_move rfl rfl) rfl rfl ?_)
  refine RX.nil (XX.next (V' := [(0, _), (12, _)]) ⟨rfl, rfl, trivial⟩ ?_)
  refine CX.cond (b := b) rfl (fun c12 => ?_) (fun c12 => ?_)
  ·refine CX.seq ?_
   refine CX.region ?_
   refine RX.cons rfl rfl (op_w (yw_assign rfl rfl) rfl rfl ?_)
   refine RX.nil (XX.next (V' := [(6, .slice none 0 0)]) ⟨rfl, trivial⟩ ?_)
   refine CX.ret ?_
   refine XX.then_ret ?_
   refine XX.then_ret ?_
   exact ret_tmp rfl rfl fun w1 hw => ⟨(none, 0), trivial, by rw [ext_done sum (by omega) (by omega), c12]; rfl, by rw [ext_done sum (by omega) (by omega), c12]; exact (hw.sub (List.nil_sublist _)).rowNil 9 1⟩
  ·refine CX.skip (XX.next (V' := [(0, _)]) ⟨rfl, trivial⟩ ?_)
   refine CX.seq ?_
   refine CX.region ?_
   refine RX.cons rfl rfl (op_w (yw_move rfl rfl) rfl rfl ?_)
   refine RX.cons rfl rfl (op_callV (v := .string (root sum xs)) rfl rfl rfl rfl rfl ent_29 (fun w hw => w_root02 xs (hw.rd hr (by simp)) hcap hl hsz) ?_)
   refine RX.cons rfl rfl (op_buildSlice rfl rfl rfl slb_26 rfl rfl (by intro v hv; simp only [List.mem_cons, List.not_mem_nil, or_false] at hv; subst hv; exact ⟨rfl, (plain_of rfl)⟩) (by decide) fun g4 => ?_)
   refine RX.cons rfl rfl (op_w (yw_assign rfl rfl) rfl rfl ?_)
   refine RX.nil (XX.next (V' := [(6, .slice (some ⟨g4, 0, none⟩) 1 1)]) ⟨rfl, trivial⟩ ?_)
   refine CX.ret ?_
   refine XX.then_ret ?_
   exact ret_tmp rfl rfl fun w1 hw => ⟨(some ⟨g4, 0, none⟩, 1), trivial, by rw [ext_done sum (by omega) (by omega), c12]; rfl, by rw [ext_done sum (by omega) (by omega), c12]; exact hw⟩
 ·refine CX.skip (XX.next (V' := [(0, _), (1, _), (2, _)]) ⟨rfl, rfl, rfl, trivial⟩ ?_)
  refine CX.seq ?_
  have hq1 := lft_pos xs.length
  have hq2 := lft_lt (n := xs.length) (by omega)
  have htl : (List.take (lft xs.length) xs).length = lft xs.length := by simp; omega
  have hdl : (List.drop (lft xs.length) xs).length = xs.length - lft xs.length := by simp
  obtain ⟨b0, q0, hA'⟩ := hr.some (k := 0) (by simp; omega)
  refine CX.region ?_
  refine RX.cons rfl rfl (op_w (yw_move rfl rfl) rfl rfl ?_)
  refine RX.cons rfl rfl (op_w (yw_lenS rfl Tryz.underlying26 rfl) rfl rfl ?_)
  refine RX.cons rfl rfl (op_callV (v := .int .i64 ((lft xs.length : Nat) : Int)) rfl rfl rfl rfl rfl ent_62 (fun w hw => w_left02 xs.length (by omega) (by omega)) ?_)
  refine RX.cons rfl rfl (op_w (yw_assign rfl rfl) rfl rfl ?_)
  refine RX.nil (XX.next (V' := [(0, _), (1, _), (2, _), (7, _)]) ⟨rfl, rfl, rfl, rfl, trivial⟩ ?_)
  refine CX.seq ?_
  refine CX.seq ?_
  refine CX.region ?_
  refine RX.cons rfl rfl (op_w (yw_move rfl rfl) rfl rfl ?_)
  refine RX.cons rfl rfl (op_w (yw_move rfl rfl) rfl rfl ?_)
  refine RX.cons rfl rfl (op_w (yw_leq rfl rfl rfl) rfl rfl ?_)
  refine RX.nil (XX.next (V' := [(0, _), (1, _), (2, _), (7, _), (21, _)]) ⟨rfl, rfl, rfl, rfl, rfl, trivial⟩ ?_)
  refine CX.condD (p := ((m : Nat) : Int) ≤ ((lft xs.length : Nat) : Int)) rfl (fun c21 => ?_) (fun c21 => ?_)
  ·refine CX.seq ?_
   refine CX.draw 11 [(0, 1, 4194304), (0, 128, 8388608), (3, 12582912, 16777216), (0, 2, 33554432), (0, 4, 67108864), (28, 117440512, 134217728), (0, 1, 268435456), (0, 128, 536870912), (192, 805306368, 1073741824), (288, 1073741824, 2147483648), (512, 2147483648, 4294967296), (1568, 4429185024, 8589934592), (4095, 8589934592, 64)] (by kernel_rfl) (by kernel_rfl) (by kernel_rfl) ?_
   refine DX.takeW 0 1 (by kernel_rfl) rfl rfl rfl rfl rfl (yw_move rfl rfl) ?_
   refine DX.takeW 1 3 (by kernel_rfl) rfl rfl rfl rfl rfl (yw_move rfl rfl) ?_
   refine DX.takeW 2 7 (by kernel_rfl) rfl rfl rfl rfl rfl (yw_sliceTo (k := (lft xs.length)) rfl slt_26 rfl rfl (by omega) (by omega)) ?_
   refine DX.know (t := 24) (u := .slice A ((List.take (lft xs.length) xs).length) cap) rfl (congrArg (fun n => Value.slice A n cap) htl.symm) ?_
   refine DX.takeW 3 15 (by kernel_rfl) rfl rfl rfl rfl rfl (yw_move rfl rfl) ?_
   refine DX.takeW 4 31 (by kernel_rfl) rfl rfl rfl rfl rfl (yw_move rfl rfl) ?_
   refine DX.takeW 6 95 (by kernel_rfl) rfl rfl rfl rfl rfl (yw_move rfl rfl) ?_
   refine DX.takeW 7 223 (by kernel_rfl) rfl rfl rfl rfl rfl (yw_move rfl rfl) ?_
   refine DX.takeW 8 479 (by kernel_rfl) rfl rfl rfl rfl rfl (yw_sliceFromS (k := (lft xs.length)) hA' rfl slt_26 rfl rfl (by omega) (by omega) (by omega) (by omega)) ?_
   refine DX.know (t := 30) (u := .slice (some ⟨b0, q0 + (lft xs.length) * 1, none⟩) ((List.drop (lft xs.length) xs).length) (cap - (lft xs.length))) rfl (congrArg (fun n => Value.slice (some ⟨b0, q0 + (lft xs.length) * 1, none⟩) n (cap - (lft xs.length))) hdl.symm) ?_
   refine DX.step 5 511 (by kernel_rfl) rfl rfl rfl (op_callE rfl rfl rfl rfl rfl ent_66 (fun w hw => ih (List.take (lft xs.length) xs) m b w _ _ (by rw [htl]; exact hq2) (hw.rd (hr.takeM (lft xs.length)) (by simp)) (by omega) (by omega) (fun s hs => hsz s (List.mem_of_mem_take hs)) (by omega) (by rw [htl]; omega)) (fun zh _ => (DXs.mk (List.nil_sublist _) ?_)))
   refine DX.step 9 1023 (by kernel_rfl) rfl rfl rfl (op_callV (v := .string (root sum (List.drop (lft xs.length) xs))) rfl rfl rfl rfl rfl ent_29 (fun w hw => w_root02 (List.drop (lft xs.length) xs) (hw.rd (hr.dropM hA' (lft xs.length)) (by simp)) (by omega) (by omega) (fun s hs => hsz s (List.mem_of_mem_drop hs))) (DXs.mk (List.nil_sublist _) ?_))
   refine DX.step 10 2047 (by kernel_rfl) rfl rfl rfl (op_buildSlice rfl rfl rfl slb_26 rfl rfl (by intro v hv; simp only [List.mem_cons, List.not_mem_nil, or_false] at hv; subst hv; exact ⟨rfl, (plain_of rfl)⟩) (by decide) fun g9 => (DXs.mk (List.nil_sublist _) ?_))
   refine DX.stepT 11 4095 (by kernel_rfl) rfl rfl rfl rfl (op_appendM strC (i := 1) (j := 0) (xs := (ext sum (List.take (lft xs.length) xs) m b).reverse) ([root sum (List.drop (lft xs.length) xs)]) rfl rfl rfl slb_26 rfl rfl rfl rfl rfl rfl (by have h8 := ext_len (List.take (lft xs.length) xs) m b; rw [htl] at h8; rw [List.length_singleton]; omega) (by have h8 := ext_len (List.take (lft xs.length) xs) m b; rw [htl] at h8; rw [List.length_singleton]; omega) fun A6 c6 => ?_)
   refine DX.takeW 12 8191 (by kernel_rfl) rfl rfl rfl rfl rfl (yw_assign rfl rfl) ?_
   refine DX.done (by kernel_rfl) (XX.next (V' := [(6, .slice A6 (((ext sum (List.take (lft xs.length) xs) m b).reverse ++ [root sum (List.drop (lft xs.length) xs)]).length) c6)]) ⟨rfl, trivial⟩ ?_)
   refine CX.ret ?_
   refine XX.then_ret ?_
   exact ret_tmp rfl rfl fun w1 hw => ⟨(A6, c6), trivial, by rw [ext_le sum (l := xs) (by omega) (by omega) (by omega), List.reverse_cons], by rw [ext_le sum (l := xs) (by omega) (by omega) (by omega), List.reverse_cons]; exact hw.pick ((perm_pick 1 rfl).trans (List.Perm.cons _ (List.Perm.refl _)))⟩
  ·refine CX.skip (XX.next (V' := [(0, _), (1, _), (7, _)]) ⟨rfl, rfl, rfl, trivial⟩ ?_)
   refine CX.seq ?_
   refine CX.draw 12 [(0, 1, 17179869184), (0, 128, 34359738368), (3, 51539607552, 68719476736), (0, 2, 137438953472), (0, 128, 274877906944), (24, 412316860416, 549755813888), (36, 618475290624, 1099511627776), (0, 1, 2199023255552), (0, 128, 4398046511104), (384, 6597069766656, 8796093022208), (576, 8796093022208, 17592186044416), (1024, 17592186044416, 35184372088832), (3136, 36283883716608, 70368744177664), (8191, 70368744177664, 64)] (by kernel_rfl) (by kernel_rfl) (by kernel_rfl) ?_
   refine DX.takeW 0 1 (by kernel_rfl) rfl rfl rfl rfl rfl (yw_move rfl rfl) ?_
   refine DX.takeW 1 3 (by kernel_rfl) rfl rfl rfl rfl rfl (yw_move rfl rfl) ?_
   refine DX.takeW 2 7 (by kernel_rfl) rfl rfl rfl rfl rfl (yw_sliceFromS (k := (lft xs.length)) hA' rfl slt_26 rfl rfl (by omega) (by omega) (by omega) (by omega)) ?_
   refine DX.know (t := 36) (u := .slice (some ⟨b0, q0 + (lft xs.length) * 1, none⟩) ((List.drop (lft xs.length) xs).length) (cap - (lft xs.length))) rfl (congrArg (fun n => Value.slice (some ⟨b0, q0 + (lft xs.length) * 1, none⟩) n (cap - (lft xs.length))) hdl.symm) ?_
   refine DX.takeW 3 15 (by kernel_rfl) rfl rfl rfl rfl rfl (yw_move rfl rfl) ?_
   refine DX.takeW 4 31 (by kernel_rfl) rfl rfl rfl rfl rfl (yw_move rfl rfl) ?_
   refine DX.takeW 5 63 (by kernel_rfl) rfl rfl rfl rfl rfl (yw_sub rfl rfl rfl (by omega) (by omega)) ?_
   refine DX.know (t := 39) (u := .int .i64 ((m - (lft xs.length) : Nat) : Int)) rfl (congrArg (Value.int .i64) (by omega)) ?_
   refine DX.takeW 7 191 (by kernel_rfl) rfl rfl rfl rfl rfl (yw_move rfl rfl) ?_
   refine DX.takeW 8 447 (by kernel_rfl) rfl rfl rfl rfl rfl (yw_move rfl rfl) ?_
   refine DX.takeW 9 959 (by kernel_rfl) rfl rfl rfl rfl rfl (yw_sliceTo (k := (lft xs.length)) rfl slt_26 rfl rfl (by omega) (by omega)) ?_
   refine DX.know (t := 43) (u := .slice A ((List.take (lft xs.length) xs).length) cap) rfl (congrArg (fun n => Value.slice A n cap) htl.symm) ?_
   refine DX.step 6 1023 (by kernel_rfl) rfl rfl rfl (op_callE rfl rfl rfl rfl rfl ent_66 (fun w hw => ih (List.drop (lft xs.length) xs) (m - (lft xs.length)) false w _ _ (by rw [hdl]; omega) (hw.rd (hr.dropM hA' (lft xs.length)) (by simp)) (by omega) (by omega) (fun s hs => hsz s (List.mem_of_mem_drop hs)) (by omega) (by rw [hdl]; omega)) (fun zh _ => (DXs.mk (List.nil_sublist _) ?_)))
   refine DX.step 10 2047 (by kernel_rfl) rfl rfl rfl (op_callV (v := .string (root sum (List.take (lft xs.length) xs))) rfl rfl rfl rfl rfl ent_29 (fun w hw => w_root02 (List.take (lft xs.length) xs) (hw.rd (hr.takeM (lft xs.length)) (by simp)) (by omega) (by omega) (fun s hs => hsz s (List.mem_of_mem_take hs))) (DXs.mk (List.nil_sublist _) ?_))
   refine DX.step 11 4095 (by kernel_rfl) rfl rfl rfl (op_buildSlice rfl rfl rfl slb_26 rfl rfl (by intro v hv; simp only [List.mem_cons, List.not_mem_nil, or_false] at hv; subst hv; exact ⟨rfl, (plain_of rfl)⟩) (by decide) fun g9 => (DXs.mk (List.nil_sublist _) ?_))
   refine DX.stepT 12 8191 (by kernel_rfl) rfl rfl rfl rfl (op_appendM strC (i := 1) (j := 0) (xs := (ext sum (List.drop (lft xs.length) xs) (m - (lft xs.length)) false).reverse) ([root sum (List.take (lft xs.length) xs)]) rfl rfl rfl slb_26 rfl rfl rfl rfl rfl rfl (by have h8 := ext_len (List.drop (lft xs.length) xs) (m - (lft xs.length)) false; rw [hdl] at h8; rw [List.length_singleton]; omega) (by have h8 := ext_len (List.drop (lft xs.length) xs) (m - (lft xs.length)) false; rw [hdl] at h8; rw [List.length_singleton]; omega) fun A6 c6 => ?_)
   refine DX.takeW 13 16383 (by kernel_rfl) rfl rfl rfl rfl rfl (yw_assign rfl rfl) ?_
   refine DX.done (by kernel_rfl) (XX.next (V' := [(6, .slice A6 (((ext sum (List.drop (lft xs.length) xs) (m - (lft xs.length)) false).reverse ++ [root sum (List.take (lft xs.length) xs)]).length) c6)]) ⟨rfl, trivial⟩ ?_)
   refine CX.ret ?_
   exact ret_tmp rfl rfl fun w1 hw => ⟨(A6, c6), trivial, by rw [ext_gt sum (l := xs) (by omega) (by omega) (by omega), List.reverse_cons], by rw [ext_gt sum (l := xs) (by omega) (by omega) (by omega), List.reverse_cons]; exact hw.pick ((perm_pick 1 rfl).trans (List.Perm.cons _ (List.Perm.refl _)))⟩

theorem w_part02 {w : World} {A : Option Addr} {cap : Nat} (xs : List ByteArray) (hr : Rd w A 1 (xs.map strC)) (hcap : xs.length ≤ cap) (hl : xs.length ≤ 1000000) (hsz : ∀ s ∈ xs, s.size ≤ 4294967296) (m : Nat) (b : Bool) (hm1 : 1 ≤ m) (hm : m ≤ xs.length) : Calls Tryz.prog 66 #[.slice A xs.length cap, .int .i64 ((m : Nat) : Int), .bool b] w (fun e w' => ∃ z : Option Addr × Nat, True ∧ e = .returned (.slice z.1 (List.length (ext sum xs m b).reverse) z.2) ∧ SL w [] w' [.row z.1 z.2 9 1 (List.map strC ((ext sum xs m b).reverse))]) := by
  have H : ∀ (N : Nat) (xs : List ByteArray) (m : Nat) (b : Bool) (w : World) (A : Option Addr) (cap : Nat), xs.length ≤ N → Rd w A 1 (xs.map strC) → xs.length ≤ cap → xs.length ≤ 1000000 → (∀ s ∈ xs, s.size ≤ 4294967296) → 1 ≤ m → m ≤ xs.length → Calls Tryz.prog 66 #[.slice A xs.length cap, .int .i64 ((m : Nat) : Int), .bool b] w (fun e w' => ∃ z : Option Addr × Nat, True ∧ e = .returned (.slice z.1 (List.length (ext sum xs m b).reverse) z.2) ∧ SL w [] w' [.row z.1 z.2 9 1 (List.map strC ((ext sum xs m b).reverse))]) := by
    intro N
    induction N with
    | zero => exact fun xs m b w A cap hN hr hcap hl hsz hm1 hm => w_part02s xs hr hcap hl hsz m b hm1 hm (fun ys m b w A cap h => by omega)
    | succ N ih => exact fun xs m b w A cap hN hr hcap hl hsz hm1 hm => w_part02s xs hr hcap hl hsz m b hm1 hm (fun ys m b w A cap h => ih ys m b w A cap (by omega))
  exact H xs.length xs m b w A cap (Nat.le_refl _) hr hcap hl hsz hm1 hm
/-- What Extension answers. -/
def extL (xs : List ByteArray) (m : Nat) : List ByteArray := if m = 0 then [] else (ext sum xs m true).reverse
set_option maxRecDepth 100000 in
theorem w_ext02 {w : World} {A : Option Addr} {cap : Nat} (xs : List ByteArray) (hr : Rd w A 1 (xs.map strC)) (hcap : xs.length ≤ cap) (hl : xs.length ≤ 1000000) (hsz : ∀ s ∈ xs, s.size ≤ 4294967296) (m : Nat) (hm : m ≤ xs.length) :
    Calls Tryz.prog 37 #[.slice A xs.length cap, .int .i64 ((m : Nat) : Int)] w (fun e w' => ∃ z : Option Addr × Nat, True ∧ e = .returned (.tuple #[.slice z.1 (List.length (extL xs m)) z.2, .int .i64 0]) ∧ SL w [] w' [.row z.1 z.2 9 1 (List.map strC (extL xs m))]) := by
 refine calls_of_CX (O := []) (L := []) (args := [.slice A xs.length cap, .int .i64 ((m : Nat) : Int)]) Tryz.func37 rfl (by simp [Tryz.ntmps37]) (SL.refl w) ?_
 refine CX.sub (V' := [(0, .slice A xs.length cap), (1, .int .i64 ((m : Nat) : Int))]) ⟨rfl, rfl, trivial⟩ ?_
 refine CX.seq ?_
 refine CX.region ?_
 refine RX.cons rfl rfl (op_w (yw_assign rfl rfl) rfl rfl ?_)
 refine RX.cons rfl rfl (op_w (yw_assign rfl rfl) rfl rfl ?_)
 refine RX.nil (XX.next (V' := [(0, _), (1, _)]) ⟨rfl, rfl, trivial⟩ ?_)
 refine CX.seq ?_
 refine CX.seq ?_
 refine CX.region ?_
 refine RX.cons rfl rfl (op_w (yw_move rfl rfl) rfl rfl ?_)
 refine RX.cons rfl rfl (op_w (yw_lss rfl rfl rfl) rfl rfl ?_)
 refine RX.cons rfl rfl (op_w (yw_move rfl rfl) rfl rfl ?_)
 refine RX.splitD (t := 8) (p := ((m : Nat) : Int) < 0) rfl (fun d8 => ?_) (fun d8 => ?_)
 ·exfalso; omega
 ·refine RX.consG rfl rfl rfl rfl rfl (op_w (yw_move rfl rfl) rfl rfl ?_)
  refine RX.consG rfl rfl rfl rfl rfl (op_w (yw_move rfl rfl) rfl rfl ?_)
  refine RX.consG rfl rfl rfl rfl rfl (op_w (yw_lenS rfl Tryz.underlying26 rfl) rfl rfl ?_)
  refine RX.consG rfl rfl rfl rfl rfl (op_w (yw_gtr rfl rfl rfl) rfl rfl ?_)
  refine RX.cons rfl rfl (op_w (yw_pickF rfl rfl rfl) rfl rfl ?_)
  refine RX.nil (XX.next (V' := [(0, _), (1, _), (13, _)]) ⟨rfl, rfl, rfl, trivial⟩ ?_)
  refine CX.condD (p := ((xs.length : Nat) : Int) < ((m : Nat) : Int)) rfl (fun c13 => ?_) (fun c13 => ?_)
  ·exfalso; omega
  ·refine CX.skip (XX.next (V' := [(0, _), (1, _)]) ⟨rfl, rfl, trivial⟩ ?_)
   refine CX.seq ?_
   refine CX.seq ?_
   refine CX.region ?_
   refine RX.cons rfl rfl (op_w (yw_move rfl rfl) rfl rfl ?_)
   refine RX.cons rfl rfl (op_w (yw_eql rfl rfl rfl) rfl rfl ?_)
   refine RX.nil (XX.next (V' := [(0, _), (1, _), (15, _)]) ⟨rfl, rfl, rfl, trivial⟩ ?_)
   refine CX.condD (p := ((m : Nat) : Int) = 0) rfl (fun c15 => ?_) (fun c15 => ?_)
   ·refine CX.seq ?_
    refine CX.region ?_
    refine RX.cons rfl rfl (op_w (yw_assign rfl rfl) rfl rfl ?_)
    refine RX.cons rfl rfl (op_w (yw_assign rfl rfl) rfl rfl ?_)
    refine RX.nil (XX.next (V' := [(4, .slice none 0 0), (5, .int .i64 0)]) ⟨rfl, rfl, trivial⟩ ?_)
    refine CX.ret ?_
    refine XX.then_ret ?_
    exact ret_tmp2 rfl rfl rfl fun w1 hw => ⟨(none, 0), trivial, by rw [extL, if_pos (by omega)]; rfl, by rw [extL, if_pos (by omega)]; exact (hw.sub (List.nil_sublist _)).rowNil 9 1⟩
   ·refine CX.skip (XX.next (V' := [(0, _), (1, _)]) ⟨rfl, rfl, trivial⟩ ?_)
    refine CX.seq ?_
    refine CX.region ?_
    refine RX.cons rfl rfl (op_w (yw_move rfl rfl) rfl rfl ?_)
    refine RX.cons rfl rfl (op_w (yw_move rfl rfl) rfl rfl ?_)
    refine RX.cons rfl rfl (op_callE rfl rfl rfl rfl rfl ent_66 (fun w hw => w_part02 xs (hw.rd hr (by simp)) hcap hl hsz m true (by omega) (by omega)) (fun zh _ => ?_))
    refine RX.cons rfl rfl (op_w (yw_assign rfl rfl) rfl rfl ?_)
    refine RX.cons rfl rfl (op_w (yw_assign rfl rfl) rfl rfl ?_)
    refine RX.nil (XX.next (V' := [(4, .slice zh.1 (List.length ((ext sum xs m true).reverse : List ByteArray)) zh.2), (5, .int .i64 0)]) ⟨rfl, rfl, trivial⟩ ?_)
    refine CX.ret ?_
    exact ret_tmp2 rfl rfl rfl fun w1 hw => ⟨zh, trivial, by rw [extL, if_neg (by omega)], by rw [extL, if_neg (by omega)]; exact hw.pick ((perm_pick 0 rfl).trans (List.Perm.cons _ (List.Perm.refl _)))⟩

set_option maxRecDepth 100000 in
theorem w_extBad02 {w : World} {A : Option Addr} {cap : Nat} (n : Nat) (m : Int) (hm : m < 0 ∨ (n : Int) < m) :
    Calls Tryz.prog 37 #[.slice A n cap, .int .i64 m] w (fun e w' => e = .returned (.tuple #[.slice none 0 0, .int .i64 2]) ∧ SL w [] w' []) := by
 refine calls_of_CX (O := []) (L := []) (args := [.slice A n cap, .int .i64 m]) Tryz.func37 rfl (by simp [Tryz.ntmps37]) (SL.refl w) ?_
 refine CX.sub (V' := [(0, .slice A n cap), (1, .int .i64 m)]) ⟨rfl, rfl, trivial⟩ ?_
 refine CX.seq ?_
 refine CX.region ?_
 refine RX.cons rfl rfl (op_w (yw_assign rfl rfl) rfl rfl ?_)
 refine RX.cons rfl rfl (op_w (yw_assign rfl rfl) rfl rfl ?_)
 refine RX.nil (XX.next (V' := [(0, _), (1, _)]) ⟨rfl, rfl, trivial⟩ ?_)
 refine CX.seq ?_
 refine CX.seq ?_
 refine CX.region ?_
 refine RX.cons rfl rfl (op_w (yw_move rfl rfl) rfl rfl ?_)
 refine RX.cons rfl rfl (op_w (yw_lss rfl rfl rfl) rfl rfl ?_)
 refine RX.cons rfl rfl (op_w (yw_move rfl rfl) rfl rfl ?_)
 refine RX.splitD (t := 8) (p := m < 0) rfl (fun d8 => ?_) (fun d8 => ?_)
 ·refine RX.skip rfl rfl rfl rfl rfl rfl rfl ?_
  refine RX.skip rfl rfl rfl rfl rfl rfl rfl ?_
  refine RX.skip rfl rfl rfl rfl rfl rfl rfl ?_
  refine RX.skip rfl rfl rfl rfl rfl rfl rfl ?_
  refine RX.cons rfl rfl (op_w (yw_pickT rfl rfl rfl) rfl rfl ?_)
  refine RX.nil (XX.next (V' := [(0, _), (1, _), (13, _)]) ⟨rfl, rfl, rfl, trivial⟩ ?_)
  refine CX.condT rfl ?_
  refine CX.seq ?_
  refine CX.region ?_
  refine RX.cons rfl rfl (op_w (yw_assign rfl rfl) rfl rfl ?_)
  refine RX.cons rfl rfl (op_w (yw_assign rfl rfl) rfl rfl ?_)
  refine RX.nil (XX.next (V' := [(4, .slice none 0 0), (5, .int .i64 2)]) ⟨rfl, rfl, trivial⟩ ?_)
  refine CX.ret ?_
  refine XX.then_ret ?_
  exact ret_tmp2 rfl rfl rfl fun w1 hw => ⟨rfl, hw.sub (List.nil_sublist _)⟩
 ·refine RX.consG rfl rfl rfl rfl rfl (op_w (yw_move rfl rfl) rfl rfl ?_)
  refine RX.consG rfl rfl rfl rfl rfl (op_w (yw_move rfl rfl) rfl rfl ?_)
  refine RX.consG rfl rfl rfl rfl rfl (op_w (yw_lenS rfl Tryz.underlying26 rfl) rfl rfl ?_)
  refine RX.consG rfl rfl rfl rfl rfl (op_w (yw_gtr rfl rfl rfl) rfl rfl ?_)
  refine RX.cons rfl rfl (op_w (yw_pickF rfl rfl rfl) rfl rfl ?_)
  refine RX.nil (XX.next (V' := [(0, _), (1, _), (13, _)]) ⟨rfl, rfl, rfl, trivial⟩ ?_)
  refine CX.condD (p := ((n : Nat) : Int) < m) rfl (fun c13 => ?_) (fun c13 => ?_)
  ·refine CX.seq ?_
   refine CX.region ?_
   refine RX.cons rfl rfl (op_w (yw_assign rfl rfl) rfl rfl ?_)
   refine RX.cons rfl rfl (op_w (yw_assign rfl rfl) rfl rfl ?_)
   refine RX.nil (XX.next (V' := [(4, .slice none 0 0), (5, .int .i64 2)]) ⟨rfl, rfl, trivial⟩ ?_)
   refine CX.ret ?_
   refine XX.then_ret ?_
   exact ret_tmp2 rfl rfl rfl fun w1 hw => ⟨rfl, hw.sub (List.nil_sublist _)⟩
  ·exfalso; omega

end Go.Proofs.YtnadipjlhlbfoaaGreatDoor
namespace Go.Proofs.YtnadipjlhlbfoaaGreatDoor
set_option linter.all false
open Go Go.RowKit
set_option maxRecDepth 100000
theorem fld_35_0 : Fld Tryz.prog 35 0 0 := ⟨_, _, (Tryz.prog.info? 33).get!, Tryz.underlying35, rfl, rfl, by kernel_rfl, by decide +kernel⟩
theorem ent_28 : ∀ args w, (callFunc 28 args).run Tryz.prog w = .ok (.enter 28 args) w := enters_of Tryz.func28 (by kernel_rfl) rfl
set_option maxRecDepth 100000 in
theorem w_clone24 {w : World} {A : Option Addr} {cap : Nat} (s : Stm) (hr : Rd w A 3 (s.ls.map lnC)) (hl : s.ls.length ≤ 1000000) :
    Calls Tryz.prog 28 #[.agg (#[.int .i64 (Stm.h s), .int .i64 (Stm.c s), .slice A (List.length (Stm.ls s)) cap])] w (fun e w' => ∃ z : Option Addr × Nat, True ∧ e = .returned (.agg (stC ((z, s) : SX))) ∧ SL w [] w' [.row z.1 z.2 77 3 (List.map lnC (Stm.ls s))]) := by
 refine calls_of_CX (O := []) (L := []) (args := [.agg (#[.int .i64 (Stm.h s), .int .i64 (Stm.c s), .slice A (List.length (Stm.ls s)) cap])]) Tryz.func28 rfl (by simp [Tryz.ntmps28]) (SL.refl w) ?_
 refine CX.sub (V' := [(0, .agg (#[.int .i64 (Stm.h s), .int .i64 (Stm.c s), .slice A (List.length (Stm.ls s)) cap]))]) ⟨rfl, trivial⟩ ?_
 refine CX.seq ?_
 refine CX.region ?_
 refine RX.cons rfl rfl (op_box rfl rfl rfl rfl fun gs => ?_)
 refine RX.cons rfl rfl (op_alloc rfl rfl rfl zero_25 fun gr => ?_)
 refine RX.nil (XX.next (V' := [(1, _), (2, .pointer (some ⟨gr, 0, none⟩))]) ⟨rfl, rfl, trivial⟩ ?_)
 refine CX.seq ?_
 refine CX.region ?_
 refine RX.cons rfl rfl (op_w (yw_assign rfl rfl) rfl rfl ?_)
 refine RX.rowNil 77 3 ?_
 refine RX.nil (XX.next (V' := [(1, _), (2, .pointer (some ⟨gr, 0, none⟩)), (3, _)]) ⟨rfl, rfl, rfl, trivial⟩ ?_)
 refine CX.seq ?_
 refine CX.region ?_
 refine RX.cons rfl rfl (op_w (yw_move rfl rfl) rfl rfl ?_)
 refine RX.cons rfl rfl (op_w (yw_fieldAddr rfl fld_25_2 rfl) rfl rfl ?_)
 refine RX.cons rfl rfl (op_yld (y_load (i := 2) rfl rfl one_23 rfl rfl) rfl rfl ?_)
 refine RX.cons rfl rfl (op_appendM0 lnC (i := 0) (xs := []) (Stm.ls s) rfl rfl rfl slb_23 rfl rfl rfl rfl hr (by simp) (by simp only [List.length_nil]; omega) (by simp only [List.length_nil]; omega) fun A2 c2 => ?_)
 refine RX.cons rfl rfl (op_w (yw_fieldAddr rfl fld_25_2 rfl) rfl rfl ?_)
 refine RX.cons rfl rfl (op_store1 (i := 2) (cs' := #[.int .i64 (Stm.h s), .int .i64 (Stm.c s), .slice A2 (([] ++ (Stm.ls s)).length) c2]) rfl rfl rfl rfl szt_23 rfl rfl rfl rfl ?_)
 refine RX.nil (XX.next (V' := [(1, _), (2, .pointer (some ⟨gr, 0, none⟩))]) ⟨rfl, rfl, trivial⟩ ?_)
 refine CX.seq ?_
 refine CX.region ?_
 refine RX.cons rfl rfl (op_yld (y_loadA (i := 2) rfl rfl agg_25 rfl rfl) rfl rfl ?_)
 refine RX.cons rfl rfl (op_storeAll (i := 1) rfl rfl rfl rfl szt_25 rfl (plain_of rfl) rfl rfl ?_)
 refine RX.nil (XX.next (V' := [(2, .pointer (some ⟨gr, 0, none⟩))]) ⟨rfl, trivial⟩ ?_)
 refine CX.ret ?_
 exact ret_cell (i := 1) rfl rfl agg_25 rfl rfl fun w1 hw => ⟨(A2, c2), trivial, rfl, hw.pick ((perm_pick 0 rfl).trans (List.Perm.cons _ (List.Perm.refl _)))⟩

set_option maxRecDepth 100000 in
theorem w_append24Bad {w : World} {A : Option Addr} {cap gy : Nat} {z0 : Option Addr × Nat} (Y0 X : List SX) (hr : Rd w A 3 (X.map stC)) (hX : ∀ x ∈ X, Rd w x.1.1 3 (x.2.ls.map lnC)) (hAO : X ≠ [] → ab A ∉ (List.flatMap Ent.blocks [.blk gy (.cells (#[.slice z0.1 (List.length (Y0 : List SX)) z0.2]) 35 (0, 0)), .row z0.1 z0.2 25 3 (List.map stC Y0), pack (lns Y0)])) (hXO : ∀ x ∈ X, x.2.ls ≠ [] → ab x.1.1 ∉ (List.flatMap Ent.blocks [.blk gy (.cells (#[.slice z0.1 (List.length (Y0 : List SX)) z0.2]) 35 (0, 0)), .row z0.1 z0.2 25 3 (List.map stC Y0), pack (lns Y0)])) (hXl : ∀ x ∈ X, x.2.ls.length ≤ 1000000) (hl : X.length ≤ 1000000) (hs : SL w (List.flatMap Ent.blocks [.blk gy (.cells (#[.slice z0.1 (List.length (Y0 : List SX)) z0.2]) 35 (0, 0)), .row z0.1 z0.2 25 3 (List.map stC Y0), pack (lns Y0)]) w [.blk gy (.cells (#[.slice z0.1 (List.length (Y0 : List SX)) z0.2]) 35 (0, 0)), .row z0.1 z0.2 25 3 (List.map stC Y0), pack (lns Y0)]) (hbad : ¬ ∀ x ∈ X, okS x.2 = true) :
    Calls Tryz.prog 8 #[.pointer (some ⟨gy, 0, none⟩), .slice A X.length cap] w (fun e w' => e = .returned (.int .i64 240) ∧ SL w (List.flatMap Ent.blocks [.blk gy (.cells (#[.slice z0.1 (List.length (Y0 : List SX)) z0.2]) 35 (0, 0)), .row z0.1 z0.2 25 3 (List.map stC Y0), pack (lns Y0)]) w' [.blk gy (.cells (#[.slice z0.1 (List.length (Y0 : List SX)) z0.2]) 35 (0, 0)), .row z0.1 z0.2 25 3 (List.map stC Y0), pack (lns Y0)]) := by
 refine calls_of_CX (O := (List.flatMap Ent.blocks [.blk gy (.cells (#[.slice z0.1 (List.length (Y0 : List SX)) z0.2]) 35 (0, 0)), .row z0.1 z0.2 25 3 (List.map stC Y0), pack (lns Y0)])) (L := [.blk gy (.cells (#[.slice z0.1 (List.length (Y0 : List SX)) z0.2]) 35 (0, 0)), .row z0.1 z0.2 25 3 (List.map stC Y0), pack (lns Y0)]) (args := [.pointer (some ⟨gy, 0, none⟩), .slice A X.length cap]) Tryz.func8 rfl (by simp [Tryz.ntmps8]) hs ?_
 refine CX.sub (V' := [(0, .pointer (some ⟨gy, 0, none⟩)), (1, .slice A X.length cap)]) ⟨rfl, rfl, trivial⟩ ?_
 refine CX.seq ?_
 refine CX.region ?_
 refine RX.cons rfl rfl (op_w (yw_assign rfl rfl) rfl rfl ?_)
 refine RX.nil (XX.next (V' := [(0, _), (1, _)]) ⟨rfl, rfl, trivial⟩ ?_)
 refine CX.seq ?_
 refine CX.seq ?_
 refine CX.region ?_
 refine RX.cons rfl rfl (op_w (yw_assign rfl rfl) rfl rfl ?_)
 refine RX.nil (XX.next (V' := [(0, _), (1, _), (5, _)]) ⟨rfl, rfl, rfl, trivial⟩ ?_)
 refine CX.block ?_
 refine CX.loop (σ := Nat) (fun i => [(0, .pointer (some ⟨gy, 0, none⟩)), (1, .slice A X.length cap), (5, .int .i64 ((i : Nat) : Int))]) (fun i => [.blk gy (.cells (#[.slice z0.1 (List.length (Y0 : List SX)) z0.2]) 35 (0, 0)), .row z0.1 z0.2 25 3 (List.map stC Y0), pack (lns Y0)]) (fun i => i ≤ X.length ∧ (∀ x ∈ X.take i, okS x.2 = true)) (fun i => X.length - i) 0 ⟨Nat.zero_le _, by simp⟩ ⟨rfl, rfl, rfl, trivial⟩ rfl (fun i hI => ?_)
 obtain ⟨hi, hall⟩ := hI
 refine CX.seq ?_
 refine CX.seq ?_
 refine CX.region ?_
 refine RX.cons rfl rfl (op_w (yw_move rfl rfl) rfl rfl ?_)
 refine RX.cons rfl rfl (op_w (yw_move rfl rfl) rfl rfl ?_)
 refine RX.cons rfl rfl (op_w (yw_lenS rfl Tryz.underlying33 rfl) rfl rfl ?_)
 refine RX.cons rfl rfl (op_w (yw_lss rfl rfl rfl) rfl rfl ?_)
 refine RX.nil (XX.next (V' := [(0, _), (1, _), (5, _), (12, _)]) ⟨rfl, rfl, rfl, rfl, trivial⟩ ?_)
 refine CX.condD (p := ((i : Nat) : Int) < ((X.length : Nat) : Int)) rfl (fun c12 => ?_) (fun c12 => ?_)
 ·obtain ⟨x0, hx0⟩ := get_some (l := X) (k := i) (by omega)
  have hx0m := List.mem_of_getElem? hx0
  have hA : ∃ b j, A = some ⟨b, j, none⟩ := hr.some (k := 0) (by simp; omega)
  refine CX.skip (XX.next (V' := [(0, _), (1, _), (5, _)]) ⟨rfl, rfl, rfl, trivial⟩ ?_)
  refine CX.seq ?_
  refine CX.block ?_
  refine CX.seq ?_
  by_cases hok : okS x0.2 = true
  ·refine CX.region ?_
   refine RX.cons rfl rfl (op_w (yw_move rfl rfl) rfl rfl ?_)
   refine RX.cons rfl rfl (op_w (yw_move rfl rfl) rfl rfl ?_)
   refine RX.cons rfl rfl (op_w (yw_index (k := i) rfl slt_33 rfl rfl (by omega) (by omega) hA) rfl rfl ?_)
   refine RX.cons rfl rfl (op_yld (y_elem rfl rfl agg_25 hr (hAO (List.ne_nil_of_mem hx0m)) (map_get hx0)) rfl rfl ?_)
   refine RX.cons rfl rfl (op_callV (v := .tuple #[.string (encS x0.2), .int .i64 0]) rfl rfl rfl rfl rfl ent_27 (fun w hw => by have h := w_encode19 (cap := x0.1.2) x0.2 (rdN hw (hX x0 hx0m) (hXO x0 hx0m)) (hXl x0 hx0m); rw [encR_ok hok] at h; exact h) ?_)
   refine RX.cons rfl rfl (op_w (yw_move rfl rfl) rfl rfl ?_)
   refine RX.cons rfl rfl (op_w (yw_extract rfl rfl rfl) rfl rfl ?_)
   refine RX.cons rfl rfl (op_w (yw_extract rfl rfl rfl) rfl rfl ?_)
   refine RX.cons rfl rfl (op_w (yw_assign rfl rfl) rfl rfl ?_)
   refine RX.cons rfl rfl (op_w (yw_assign rfl rfl) rfl rfl ?_)
   refine RX.nil (XX.next (V' := [(0, _), (1, _), (5, _), (7, _)]) ⟨rfl, rfl, rfl, rfl, trivial⟩ ?_)
   refine CX.seq ?_
   refine CX.region ?_
   refine RX.cons rfl rfl (op_w (yw_move rfl rfl) rfl rfl ?_)
   refine RX.cons rfl rfl (op_w (yw_neq rfl rfl rfl) rfl rfl ?_)
   refine RX.know (t := 24) (u := .bool false) rfl rfl ?_
   refine RX.nil (XX.next (V' := [(0, _), (1, _), (5, _), (24, _)]) ⟨rfl, rfl, rfl, rfl, trivial⟩ ?_)
   refine CX.condF rfl ?_
   refine CX.skip (XX.inBlock (V' := [(0, _), (1, _), (5, _)]) ⟨rfl, rfl, rfl, trivial⟩ ?_)
   refine XX.next (V' := [(0, _), (1, _), (5, _)]) ⟨rfl, rfl, rfl, trivial⟩ ?_
   refine CX.region ?_
   refine RX.cons rfl rfl (op_w (yw_move rfl rfl) rfl rfl ?_)
   refine RX.cons rfl rfl (op_w (yw_add rfl rfl rfl (by omega) (by omega)) rfl rfl ?_)
   refine RX.cons rfl rfl (op_w (yw_assign rfl rfl) rfl rfl ?_)
   refine RX.nil (XX.againP ([]) (i + 1) (by omega) ⟨by omega, all_snocP (p := fun x : SX => okS x.2 = true) hx0 hok hall⟩ ⟨rfl, rfl, rfl, trivial⟩ ((perm_pick 0 rfl).trans (List.Perm.cons _ ((perm_pick 0 rfl).trans (List.Perm.cons _ ((perm_pick 0 rfl).trans (List.Perm.cons _ (List.Perm.refl _))))))))
  ·refine CX.region ?_
   refine RX.cons rfl rfl (op_w (yw_move rfl rfl) rfl rfl ?_)
   refine RX.cons rfl rfl (op_w (yw_move rfl rfl) rfl rfl ?_)
   refine RX.cons rfl rfl (op_w (yw_index (k := i) rfl slt_33 rfl rfl (by omega) (by omega) hA) rfl rfl ?_)
   refine RX.cons rfl rfl (op_yld (y_elem rfl rfl agg_25 hr (hAO (List.ne_nil_of_mem hx0m)) (map_get hx0)) rfl rfl ?_)
   refine RX.cons rfl rfl (op_callV (v := .tuple #[.string .empty, .int .i64 190]) rfl rfl rfl rfl rfl ent_27 (fun w hw => by have h := w_encode19 (cap := x0.1.2) x0.2 (rdN hw (hX x0 hx0m) (hXO x0 hx0m)) (hXl x0 hx0m); rw [encR_bad (by simpa using hok)] at h; exact h) ?_)
   refine RX.cons rfl rfl (op_w (yw_move rfl rfl) rfl rfl ?_)
   refine RX.cons rfl rfl (op_w (yw_extract rfl rfl rfl) rfl rfl ?_)
   refine RX.cons rfl rfl (op_w (yw_extract rfl rfl rfl) rfl rfl ?_)
   refine RX.cons rfl rfl (op_w (yw_assign rfl rfl) rfl rfl ?_)
   refine RX.cons rfl rfl (op_w (yw_assign rfl rfl) rfl rfl ?_)
   refine RX.nil (XX.next (V' := [(0, _), (1, _), (5, _), (7, _)]) ⟨rfl, rfl, rfl, rfl, trivial⟩ ?_)
   refine CX.seq ?_
   refine CX.region ?_
   refine RX.cons rfl rfl (op_w (yw_move rfl rfl) rfl rfl ?_)
   refine RX.cons rfl rfl (op_w (yw_neq rfl rfl rfl) rfl rfl ?_)
   refine RX.know (t := 24) (u := .bool true) rfl rfl ?_
   refine RX.nil (XX.next (V' := [(0, _), (1, _), (5, _), (24, _)]) ⟨rfl, rfl, rfl, rfl, trivial⟩ ?_)
   refine CX.condT rfl ?_
   refine CX.seq ?_
   refine CX.region ?_
   refine RX.cons rfl rfl (op_w (yw_assign rfl rfl) rfl rfl ?_)
   refine RX.nil (XX.next (V' := [(4, .int .i64 240)]) ⟨rfl, trivial⟩ ?_)
   refine CX.ret ?_
   refine XX.block_ret ?_
   refine XX.then_ret ?_
   refine XX.then_ret ?_
   refine XX.block_ret ?_
   refine XX.then_ret ?_
   exact ret_tmp rfl rfl fun w1 hw => ⟨rfl, hw.pick ((perm_pick 0 rfl).trans (List.Perm.cons _ ((perm_pick 0 rfl).trans (List.Perm.cons _ ((perm_pick 0 rfl).trans (List.Perm.cons _ (List.Perm.refl _)))))))⟩
 ·exact absurd (fun x hx => hall x (by rw [List.take_of_length_le (by omega)]; exact hx)) hbad

set_option maxRecDepth 100000 in
theorem w_append24 {w : World} {A : Option Addr} {cap gy : Nat} {z0 : Option Addr × Nat} (Y0 X : List SX) (hr : Rd w A 3 (X.map stC)) (hX : ∀ x ∈ X, Rd w x.1.1 3 (x.2.ls.map lnC)) (hAO : X ≠ [] → ab A ∉ (List.flatMap Ent.blocks [.blk gy (.cells (#[.slice z0.1 (List.length (Y0 : List SX)) z0.2]) 35 (0, 0)), .row z0.1 z0.2 25 3 (List.map stC Y0), pack (lns Y0)])) (hXO : ∀ x ∈ X, x.2.ls ≠ [] → ab x.1.1 ∉ (List.flatMap Ent.blocks [.blk gy (.cells (#[.slice z0.1 (List.length (Y0 : List SX)) z0.2]) 35 (0, 0)), .row z0.1 z0.2 25 3 (List.map stC Y0), pack (lns Y0)])) (hXl : ∀ x ∈ X, x.2.ls.length ≤ 1000000) (hl : X.length ≤ 1000000) (hs : SL w (List.flatMap Ent.blocks [.blk gy (.cells (#[.slice z0.1 (List.length (Y0 : List SX)) z0.2]) 35 (0, 0)), .row z0.1 z0.2 25 3 (List.map stC Y0), pack (lns Y0)]) w [.blk gy (.cells (#[.slice z0.1 (List.length (Y0 : List SX)) z0.2]) 35 (0, 0)), .row z0.1 z0.2 25 3 (List.map stC Y0), pack (lns Y0)]) (hok : ∀ x ∈ X, okS x.2 = true) (hlen : Y0.length + X.length ≤ 1000000) :
    Calls Tryz.prog 8 #[.pointer (some ⟨gy, 0, none⟩), .slice A X.length cap] w (fun e w' => ∃ y : (Option Addr × Nat) × List SX, y.2.map (·.2) = Y0.map (·.2) ++ X.map (·.2) ∧ e = .returned (.int .i64 0) ∧ SL w (List.flatMap Ent.blocks [.blk gy (.cells (#[.slice z0.1 (List.length (Y0 : List SX)) z0.2]) 35 (0, 0)), .row z0.1 z0.2 25 3 (List.map stC Y0), pack (lns Y0)]) w' [.blk gy (.cells (#[.slice y.1.1 (List.length (y.2 : List SX)) y.1.2]) 35 (0, 0)), .row y.1.1 y.1.2 25 3 (List.map stC y.2), pack (lns y.2)]) := by
 refine calls_of_CX (O := (List.flatMap Ent.blocks [.blk gy (.cells (#[.slice z0.1 (List.length (Y0 : List SX)) z0.2]) 35 (0, 0)), .row z0.1 z0.2 25 3 (List.map stC Y0), pack (lns Y0)])) (L := [.blk gy (.cells (#[.slice z0.1 (List.length (Y0 : List SX)) z0.2]) 35 (0, 0)), .row z0.1 z0.2 25 3 (List.map stC Y0), pack (lns Y0)]) (args := [.pointer (some ⟨gy, 0, none⟩), .slice A X.length cap]) Tryz.func8 rfl (by simp [Tryz.ntmps8]) hs ?_
 refine CX.sub (V' := [(0, .pointer (some ⟨gy, 0, none⟩)), (1, .slice A X.length cap)]) ⟨rfl, rfl, trivial⟩ ?_
 refine CX.seq ?_
 refine CX.region ?_
 refine RX.cons rfl rfl (op_w (yw_assign rfl rfl) rfl rfl ?_)
 refine RX.nil (XX.next (V' := [(0, _), (1, _)]) ⟨rfl, rfl, trivial⟩ ?_)
 refine CX.seq ?_
 refine CX.seq ?_
 refine CX.region ?_
 refine RX.cons rfl rfl (op_w (yw_assign rfl rfl) rfl rfl ?_)
 refine RX.nil (XX.next (V' := [(0, _), (1, _), (5, _)]) ⟨rfl, rfl, rfl, trivial⟩ ?_)
 refine CX.block ?_
 refine CX.loop (σ := Nat) (fun i => [(0, .pointer (some ⟨gy, 0, none⟩)), (1, .slice A X.length cap), (5, .int .i64 ((i : Nat) : Int))]) (fun i => [.blk gy (.cells (#[.slice z0.1 (List.length (Y0 : List SX)) z0.2]) 35 (0, 0)), .row z0.1 z0.2 25 3 (List.map stC Y0), pack (lns Y0)]) (fun i => i ≤ X.length ∧ (∀ x ∈ X.take i, okS x.2 = true)) (fun i => X.length - i) 0 ⟨Nat.zero_le _, by simp⟩ ⟨rfl, rfl, rfl, trivial⟩ rfl (fun i hI => ?_)
 obtain ⟨hi, hall⟩ := hI
 refine CX.seq ?_
 refine CX.seq ?_
 refine CX.region ?_
 refine RX.cons rfl rfl (op_w (yw_move rfl rfl) rfl rfl ?_)
 refine RX.cons rfl rfl (op_w (yw_move rfl rfl) rfl rfl ?_)
 refine RX.cons rfl rfl (op_w (yw_lenS rfl Tryz.underlying33 rfl) rfl rfl ?_)
 refine RX.cons rfl rfl (op_w (yw_lss rfl rfl rfl) rfl rfl ?_)
 refine RX.nil (XX.next (V' := [(0, _), (1, _), (5, _), (12, _)]) ⟨rfl, rfl, rfl, rfl, trivial⟩ ?_)
 refine CX.condD (p := ((i : Nat) : Int) < ((X.length : Nat) : Int)) rfl (fun c12 => ?_) (fun c12 => ?_)
 ·obtain ⟨x0, hx0⟩ := get_some (l := X) (k := i) (by omega)
  have hx0m := List.mem_of_getElem? hx0
  have hA : ∃ b j, A = some ⟨b, j, none⟩ := hr.some (k := 0) (by simp; omega)
  refine CX.skip (XX.next (V' := [(0, _), (1, _), (5, _)]) ⟨rfl, rfl, rfl, trivial⟩ ?_)
  refine CX.seq ?_
  refine CX.block ?_
  refine CX.seq ?_
  refine CX.region ?_
  refine RX.cons rfl rfl (op_w (yw_move rfl rfl) rfl rfl ?_)
  refine RX.cons rfl rfl (op_w (yw_move rfl rfl) rfl rfl ?_)
  refine RX.cons rfl rfl (op_w (yw_index (k := i) rfl slt_33 rfl rfl (by omega) (by omega) hA) rfl rfl ?_)
  refine RX.cons rfl rfl (op_yld (y_elem rfl rfl agg_25 hr (hAO (List.ne_nil_of_mem hx0m)) (map_get hx0)) rfl rfl ?_)
  refine RX.cons rfl rfl (op_callV (v := .tuple #[.string (encS x0.2), .int .i64 0]) rfl rfl rfl rfl rfl ent_27 (fun w hw => by have h := w_encode19 (cap := x0.1.2) x0.2 (rdN hw (hX x0 hx0m) (hXO x0 hx0m)) (hXl x0 hx0m); rw [encR_ok (hok x0 hx0m)] at h; exact h) ?_)
  refine RX.cons rfl rfl (op_w (yw_move rfl rfl) rfl rfl ?_)
  refine RX.cons rfl rfl (op_w (yw_extract rfl rfl rfl) rfl rfl ?_)
  refine RX.cons rfl rfl (op_w (yw_extract rfl rfl rfl) rfl rfl ?_)
  refine RX.cons rfl rfl (op_w (yw_assign rfl rfl) rfl rfl ?_)
  refine RX.cons rfl rfl (op_w (yw_assign rfl rfl) rfl rfl ?_)
  refine RX.nil (XX.next (V' := [(0, _), (1, _), (5, _), (7, _)]) ⟨rfl, rfl, rfl, rfl, trivial⟩ ?_)
  refine CX.seq ?_
  refine CX.region ?_
  refine RX.cons rfl rfl (op_w (yw_move rfl rfl) rfl rfl ?_)
  refine RX.cons rfl rfl (op_w (yw_neq rfl rfl rfl) rfl rfl ?_)
  refine RX.know (t := 24) (u := .bool false) rfl rfl ?_
  refine RX.nil (XX.next (V' := [(0, _), (1, _), (5, _), (24, _)]) ⟨rfl, rfl, rfl, rfl, trivial⟩ ?_)
  refine CX.condF rfl ?_
  refine CX.skip (XX.inBlock (V' := [(0, _), (1, _), (5, _)]) ⟨rfl, rfl, rfl, trivial⟩ ?_)
  refine XX.next (V' := [(0, _), (1, _), (5, _)]) ⟨rfl, rfl, rfl, trivial⟩ ?_
  refine CX.region ?_
  refine RX.cons rfl rfl (op_w (yw_move rfl rfl) rfl rfl ?_)
  refine RX.cons rfl rfl (op_w (yw_add rfl rfl rfl (by omega) (by omega)) rfl rfl ?_)
  refine RX.cons rfl rfl (op_w (yw_assign rfl rfl) rfl rfl ?_)
  refine RX.nil (XX.againP ([]) (i + 1) (by omega) ⟨by omega, all_snocP (p := fun x : SX => okS x.2 = true) hx0 (hok x0 hx0m) hall⟩ ⟨rfl, rfl, rfl, trivial⟩ ((perm_pick 0 rfl).trans (List.Perm.cons _ ((perm_pick 0 rfl).trans (List.Perm.cons _ ((perm_pick 0 rfl).trans (List.Perm.cons _ (List.Perm.refl _))))))))
 ·refine CX.exit ?_
  refine XX.then_exit ?_
  refine XX.then_exit ?_
  refine XX.block_exit ?_
  refine XX.next (V' := [(0, _), (1, _)]) ⟨rfl, rfl, trivial⟩ ?_
  refine CX.seq ?_
  refine CX.seq ?_
  refine CX.region ?_
  refine RX.cons rfl rfl (op_w (yw_assign rfl rfl) rfl rfl ?_)
  refine RX.nil (XX.next (V' := [(0, _), (1, _), (8, _)]) ⟨rfl, rfl, rfl, trivial⟩ ?_)
  refine CX.block ?_
  refine CX.loop (σ := Nat × (Option Addr × Nat) × List SX) (fun z => [(0, .pointer (some ⟨gy, 0, none⟩)), (1, .slice A X.length cap), (8, .int .i64 ((z.1 : Nat) : Int))]) (fun z => [.blk gy (.cells (#[.slice z.2.1.1 (List.length (z.2.2 : List SX)) z.2.1.2]) 35 (0, 0)), .row z.2.1.1 z.2.1.2 25 3 (List.map stC z.2.2), pack (lns z.2.2)]) (fun z => z.1 ≤ X.length ∧ z.2.2.map (·.2) = Y0.map (·.2) ++ (X.take z.1).map (·.2)) (fun z => X.length - z.1) (0, z0, Y0) ⟨Nat.zero_le _, by simp⟩ ⟨rfl, rfl, rfl, trivial⟩ rfl (fun z hI => ?_)
  obtain ⟨j, ⟨A1, c1⟩, Ys⟩ := z
  dsimp only at hI ⊢
  obtain ⟨hj, hYs⟩ := hI
  have hYl : Ys.length = Y0.length + j := by have := congrArg List.length hYs; simp at this; omega
  refine CX.seq ?_
  refine CX.seq ?_
  refine CX.region ?_
  refine RX.cons rfl rfl (op_w (yw_move rfl rfl) rfl rfl ?_)
  refine RX.cons rfl rfl (op_w (yw_move rfl rfl) rfl rfl ?_)
  refine RX.cons rfl rfl (op_w (yw_lenS rfl Tryz.underlying33 rfl) rfl rfl ?_)
  refine RX.cons rfl rfl (op_w (yw_lss rfl rfl rfl) rfl rfl ?_)
  refine RX.nil (XX.next (V' := [(0, _), (1, _), (8, _), (28, _)]) ⟨rfl, rfl, rfl, rfl, trivial⟩ ?_)
  refine CX.condD (p := ((j : Nat) : Int) < ((X.length : Nat) : Int)) rfl (fun c28 => ?_) (fun c28 => ?_)
  ·obtain ⟨x0, hx0⟩ := get_some (l := X) (k := j) (by omega)
   have hx0m := List.mem_of_getElem? hx0
   have hA : ∃ b j, A = some ⟨b, j, none⟩ := hr.some (k := 0) (by simp; omega)
   refine CX.skip (XX.next (V' := [(0, _), (1, _), (8, _)]) ⟨rfl, rfl, rfl, trivial⟩ ?_)
   refine CX.seq ?_
   refine CX.block ?_
   refine CX.draw 11 [(0, 1, 2147483648), (0, 1, 4294967296), (2, 4294967296, 8589934592), (4, 8589934592, 17179869184), (8, 17179869184, 34359738368), (0, 2, 68719476736), (0, 256, 137438953472), (96, 206158430208, 274877906944), (128, 274877906944, 549755813888), (256, 549755813888, 1099511627776), (512, 1099511627776, 2199023255552), (1552, 2233382993920, 4398046511104), (4095, 2147483648, 8796093022208), (8191, 8796093022208, 17592186044416), (12287, 21990232555520, 0)] (by kernel_rfl) (by kernel_rfl) (by kernel_rfl) ?_
   refine DX.takeW 0 1 (by kernel_rfl) rfl rfl rfl rfl rfl (yw_move rfl rfl) ?_
   refine DX.takeW 1 3 (by kernel_rfl) rfl rfl rfl rfl rfl (yw_move rfl rfl) ?_
   refine DX.takeW 2 7 (by kernel_rfl) rfl rfl rfl rfl rfl (yw_nilCheck rfl rfl) ?_
   refine DX.takeW 3 15 (by kernel_rfl) rfl rfl rfl rfl rfl (yw_field0 rfl fld_35_0 rfl) ?_
   refine DX.take 4 31 (by kernel_rfl) rfl rfl rfl rfl rfl (List.Sublist.refl _) (y_load (i := 0) rfl rfl one_33 rfl rfl) ?_
   refine DX.takeW 5 63 (by kernel_rfl) rfl rfl rfl rfl rfl (yw_move rfl rfl) ?_
   refine DX.takeW 6 127 (by kernel_rfl) rfl rfl rfl rfl rfl (yw_move rfl rfl) ?_
   refine DX.takeW 7 255 (by kernel_rfl) rfl rfl rfl rfl rfl (yw_index (k := j) rfl slt_33 rfl rfl (by omega) (by omega) hA) ?_
   refine DX.take 8 511 (by kernel_rfl) rfl rfl rfl rfl rfl (List.Sublist.refl _) (y_elem rfl rfl agg_25 hr (hAO (List.ne_nil_of_mem hx0m)) (map_get hx0)) ?_
   refine DX.step 9 1023 (by kernel_rfl) rfl rfl rfl (op_callE rfl rfl rfl rfl rfl ent_28 (fun w hw => w_clone24 x0.2 (rdN hw (hX x0 hx0m) (hXO x0 hx0m)) (hXl x0 hx0m)) (fun zc _ => (DXs.mk (List.Sublist.cons _ (List.Sublist.refl _)) ?_)))
   refine DX.step 10 2047 (by kernel_rfl) rfl rfl rfl (op_buildSlice rfl rfl rfl slb_33 rfl rfl (by intro v hv; simp only [List.mem_cons, List.not_mem_nil, or_false] at hv; subst hv; exact ⟨rfl, (plain_of rfl)⟩) (by decide) fun g9 => (DXs.mk (List.Sublist.cons _ (List.Sublist.cons _ (List.Sublist.refl _))) ?_))
   refine DX.stepT 11 4095 (by kernel_rfl) rfl rfl rfl rfl (op_appendM stC (i := 3) (j := 0) (xs := Ys) ([((zc, x0.2) : SX)]) rfl rfl rfl slb_33 rfl rfl rfl rfl rfl rfl (by simp only [List.length_singleton]; omega) (by simp only [List.length_singleton]; omega) fun A2 c2 => ?_)
   refine DX.takeW 12 8191 (by kernel_rfl) rfl rfl rfl rfl rfl (yw_nilCheck rfl rfl) ?_
   refine DX.takeW 13 16383 (by kernel_rfl) rfl rfl rfl rfl rfl (yw_field0 rfl fld_35_0 rfl) ?_
   refine DX.stepT 14 32767 (by kernel_rfl) rfl rfl rfl rfl (op_storeAll (i := 2) rfl rfl rfl rfl szt_33 rfl (plain_of rfl) rfl rfl ?_)
   refine DX.done (by kernel_rfl) (XX.inBlock (V' := [(0, _), (1, _), (8, _)]) ⟨rfl, rfl, rfl, trivial⟩ ?_)
   refine XX.next (V' := [(0, _), (1, _), (8, _)]) ⟨rfl, rfl, rfl, trivial⟩ ?_
   refine CX.packMoreE (es' := lns (Ys ++ [((zc, x0.2) : SX)])) (L' := [.row (some ⟨g9, 0, none⟩) 1 25 3 (List.map stC ([((zc, x0.2) : SX)])), .blk gy (.cells (#[.slice A2 ((Ys ++ [((zc, x0.2) : SX)]).length) c2]) 35 (0, 0)), .row A2 c2 25 3 (List.map stC (Ys ++ [((zc, x0.2) : SX)]))]) (lns_snoc _ _) ((perm_pick 1 rfl).trans (List.Perm.cons _ ((perm_pick 3 rfl).trans (List.Perm.cons _ (List.Perm.refl _))))) ?_
   refine CX.region ?_
   refine RX.cons rfl rfl (op_w (yw_move rfl rfl) rfl rfl ?_)
   refine RX.cons rfl rfl (op_w (yw_add rfl rfl rfl (by omega) (by omega)) rfl rfl ?_)
   refine RX.cons rfl rfl (op_w (yw_assign rfl rfl) rfl rfl ?_)
   refine RX.nil (XX.againP ([.row (some ⟨g9, 0, none⟩) 1 25 3 (List.map stC ([((zc, x0.2) : SX)]))]) (j + 1, (A2, c2), Ys ++ [((zc, x0.2) : SX)]) (by dsimp only; omega) ⟨by dsimp only; omega, by dsimp only; rw [List.map_append, hYs, take_succ hx0, List.map_append, List.append_assoc]; rfl⟩ ⟨rfl, rfl, rfl, trivial⟩ ((perm_pick 2 rfl).trans (List.Perm.cons _ ((perm_pick 2 rfl).trans (List.Perm.cons _ ((perm_pick 0 rfl).trans (List.Perm.cons _ (List.Perm.refl _))))))))
  ·refine CX.exit ?_
   refine XX.then_exit ?_
   refine XX.then_exit ?_
   refine XX.block_exit ?_
   refine XX.next (V' := []) trivial ?_
   refine CX.seq ?_
   refine CX.region ?_
   refine RX.cons rfl rfl (op_w (yw_assign rfl rfl) rfl rfl ?_)
   refine RX.nil (XX.next (V' := [(4, .int .i64 0)]) ⟨rfl, trivial⟩ ?_)
   refine CX.ret ?_
   exact ret_tmp rfl rfl fun w1 hw => ⟨((A1, c1), Ys), by rw [hYs, List.take_of_length_le (by omega)], rfl, hw.pick ((perm_pick 0 rfl).trans (List.Perm.cons _ ((perm_pick 0 rfl).trans (List.Perm.cons _ ((perm_pick 0 rfl).trans (List.Perm.cons _ (List.Perm.refl _)))))))⟩

/-- What a log contains after an Append, and what Append answers. -/
def grown (l m : List Stm) : List Stm := if ∀ s ∈ m, okS s = true then l ++ m else l
def codeA (m : List Stm) : Int := if ∀ s ∈ m, okS s = true then 0 else 240
theorem grown_all {p : Stm → Prop} {l m : List Stm} (hl : ∀ s ∈ l, p s) (hm : (∀ s ∈ m, okS s = true) → ∀ s ∈ m, p s) : ∀ s ∈ grown l m, p s := by
  unfold grown
  split
  · rename_i h; intro s hs; rcases List.mem_append.1 hs with h1 | h1
    · exact hl s h1
    · exact hm h s h1
  · exact hl
theorem grown_length (l m : List Stm) : (grown l m).length ≤ l.length + m.length := by
  unfold grown; split
  · rw [List.length_append]; omega
  · omega
theorem all_snd {X : List SX} : (∀ s ∈ X.map (fun x : SX => x.2), okS s = true) ↔ ∀ x ∈ X, okS x.2 = true :=
  ⟨fun h x hx => h _ (List.mem_map.2 ⟨x, hx, rfl⟩), fun h s hs => by obtain ⟨x, hx, rfl⟩ := List.mem_map.1 hs; exact h x hx⟩
theorem w_append24A {w : World} {A : Option Addr} {cap gy : Nat} {z0 : Option Addr × Nat} (Y0 X : List SX) (hr : Rd w A 3 (X.map stC)) (hX : ∀ x ∈ X, Rd w x.1.1 3 (x.2.ls.map lnC)) (hAO : X ≠ [] → ab A ∉ (List.flatMap Ent.blocks [.blk gy (.cells (#[.slice z0.1 (List.length (Y0 : List SX)) z0.2]) 35 (0, 0)), .row z0.1 z0.2 25 3 (List.map stC Y0), pack (lns Y0)])) (hXO : ∀ x ∈ X, x.2.ls ≠ [] → ab x.1.1 ∉ (List.flatMap Ent.blocks [.blk gy (.cells (#[.slice z0.1 (List.length (Y0 : List SX)) z0.2]) 35 (0, 0)), .row z0.1 z0.2 25 3 (List.map stC Y0), pack (lns Y0)])) (hXl : ∀ x ∈ X, x.2.ls.length ≤ 1000000) (hl : X.length ≤ 1000000) (hs : SL w (List.flatMap Ent.blocks [.blk gy (.cells (#[.slice z0.1 (List.length (Y0 : List SX)) z0.2]) 35 (0, 0)), .row z0.1 z0.2 25 3 (List.map stC Y0), pack (lns Y0)]) w [.blk gy (.cells (#[.slice z0.1 (List.length (Y0 : List SX)) z0.2]) 35 (0, 0)), .row z0.1 z0.2 25 3 (List.map stC Y0), pack (lns Y0)]) (hlen : Y0.length + X.length ≤ 1000000) : Calls Tryz.prog 8 #[.pointer (some ⟨gy, 0, none⟩), .slice A X.length cap] w (fun e w' => ∃ y : (Option Addr × Nat) × List SX, y.2.map (fun x : SX => x.2) = grown (Y0.map (fun x : SX => x.2)) (X.map (fun x : SX => x.2)) ∧ e = .returned (.int .i64 (codeA (X.map (fun x : SX => x.2)))) ∧ SL w (List.flatMap Ent.blocks [.blk gy (.cells (#[.slice z0.1 (List.length (Y0 : List SX)) z0.2]) 35 (0, 0)), .row z0.1 z0.2 25 3 (List.map stC Y0), pack (lns Y0)]) w' [.blk gy (.cells (#[.slice y.1.1 (List.length (y.2 : List SX)) y.1.2]) 35 (0, 0)), .row y.1.1 y.1.2 25 3 (List.map stC y.2), pack (lns y.2)]) := by
  by_cases h : ∀ s ∈ X.map (fun x : SX => x.2), okS s = true
  · rw [grown, codeA, if_pos h, if_pos h]
    exact w_append24 Y0 X hr hX hAO hXO hXl hl hs (all_snd.1 h) hlen
  · rw [grown, codeA, if_neg h, if_neg h]
    refine (w_append24Bad Y0 X hr hX hAO hXO hXl hl hs (fun h2 => h (all_snd.2 h2))).mono ?_
    rintro e w' ⟨he, hw⟩
    exact ⟨(z0, Y0), rfl, he, hw⟩
theorem w_appendA {w : World} {A : Option Addr} {cap g : Nat} {z : LZ} (X0 X : List SX) (hr : Rd w A 3 (X.map stC)) (hX : ∀ x ∈ X, Rd w x.1.1 3 (x.2.ls.map lnC)) (hAO : X ≠ [] → ab A ∉ [logE g z X0].flatMap Ent.blocks) (hXO : ∀ x ∈ X, x.2.ls ≠ [] → ab x.1.1 ∉ [logE g z X0].flatMap Ent.blocks) (hXl : ∀ x ∈ X, x.2.ls.length ≤ 1000000) (hl : X.length ≤ 1000000) (hs : SL w ([logE g z X0].flatMap Ent.blocks) w [logE g z X0]) (hG : Rounds w) (hg0 : 0 ∉ [logE g z X0].flatMap Ent.blocks) (hlen : X0.length + X.length ≤ 1000000) :
    Calls Tryz.prog 7 #[.pointer (some ⟨g, 0, none⟩), .slice A X.length cap] w (fun e w' => ∃ y : LZ × List SX, y.2.map (fun x : SX => x.2) = grown (X0.map (fun x : SX => x.2)) (X.map (fun x : SX => x.2)) ∧ e = .returned (.int .i64 (codeA (X.map (fun x : SX => x.2)))) ∧ SL w ([logE g z X0].flatMap Ent.blocks) w' [logE g y.1 y.2]) := by
  by_cases h : ∀ s ∈ X.map (fun x : SX => x.2), okS s = true
  · rw [grown, codeA, if_pos h, if_pos h]
    refine (w_appendE X0 X hr hX hAO hXO hXl hl hs hG hg0 (all_snd.1 h) hlen).mono ?_
    rintro e w' ⟨y, hy, he, hw⟩
    exact ⟨(y.1, X0 ++ y.2), by rw [List.map_append, hy], he, hw⟩
  · rw [grown, codeA, if_neg h, if_neg h]
    refine (w_appendBadE X0 X hr hX hAO hXO hXl hl hs (fun h2 => h (all_snd.2 h2))).mono ?_
    rintro e w' ⟨he, hw⟩
    exact ⟨(z, X0), rfl, he, hw⟩
end Go.Proofs.YtnadipjlhlbfoaaGreatDoor
