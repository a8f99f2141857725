/- Walks, printed by a program. -/
import Derived.Test.YtmndhiaaolfepaaDoorDefs
import Derived.Test.YtmndhiaaolfepaaDoorChecked
namespace Go.Proofs.YtmndhiaaolfepaaDoor
set_option linter.all false
open Go Go.RowKit
set_option maxRecDepth 100000
theorem fld_33_4 : Fld Tryd.prog 33 4 4 := ⟨_, _, (Tryd.prog.info? 3).get!, Tryd.underlying33, rfl, rfl, by kernel_rfl, by decide +kernel⟩
theorem one_3 : One Tryd.prog 3 := ⟨_, Tryd.underlying3, rfl⟩
theorem fld_33_13 : Fld Tryd.prog 33 13 13 := ⟨_, _, (Tryd.prog.info? 3).get!, Tryd.underlying33, rfl, rfl, by kernel_rfl, by decide +kernel⟩
theorem ent_52 : ∀ args w, (callFunc 52 args).run Tryd.prog w = .ok (.enter 52 args) w := enters_of Tryd.func52 (by kernel_rfl) rfl
theorem ent_27 : ∀ args w, (callFunc 27 args).run Tryd.prog w = .ok (.enter 27 args) w := enters_of Tryd.func27 (by kernel_rfl) rfl
theorem fld_54_0 : Fld Tryd.prog 54 0 0 := ⟨_, _, (Tryd.prog.info? 33).get!, Tryd.underlying54, rfl, rfl, by kernel_rfl, by decide +kernel⟩
theorem fld_33_16 : Fld Tryd.prog 33 16 16 := ⟨_, _, (Tryd.prog.info? 3).get!, Tryd.underlying33, rfl, rfl, by kernel_rfl, by decide +kernel⟩
theorem zero_33 : Zero Tryd.prog 33 (.agg (#[.int .i64 0, .int .i64 0, .int .i64 0, .int .i64 0, .int .i64 0, .int .i64 0, .int .i64 0, .int .i64 0, .int .i64 0, .int .i64 0, .int .i64 0, .int .i64 0, .int .i64 0, .int .i64 0, .int .i64 0, .int .i64 0, .int .i64 0, .string .empty])) := ⟨(Tryd.prog.info? 33).get!, by kernel_rfl, by kernel_rfl⟩
theorem szt_33 : SzT Tryd.prog 33 18 := ⟨(Tryd.prog.info? 33).get!, by kernel_rfl, by kernel_rfl⟩
theorem agg_33 : AggT Tryd.prog 33 18 := ⟨_, _, Tryd.underlying33, rfl, (by kernel_rfl : Tryd.prog.info? 33 = some (Tryd.prog.info? 33).get!), by kernel_rfl⟩
theorem fld_30_6 : Fld Tryd.prog 30 6 6 := ⟨_, _, (Tryd.prog.info? 3).get!, Tryd.underlying30, rfl, rfl, by kernel_rfl, by decide +kernel⟩
theorem ent_49 : ∀ args w, (callFunc 49 args).run Tryd.prog w = .ok (.enter 49 args) w := enters_of Tryd.func49 (by kernel_rfl) rfl
theorem szt_3 : SzT Tryd.prog 3 1 := ⟨(Tryd.prog.info? 3).get!, by kernel_rfl, by kernel_rfl⟩
set_option maxRecDepth 100000 in
theorem w_refEnd {w : World} (f : Fct) (h0 : 0 ≤ f.second) (h1 : f.second ≤ 3155759999) (h2 : 0 ≤ f.amount) (h3 : f.amount ≤ 86400000) :
    Calls Tryd.prog 16 #[.agg (Fct.cells f)] w (fun e w' => e = .returned (.int .i64 f.stop) ∧ SL w [] w' []) := by
  refine calls_of_CX (O := []) (L := []) (args := [.agg (Fct.cells f)]) Tryd.func16 rfl (by simp [Tryd.ntmps16]) (SL.refl w) ?_
  refine CX.sub (V' := [(0, .agg (Fct.cells f))]) ⟨rfl, trivial⟩ ?_
  refine CX.seq ?_
  refine CX.region ?_
  refine RX.cons rfl rfl (op_box rfl rfl rfl rfl fun g1 => ?_)
  refine RX.cons rfl rfl (op_w (yw_assign rfl rfl) rfl rfl ?_)
  refine RX.nil (XX.next (V' := [(1, .pointer (some ⟨g1, 0, none⟩))]) ⟨rfl, trivial⟩ ?_)
  refine CX.seq ?_
  refine CX.region ?_
  refine RX.cons rfl rfl (op_w (yw_fieldAddr rfl fld_33_4 rfl) rfl rfl ?_)
  refine RX.cons rfl rfl (op_yld (y_load (i := 0) rfl rfl one_3 rfl rfl) rfl rfl ?_)
  refine RX.cons rfl rfl (op_w (yw_fieldAddr rfl fld_33_13 rfl) rfl rfl ?_)
  refine RX.cons rfl rfl (op_yld (y_load (i := 0) rfl rfl one_3 rfl rfl) rfl rfl ?_)
  refine RX.cons rfl rfl (op_w (yw_add rfl rfl rfl (by omega) (by omega)) rfl rfl ?_)
  refine RX.cons rfl rfl (op_w (yw_quo rfl rfl rfl (by omega) (by omega) (by omega)) rfl rfl ?_)
  refine RX.cons rfl rfl (op_w (yw_add rfl rfl rfl (by omega) (by omega)) rfl rfl ?_)
  refine RX.cons rfl rfl (op_w (yw_assign rfl rfl) rfl rfl ?_)
  refine RX.nil (XX.next (V' := [(2, .int .i64 (f.second + ((f.amount + 999) / 1000)))]) ⟨rfl, trivial⟩ ?_)
  refine CX.ret ?_
  exact ret_tmp rfl rfl fun w1 hw => ⟨rfl, hw.sub (List.nil_sublist _)⟩

set_option maxRecDepth 100000 in
theorem w_periodIs {w : World} (p : Int) :
    Calls Tryd.prog 49 #[.int .i64 p] w (fun e w' => e = .returned (.bool (decide (0 ≤ p ∧ p < 1200))) ∧ SL w [] w' []) := by
  refine calls_of_CX (O := []) (L := []) (args := [.int .i64 p]) Tryd.func49 rfl (by simp [Tryd.ntmps49]) (SL.refl w) ?_
  refine CX.sub (V' := [(0, .int .i64 p)]) ⟨rfl, trivial⟩ ?_
  refine CX.seq ?_
  refine CX.region ?_
  refine RX.cons rfl rfl (op_w (yw_assign rfl rfl) rfl rfl ?_)
  refine RX.nil (XX.next (V' := [(0, .int .i64 p)]) ⟨rfl, trivial⟩ ?_)
  refine CX.seq ?_
  refine CX.region ?_
  refine RX.cons rfl rfl (op_w (yw_move rfl rfl) rfl rfl ?_)
  refine RX.cons rfl rfl (op_w (yw_geq rfl rfl rfl) rfl rfl ?_)
  refine RX.cons rfl rfl (op_w (yw_move rfl rfl) rfl rfl ?_)
  refine RX.splitD (t := 5) (p := 0 ≤ p) rfl (fun d5 => ?_) (fun d5 => ?_)
  · refine RX.consG rfl rfl rfl rfl rfl (op_w (yw_move rfl rfl) rfl rfl ?_)
    refine RX.consG rfl rfl rfl rfl rfl (op_w (yw_lss rfl rfl rfl) rfl rfl ?_)
    refine RX.cons rfl rfl (op_w (yw_pickT rfl rfl rfl) rfl rfl ?_)
    refine RX.cons rfl rfl (op_w (yw_assign rfl rfl) rfl rfl ?_)
    refine RX.nil (XX.next (V' := [(2, .bool (decide (p < 1200)))]) ⟨rfl, trivial⟩ ?_)
    refine CX.ret ?_
    exact ret_tmp rfl rfl fun w1 hw => ⟨by simp [*], hw.sub (List.nil_sublist _)⟩
  · refine RX.skip rfl rfl rfl rfl rfl rfl rfl ?_
    refine RX.skip rfl rfl rfl rfl rfl rfl rfl ?_
    refine RX.cons rfl rfl (op_w (yw_pickF rfl rfl rfl) rfl rfl ?_)
    refine RX.cons rfl rfl (op_w (yw_assign rfl rfl) rfl rfl ?_)
    refine RX.nil (XX.next (V' := [(2, .bool false)]) ⟨rfl, trivial⟩ ?_)
    refine CX.ret ?_
    exact ret_tmp rfl rfl fun w1 hw => ⟨by simp [*], hw.sub (List.nil_sublist _)⟩

set_option maxRecDepth 100000 in
theorem w_isNaN {w : World} (p : Int) :
    Calls Tryd.prog 52 #[.int .i64 p] w (fun e w' => e = .returned (.bool false) ∧ SL w [] w' []) := by
  refine calls_of_CX (O := []) (L := []) (args := [.int .i64 p]) Tryd.func52 rfl (by simp [Tryd.ntmps52]) (SL.refl w) ?_
  refine CX.sub (V' := [(0, .int .i64 p)]) ⟨rfl, trivial⟩ ?_
  refine CX.seq ?_
  refine CX.region ?_
  refine RX.cons rfl rfl (op_w (yw_assign rfl rfl) rfl rfl ?_)
  refine RX.nil (XX.next (V' := [(0, .int .i64 p)]) ⟨rfl, trivial⟩ ?_)
  refine CX.seq ?_
  refine CX.region ?_
  refine RX.cons rfl rfl (op_w (yw_move rfl rfl) rfl rfl ?_)
  refine RX.cons rfl rfl (op_w (yw_move rfl rfl) rfl rfl ?_)
  refine RX.cons rfl rfl (op_w (yw_neq rfl rfl rfl) rfl rfl ?_)
  refine RX.cons rfl rfl (op_w (yw_assign rfl rfl) rfl rfl ?_)
  refine RX.nil (XX.next (V' := [(2, .bool (decide (p ≠ p)))]) ⟨rfl, trivial⟩ ?_)
  refine CX.ret ?_
  exact ret_tmp rfl rfl fun w1 hw => ⟨by simp, hw.sub (List.nil_sublist _)⟩

set_option maxRecDepth 100000 in
theorem w_compare {w : World} (p q : Int) :
    Calls Tryd.prog 46 #[.int .i64 p, .int .i64 q] w (fun e w' => e = .returned (.int .i64 (if p < q then -1 else if q < p then 1 else 0)) ∧ SL w [] w' []) := by
  refine calls_of_CX (O := []) (L := []) (args := [.int .i64 p, .int .i64 q]) Tryd.func46 rfl (by simp [Tryd.ntmps46]) (SL.refl w) ?_
  refine CX.sub (V' := [(0, .int .i64 p), (1, .int .i64 q)]) ⟨rfl, rfl, trivial⟩ ?_
  refine CX.seq ?_
  refine CX.region ?_
  refine RX.cons rfl rfl (op_w (yw_assign rfl rfl) rfl rfl ?_)
  refine RX.nil (XX.next (V' := [(0, .int .i64 p), (1, .int .i64 q)]) ⟨rfl, rfl, trivial⟩ ?_)
  refine CX.seq ?_
  refine CX.region ?_
  refine RX.cons rfl rfl (op_w (yw_move rfl rfl) rfl rfl ?_)
  refine RX.cons rfl rfl (op_callV (v := .bool false) rfl rfl rfl rfl rfl ent_52 (fun w _ => w_isNaN p) ?_)
  refine RX.cons rfl rfl (op_w (yw_assign rfl rfl) rfl rfl ?_)
  refine RX.nil (XX.next (V' := [(0, .int .i64 p), (1, .int .i64 q), (5, .bool false)]) ⟨rfl, rfl, rfl, trivial⟩ ?_)
  refine CX.seq ?_
  refine CX.region ?_
  refine RX.cons rfl rfl (op_w (yw_move rfl rfl) rfl rfl ?_)
  refine RX.cons rfl rfl (op_callV (v := .bool false) rfl rfl rfl rfl rfl ent_52 (fun w _ => w_isNaN q) ?_)
  refine RX.cons rfl rfl (op_w (yw_assign rfl rfl) rfl rfl ?_)
  refine RX.nil (XX.next (V' := [(0, .int .i64 p), (1, .int .i64 q), (5, .bool false), (6, .bool false)]) ⟨rfl, rfl, rfl, rfl, trivial⟩ ?_)
  refine CX.seq ?_
  refine CX.seq ?_
  refine CX.region ?_
  refine RX.cons rfl rfl (op_w (yw_move rfl rfl) rfl rfl ?_)
  refine RX.nil (XX.next (V' := [(0, .int .i64 p), (1, .int .i64 q), (6, .bool false), (11, .bool false)]) ⟨rfl, rfl, rfl, rfl, trivial⟩ ?_)
  refine CX.condF rfl ?_
  refine CX.skip (XX.next (V' := [(0, .int .i64 p), (1, .int .i64 q), (6, .bool false)]) ⟨rfl, rfl, rfl, trivial⟩ ?_)
  refine CX.seq ?_
  refine CX.seq ?_
  refine CX.region ?_
  refine RX.cons rfl rfl (op_w (yw_move rfl rfl) rfl rfl ?_)
  refine RX.nil (XX.next (V' := [(0, .int .i64 p), (1, .int .i64 q), (13, .bool false)]) ⟨rfl, rfl, rfl, trivial⟩ ?_)
  refine CX.condF rfl ?_
  refine CX.skip (XX.next (V' := [(0, .int .i64 p), (1, .int .i64 q)]) ⟨rfl, rfl, trivial⟩ ?_)
  refine CX.seq ?_
  refine CX.seq ?_
  refine CX.region ?_
  refine RX.cons rfl rfl (op_w (yw_move rfl rfl) rfl rfl ?_)
  refine RX.cons rfl rfl (op_w (yw_move rfl rfl) rfl rfl ?_)
  refine RX.cons rfl rfl (op_w (yw_lss rfl rfl rfl) rfl rfl ?_)
  refine RX.nil (XX.next (V' := [(0, .int .i64 p), (1, .int .i64 q), (16, .bool (decide (p < q)))]) ⟨rfl, rfl, rfl, trivial⟩ ?_)
  refine CX.condD (p := p < q) rfl (fun c16 => ?_) (fun c16 => ?_)
  · refine CX.seq ?_
    refine CX.region ?_
    refine RX.cons rfl rfl (op_w (yw_assign rfl rfl) rfl rfl ?_)
    refine RX.nil (XX.next (V' := [(4, .int .i64 (-1))]) ⟨rfl, trivial⟩ ?_)
    refine CX.ret ?_
    refine XX.then_ret ?_
    exact ret_tmp rfl rfl fun w1 hw => ⟨by simp [*], hw.sub (List.nil_sublist _)⟩
  · refine CX.skip (XX.next (V' := [(0, .int .i64 p), (1, .int .i64 q)]) ⟨rfl, rfl, trivial⟩ ?_)
    refine CX.seq ?_
    refine CX.seq ?_
    refine CX.region ?_
    refine RX.cons rfl rfl (op_w (yw_move rfl rfl) rfl rfl ?_)
    refine RX.cons rfl rfl (op_w (yw_move rfl rfl) rfl rfl ?_)
    refine RX.cons rfl rfl (op_w (yw_gtr rfl rfl rfl) rfl rfl ?_)
    refine RX.nil (XX.next (V' := [(19, .bool (decide (q < p)))]) ⟨rfl, trivial⟩ ?_)
    refine CX.condD (p := q < p) rfl (fun c19 => ?_) (fun c19 => ?_)
    · refine CX.seq ?_
      refine CX.region ?_
      refine RX.cons rfl rfl (op_w (yw_assign rfl rfl) rfl rfl ?_)
      refine RX.nil (XX.next (V' := [(4, .int .i64 1)]) ⟨rfl, trivial⟩ ?_)
      refine CX.ret ?_
      refine XX.then_ret ?_
      exact ret_tmp rfl rfl fun w1 hw => ⟨by simp [*], hw.sub (List.nil_sublist _)⟩
    · refine CX.skip (XX.next (V' := []) trivial ?_)
      refine CX.seq ?_
      refine CX.region ?_
      refine RX.cons rfl rfl (op_w (yw_assign rfl rfl) rfl rfl ?_)
      refine RX.nil (XX.next (V' := [(4, .int .i64 0)]) ⟨rfl, trivial⟩ ?_)
      refine CX.ret ?_
      exact ret_tmp rfl rfl fun w1 hw => ⟨by simp [*], hw.sub (List.nil_sublist _)⟩

set_option maxRecDepth 100000 in
theorem w_within {w : World} (n a b : Int) :
    Calls Tryd.prog 27 #[.int .i64 n, .int .i64 a, .int .i64 b] w (fun e w' => e = .returned (.bool (within n a b)) ∧ SL w [] w' []) := by
  refine calls_of_CX (O := []) (L := []) (args := [.int .i64 n, .int .i64 a, .int .i64 b]) Tryd.func27 rfl (by simp [Tryd.ntmps27]) (SL.refl w) ?_
  refine CX.sub (V' := [(0, .int .i64 n), (1, .int .i64 a), (2, .int .i64 b)]) ⟨rfl, rfl, rfl, trivial⟩ ?_
  refine CX.seq ?_
  refine CX.region ?_
  refine RX.cons rfl rfl (op_w (yw_assign rfl rfl) rfl rfl ?_)
  refine RX.nil (XX.next (V' := [(0, .int .i64 n), (1, .int .i64 a), (2, .int .i64 b)]) ⟨rfl, rfl, rfl, trivial⟩ ?_)
  refine CX.seq ?_
  refine CX.region ?_
  refine RX.cons rfl rfl (op_w (yw_move rfl rfl) rfl rfl ?_)
  refine RX.cons rfl rfl (op_w (yw_move rfl rfl) rfl rfl ?_)
  refine RX.cons rfl rfl (op_w (yw_geq rfl rfl rfl) rfl rfl ?_)
  refine RX.cons rfl rfl (op_w (yw_move rfl rfl) rfl rfl ?_)
  refine RX.splitD (t := 10) (p := a ≤ n) rfl (fun d10 => ?_) (fun d10 => ?_)
  · refine RX.consG rfl rfl rfl rfl rfl (op_w (yw_move rfl rfl) rfl rfl ?_)
    refine RX.consG rfl rfl rfl rfl rfl (op_w (yw_move rfl rfl) rfl rfl ?_)
    refine RX.consG rfl rfl rfl rfl rfl (op_w (yw_leq rfl rfl rfl) rfl rfl ?_)
    refine RX.cons rfl rfl (op_w (yw_pickT rfl rfl rfl) rfl rfl ?_)
    refine RX.cons rfl rfl (op_w (yw_assign rfl rfl) rfl rfl ?_)
    refine RX.nil (XX.next (V' := [(6, .bool (decide (n ≤ b)))]) ⟨rfl, trivial⟩ ?_)
    refine CX.ret ?_
    exact ret_tmp rfl rfl fun w1 hw => ⟨by simp [within, *], hw.sub (List.nil_sublist _)⟩
  · refine RX.skip rfl rfl rfl rfl rfl rfl rfl ?_
    refine RX.skip rfl rfl rfl rfl rfl rfl rfl ?_
    refine RX.skip rfl rfl rfl rfl rfl rfl rfl ?_
    refine RX.cons rfl rfl (op_w (yw_pickF rfl rfl rfl) rfl rfl ?_)
    refine RX.cons rfl rfl (op_w (yw_assign rfl rfl) rfl rfl ?_)
    refine RX.nil (XX.next (V' := [(6, .bool false)]) ⟨rfl, trivial⟩ ?_)
    refine CX.ret ?_
    exact ret_tmp rfl rfl fun w1 hw => ⟨by simp [within, *], hw.sub (List.nil_sublist _)⟩

set_option maxRecDepth 100000 in
theorem w_refId {w : World} (n : Int) :
    Calls Tryd.prog 36 #[.int .i64 n] w (fun e w' => e = .returned (.bool (within n 1 1000000)) ∧ SL w [] w' []) := by
  refine calls_of_CX (O := []) (L := []) (args := [.int .i64 n]) Tryd.func36 rfl (by simp [Tryd.ntmps36]) (SL.refl w) ?_
  refine CX.sub (V' := [(0, .int .i64 n)]) ⟨rfl, trivial⟩ ?_
  refine CX.seq ?_
  refine CX.region ?_
  refine RX.cons rfl rfl (op_w (yw_assign rfl rfl) rfl rfl ?_)
  refine RX.nil (XX.next (V' := [(0, .int .i64 n)]) ⟨rfl, trivial⟩ ?_)
  refine CX.seq ?_
  refine CX.region ?_
  refine RX.cons rfl rfl (op_w (yw_move rfl rfl) rfl rfl ?_)
  refine RX.cons rfl rfl (op_callV (v := .bool (within n 1 1000000)) rfl rfl rfl rfl rfl ent_27 (fun w _ => w_within n 1 1000000) ?_)
  refine RX.cons rfl rfl (op_w (yw_assign rfl rfl) rfl rfl ?_)
  refine RX.nil (XX.next (V' := [(2, .bool (within n 1 1000000))]) ⟨rfl, trivial⟩ ?_)
  refine CX.ret ?_
  exact ret_tmp rfl rfl fun w1 hw => ⟨rfl, hw.sub (List.nil_sublist _)⟩

set_option maxRecDepth 100000 in
theorem w_refTerritory {w : World} (n : Int) :
    Calls Tryd.prog 37 #[.int .i64 n] w (fun e w' => e = .returned (.bool (within n 0 7)) ∧ SL w [] w' []) := by
  refine calls_of_CX (O := []) (L := []) (args := [.int .i64 n]) Tryd.func37 rfl (by simp [Tryd.ntmps37]) (SL.refl w) ?_
  refine CX.sub (V' := [(0, .int .i64 n)]) ⟨rfl, trivial⟩ ?_
  refine CX.seq ?_
  refine CX.region ?_
  refine RX.cons rfl rfl (op_w (yw_assign rfl rfl) rfl rfl ?_)
  refine RX.nil (XX.next (V' := [(0, .int .i64 n)]) ⟨rfl, trivial⟩ ?_)
  refine CX.seq ?_
  refine CX.region ?_
  refine RX.cons rfl rfl (op_w (yw_move rfl rfl) rfl rfl ?_)
  refine RX.cons rfl rfl (op_callV (v := .bool (within n 0 7)) rfl rfl rfl rfl rfl ent_27 (fun w _ => w_within n 0 7) ?_)
  refine RX.cons rfl rfl (op_w (yw_assign rfl rfl) rfl rfl ?_)
  refine RX.nil (XX.next (V' := [(2, .bool (within n 0 7))]) ⟨rfl, trivial⟩ ?_)
  refine CX.ret ?_
  exact ret_tmp rfl rfl fun w1 hw => ⟨rfl, hw.sub (List.nil_sublist _)⟩

set_option maxRecDepth 100000 in
theorem w_refPeriod {w : World} (n : Int) :
    Calls Tryd.prog 38 #[.int .i64 n] w (fun e w' => e = .returned (.bool (within n 0 1199)) ∧ SL w [] w' []) := by
  refine calls_of_CX (O := []) (L := []) (args := [.int .i64 n]) Tryd.func38 rfl (by simp [Tryd.ntmps38]) (SL.refl w) ?_
  refine CX.sub (V' := [(0, .int .i64 n)]) ⟨rfl, trivial⟩ ?_
  refine CX.seq ?_
  refine CX.region ?_
  refine RX.cons rfl rfl (op_w (yw_assign rfl rfl) rfl rfl ?_)
  refine RX.nil (XX.next (V' := [(0, .int .i64 n)]) ⟨rfl, trivial⟩ ?_)
  refine CX.seq ?_
  refine CX.region ?_
  refine RX.cons rfl rfl (op_w (yw_move rfl rfl) rfl rfl ?_)
  refine RX.cons rfl rfl (op_callV (v := .bool (within n 0 1199)) rfl rfl rfl rfl rfl ent_27 (fun w _ => w_within n 0 1199) ?_)
  refine RX.cons rfl rfl (op_w (yw_assign rfl rfl) rfl rfl ?_)
  refine RX.nil (XX.next (V' := [(2, .bool (within n 0 1199))]) ⟨rfl, trivial⟩ ?_)
  refine CX.ret ?_
  exact ret_tmp rfl rfl fun w1 hw => ⟨rfl, hw.sub (List.nil_sublist _)⟩

set_option maxRecDepth 100000 in
theorem w_end {w : World} (f : Fct) (h0 : 0 ≤ f.second) (h1 : f.second ≤ 3155759999) (h2 : 0 ≤ f.amount) (h3 : f.amount ≤ 86400000) :
    Calls Tryd.prog 42 #[.agg (Fct.cells f)] w (fun e w' => e = .returned (.int .i64 f.stop) ∧ SL w [] w' []) := by
  refine calls_of_CX (O := []) (L := []) (args := [.agg (Fct.cells f)]) Tryd.func42 rfl (by simp [Tryd.ntmps42]) (SL.refl w) ?_
  refine CX.sub (V' := [(0, .agg (Fct.cells f))]) ⟨rfl, trivial⟩ ?_
  refine CX.seq ?_
  refine CX.region ?_
  refine RX.cons rfl rfl (op_box rfl rfl rfl rfl fun g1 => ?_)
  refine RX.cons rfl rfl (op_w (yw_assign rfl rfl) rfl rfl ?_)
  refine RX.nil (XX.next (V' := [(1, .pointer (some ⟨g1, 0, none⟩))]) ⟨rfl, trivial⟩ ?_)
  refine CX.seq ?_
  refine CX.region ?_
  refine RX.cons rfl rfl (op_w (yw_field0 rfl fld_54_0 rfl) rfl rfl ?_)
  refine RX.cons rfl rfl (op_w (yw_fieldAddr rfl fld_33_4 rfl) rfl rfl ?_)
  refine RX.cons rfl rfl (op_yld (y_load (i := 0) rfl rfl one_3 rfl rfl) rfl rfl ?_)
  refine RX.cons rfl rfl (op_w (yw_field0 rfl fld_54_0 rfl) rfl rfl ?_)
  refine RX.cons rfl rfl (op_w (yw_fieldAddr rfl fld_33_13 rfl) rfl rfl ?_)
  refine RX.cons rfl rfl (op_yld (y_load (i := 0) rfl rfl one_3 rfl rfl) rfl rfl ?_)
  refine RX.cons rfl rfl (op_w (yw_add rfl rfl rfl (by omega) (by omega)) rfl rfl ?_)
  refine RX.cons rfl rfl (op_w (yw_quo rfl rfl rfl (by omega) (by omega) (by omega)) rfl rfl ?_)
  refine RX.cons rfl rfl (op_w (yw_add rfl rfl rfl (by omega) (by omega)) rfl rfl ?_)
  refine RX.cons rfl rfl (op_w (yw_assign rfl rfl) rfl rfl ?_)
  refine RX.nil (XX.next (V' := [(2, .int .i64 (f.second + ((f.amount + 999) / 1000)))]) ⟨rfl, trivial⟩ ?_)
  refine CX.ret ?_
  exact ret_tmp rfl rfl fun w1 hw => ⟨rfl, hw.sub (List.nil_sublist _)⟩

set_option maxRecDepth 100000 in
theorem w_qualifies {w : World} (f : Fct) :
    Calls Tryd.prog 29 #[.agg (Fct.cells f)] w (fun e w' => e = .returned (.bool f.qual) ∧ SL w [] w' []) := by
  refine calls_of_CX (O := []) (L := []) (args := [.agg (Fct.cells f)]) Tryd.func29 rfl (by simp [Tryd.ntmps29]) (SL.refl w) ?_
  refine CX.sub (V' := [(0, .agg (Fct.cells f))]) ⟨rfl, trivial⟩ ?_
  refine CX.seq ?_
  refine CX.region ?_
  refine RX.cons rfl rfl (op_box rfl rfl rfl rfl fun g1 => ?_)
  refine RX.cons rfl rfl (op_w (yw_assign rfl rfl) rfl rfl ?_)
  refine RX.nil (XX.next (V' := [(1, .pointer (some ⟨g1, 0, none⟩))]) ⟨rfl, trivial⟩ ?_)
  refine CX.seq ?_
  refine CX.region ?_
  refine RX.cons rfl rfl (op_w (yw_field0 rfl fld_54_0 rfl) rfl rfl ?_)
  refine RX.cons rfl rfl (op_w (yw_fieldAddr rfl fld_33_13 rfl) rfl rfl ?_)
  refine RX.cons rfl rfl (op_yld (y_load (i := 0) rfl rfl one_3 rfl rfl) rfl rfl ?_)
  refine RX.cons rfl rfl (op_w (yw_geq rfl rfl rfl) rfl rfl ?_)
  refine RX.cons rfl rfl (op_w (yw_move rfl rfl) rfl rfl ?_)
  refine RX.splitD (t := 7) (p := 30000 ≤ f.amount) rfl (fun d7 => ?_) (fun d7 => ?_)
  · refine RX.consG rfl rfl rfl rfl rfl (op_w (yw_field0 rfl fld_54_0 rfl) rfl rfl ?_)
    refine RX.consG rfl rfl rfl rfl rfl (op_w (yw_fieldAddr rfl fld_33_16 rfl) rfl rfl ?_)
    refine RX.consG rfl rfl rfl rfl rfl (op_yld (y_load (i := 0) rfl rfl one_3 rfl rfl) rfl rfl ?_)
    refine RX.consG rfl rfl rfl rfl rfl (op_w (yw_eql rfl rfl rfl) rfl rfl ?_)
    refine RX.cons rfl rfl (op_w (yw_pickT rfl rfl rfl) rfl rfl ?_)
    refine RX.cons rfl rfl (op_w (yw_assign rfl rfl) rfl rfl ?_)
    refine RX.nil (XX.next (V' := [(2, .bool (decide (f.mark = 0)))]) ⟨rfl, trivial⟩ ?_)
    refine CX.ret ?_
    exact ret_tmp rfl rfl fun w1 hw => ⟨by simp [Fct.qual, *] <;> rfl, hw.sub (List.nil_sublist _)⟩
  · refine RX.skip rfl rfl rfl rfl rfl rfl rfl ?_
    refine RX.skip rfl rfl rfl rfl rfl rfl rfl ?_
    refine RX.skip rfl rfl rfl rfl rfl rfl rfl ?_
    refine RX.skip rfl rfl rfl rfl rfl rfl rfl ?_
    refine RX.cons rfl rfl (op_w (yw_pickF rfl rfl rfl) rfl rfl ?_)
    refine RX.cons rfl rfl (op_w (yw_assign rfl rfl) rfl rfl ?_)
    refine RX.nil (XX.next (V' := [(2, .bool false)]) ⟨rfl, trivial⟩ ?_)
    refine CX.ret ?_
    exact ret_tmp rfl rfl fun w1 hw => ⟨by simp [Fct.qual, *] <;> rfl, hw.sub (List.nil_sublist _)⟩

set_option maxRecDepth 100000 in
theorem w_periodIs2 {w : World} (p : Int) :
    Calls Tryd.prog 49 #[.int .i64 p] w (fun e w' => e = .returned (.bool (decide (0 ≤ p ∧ p < 1200))) ∧ SL w [] w' []) := by
  refine calls_of_CX (O := []) (L := []) (args := [.int .i64 p]) Tryd.func49 rfl (by simp [Tryd.ntmps49]) (SL.refl w) ?_
  refine CX.sub (V' := [(0, .int .i64 p)]) ⟨rfl, trivial⟩ ?_
  refine CX.seq ?_
  refine CX.region ?_
  refine RX.cons rfl rfl (op_w (yw_assign rfl rfl) rfl rfl ?_)
  refine RX.nil (XX.next (V' := [(0, .int .i64 p)]) ⟨rfl, trivial⟩ ?_)
  refine CX.seq ?_
  refine CX.region ?_
  refine RX.cons rfl rfl (op_w (yw_move rfl rfl) rfl rfl ?_)
  refine RX.cons rfl rfl (op_w (yw_geq rfl rfl rfl) rfl rfl ?_)
  refine RX.cons rfl rfl (op_w (yw_move rfl rfl) rfl rfl ?_)
  refine RX.splitD (t := 5) (p := 0 ≤ p) rfl (fun d5 => ?_) (fun d5 => ?_)
  · refine RX.consG rfl rfl rfl rfl rfl (op_w (yw_move rfl rfl) rfl rfl ?_)
    refine RX.consG rfl rfl rfl rfl rfl (op_w (yw_lss rfl rfl rfl) rfl rfl ?_)
    refine RX.cons rfl rfl (op_w (yw_pickT rfl rfl rfl) rfl rfl ?_)
    refine RX.cons rfl rfl (op_w (yw_assign rfl rfl) rfl rfl ?_)
    refine RX.nil (XX.next (V' := [(2, .bool (decide (p < 1200)))]) ⟨rfl, trivial⟩ ?_)
    refine CX.ret ?_
    exact ret_tmp rfl rfl fun w1 hw => ⟨by simp [*], hw.sub (List.nil_sublist _)⟩
  · refine RX.skip rfl rfl rfl rfl rfl rfl rfl ?_
    refine RX.skip rfl rfl rfl rfl rfl rfl rfl ?_
    refine RX.cons rfl rfl (op_w (yw_pickF rfl rfl rfl) rfl rfl ?_)
    refine RX.cons rfl rfl (op_w (yw_assign rfl rfl) rfl rfl ?_)
    refine RX.nil (XX.next (V' := [(2, .bool false)]) ⟨rfl, trivial⟩ ?_)
    refine CX.ret ?_
    exact ret_tmp rfl rfl fun w1 hw => ⟨by simp [*], hw.sub (List.nil_sublist _)⟩

set_option maxRecDepth 100000 in
theorem w_play {w : World} (i s m : Int) :
    Calls Tryd.prog 20 #[.int .i64 i, .int .i64 s, .int .i64 m] w (fun e w' => e = .returned (.agg (Fct.cells (mkPlay i s m))) ∧ SL w [] w' []) := by
  refine calls_of_CX (O := []) (L := []) (args := [.int .i64 i, .int .i64 s, .int .i64 m]) Tryd.func20 rfl (by simp [Tryd.ntmps20]) (SL.refl w) ?_
  refine CX.sub (V' := [(0, .int .i64 i), (1, .int .i64 s), (2, .int .i64 m)]) ⟨rfl, rfl, rfl, trivial⟩ ?_
  refine CX.seq ?_
  refine CX.region ?_
  refine RX.cons rfl rfl (op_alloc rfl rfl rfl zero_33 fun g1 => ?_)
  refine RX.nil (XX.next (V' := [(0, .int .i64 i), (1, .int .i64 s), (2, .int .i64 m), (6, .pointer (some ⟨g1, 0, none⟩))]) ⟨rfl, rfl, rfl, rfl, trivial⟩ ?_)
  refine CX.seq ?_
  refine CX.region ?_
  refine RX.cons rfl rfl (op_w (yw_move rfl rfl) rfl rfl ?_)
  refine RX.cons rfl rfl (op_w (yw_move rfl rfl) rfl rfl ?_)
  refine RX.cons rfl rfl (op_w (yw_move rfl rfl) rfl rfl ?_)
  refine RX.cons rfl rfl (op_w (yw_build (v := .agg (#[.int .i64 1, .int .i64 i, .int .i64 1, .int .i64 0, .int .i64 s, .int .i64 2, .int .i64 1, .int .i64 7, .int .i64 0, .int .i64 0, .int .i64 0, .int .i64 0, .int .i64 0, .int .i64 m, .int .i64 0, .int .i64 0, .int .i64 0, .string .empty])) rfl rfl (fun _ => by kernel_rfl)) rfl rfl ?_)
  refine RX.cons rfl rfl (op_storeAll (i := 0) rfl rfl rfl rfl szt_33 rfl (plain_of rfl) rfl rfl ?_)
  refine RX.nil (XX.next (V' := [(6, .pointer (some ⟨g1, 0, none⟩))]) ⟨rfl, trivial⟩ ?_)
  refine CX.ret ?_
  exact ret_cell (i := 0) rfl rfl agg_33 rfl rfl fun w1 hw => ⟨rfl, hw.sub (List.nil_sublist _)⟩

set_option maxRecDepth 100000 in
theorem w_period1 {w : World} {g : Nat} (s : Strm) (p : Int) (hg : w.cell? ⟨g, 0, none⟩ = some (.int .i64 p)) :
    Calls Tryd.prog 21 #[.agg (Strm.cells s), .pointer (some ⟨g, 0, none⟩)] w (fun e w' => e = .returned (.bool (decide (s.period ≠ p))) ∧ SL w [] w' []) := by
  refine calls_of_CX (O := []) (L := []) (args := [.agg (Strm.cells s), .pointer (some ⟨g, 0, none⟩)]) Tryd.func21 rfl (by simp [Tryd.ntmps21]) (SL.refl w) ?_
  refine CX.sub (V' := [(0, .agg (Strm.cells s)), (1, .pointer (some ⟨g, 0, none⟩))]) ⟨rfl, rfl, trivial⟩ ?_
  refine CX.seq ?_
  refine CX.region ?_
  refine RX.cons rfl rfl (op_box rfl rfl rfl rfl fun g1 => ?_)
  refine RX.cons rfl rfl (op_w (yw_assign rfl rfl) rfl rfl ?_)
  refine RX.nil (XX.next (V' := [(1, .pointer (some ⟨g, 0, none⟩)), (2, .pointer (some ⟨g1, 0, none⟩))]) ⟨rfl, rfl, trivial⟩ ?_)
  refine CX.seq ?_
  refine CX.region ?_
  refine RX.cons rfl rfl (op_w (yw_fieldAddr rfl fld_30_6 rfl) rfl rfl ?_)
  refine RX.cons rfl rfl (op_yld (y_load (i := 0) rfl rfl one_3 rfl rfl) rfl rfl ?_)
  refine RX.cons rfl rfl (op_yld (y_loadG (v := .int .i64 p) rfl rfl one_3 hg (by simp)) rfl rfl ?_)
  refine RX.cons rfl rfl (op_w (yw_neq rfl rfl rfl) rfl rfl ?_)
  refine RX.cons rfl rfl (op_w (yw_assign rfl rfl) rfl rfl ?_)
  refine RX.nil (XX.next (V' := [(3, .bool (decide (s.period ≠ p)))]) ⟨rfl, trivial⟩ ?_)
  refine CX.ret ?_
  exact ret_tmp rfl rfl fun w1 hw => ⟨rfl, hw.sub (List.nil_sublist _)⟩

set_option maxRecDepth 100000 in
theorem w_days {w : World} (hG : Lens w) (p : Int) :
    Calls Tryd.prog 43 #[.int .i64 p] w (fun e w' => e = .returned (.int .i64 (days p)) ∧ SL w [] w' []) := by
  refine calls_of_CX (O := []) (L := []) (args := [.int .i64 p]) Tryd.func43 rfl (by simp [Tryd.ntmps43]) (SL.refl w) ?_
  refine CX.sub (V' := [(0, .int .i64 p)]) ⟨rfl, trivial⟩ ?_
  refine CX.seq ?_
  refine CX.region ?_
  refine RX.cons rfl rfl (op_w (yw_assign rfl rfl) rfl rfl ?_)
  refine RX.nil (XX.next (V' := [(0, .int .i64 p)]) ⟨rfl, trivial⟩ ?_)
  refine CX.seq ?_
  refine CX.seq ?_
  refine CX.region ?_
  refine RX.cons rfl rfl (op_w (yw_move rfl rfl) rfl rfl ?_)
  refine RX.cons rfl rfl (op_callV (v := .bool (decide (0 ≤ p ∧ p < 1200))) rfl rfl rfl rfl rfl ent_49 (fun w _ => w_periodIs p) ?_)
  refine RX.cons rfl rfl (op_w (yw_notD rfl rfl) rfl rfl ?_)
  refine RX.nil (XX.next (V' := [(0, .int .i64 p), (5, .bool (decide (¬ (0 ≤ p ∧ p < 1200))))]) ⟨rfl, rfl, trivial⟩ ?_)
  refine CX.condD (p := ¬ (0 ≤ p ∧ p < 1200)) rfl (fun c5 => ?_) (fun c5 => ?_)
  · refine CX.seq ?_
    refine CX.region ?_
    refine RX.cons rfl rfl (op_w (yw_assign rfl rfl) rfl rfl ?_)
    refine RX.nil (XX.next (V' := [(2, .int .i64 0)]) ⟨rfl, trivial⟩ ?_)
    refine CX.ret ?_
    refine XX.then_ret ?_
    exact ret_tmp rfl rfl fun w1 hw => ⟨by rw [days_out p (by simpa using c5)], hw.sub (List.nil_sublist _)⟩
  · have c5' : 0 ≤ p ∧ p < 1200 := by simpa using c5
    refine CX.skip (XX.next (V' := [(0, .int .i64 p)]) ⟨rfl, trivial⟩ ?_)
    refine CX.seq ?_
    refine CX.seq ?_
    refine CX.region ?_
    refine RX.cons rfl rfl (op_w (yw_move rfl rfl) rfl rfl ?_)
    refine RX.cons rfl rfl (op_w (yw_rem rfl rfl rfl (by omega) (by omega)) rfl rfl ?_)
    refine RX.cons rfl rfl (op_w (yw_eql rfl rfl rfl) rfl rfl ?_)
    refine RX.nil (XX.next (V' := [(0, .int .i64 p), (8, .bool (decide (p % 48 = 1)))]) ⟨rfl, rfl, trivial⟩ ?_)
    refine CX.condD (p := p % 48 = 1) rfl (fun c8 => ?_) (fun c8 => ?_)
    · refine CX.seq ?_
      refine CX.region ?_
      refine RX.cons rfl rfl (op_w (yw_indexArr (k := 1) rfl Tryd.underlying86 szt_3 rfl rfl (by omega) (by decide)) rfl rfl ?_)
      refine RX.cons rfl rfl (op_yld (y_loadG (v := .int .i64 28) rfl rfl one_3 (hG 1 (by decide)) (by simp)) rfl rfl ?_)
      refine RX.cons rfl rfl (op_w (yw_add rfl rfl rfl (by omega) (by omega)) rfl rfl ?_)
      refine RX.cons rfl rfl (op_w (yw_assign rfl rfl) rfl rfl ?_)
      refine RX.nil (XX.next (V' := [(2, .int .i64 (28 + 1))]) ⟨rfl, trivial⟩ ?_)
      refine CX.ret ?_
      refine XX.then_ret ?_
      exact ret_tmp rfl rfl fun w1 hw => ⟨by rw [days_eq p (by simpa using c5)]; simp [c8, monthLen], hw.sub (List.nil_sublist _)⟩
    · refine CX.skip (XX.next (V' := [(0, .int .i64 p)]) ⟨rfl, trivial⟩ ?_)
      refine CX.seq ?_
      refine CX.region ?_
      refine RX.cons rfl rfl (op_w (yw_move rfl rfl) rfl rfl ?_)
      refine RX.cons rfl rfl (op_w (yw_rem rfl rfl rfl (by omega) (by omega)) rfl rfl ?_)
      refine RX.cons rfl rfl (op_w (yw_indexArr (k := (p % 12).toNat) rfl Tryd.underlying86 szt_3 rfl rfl (by omega) (by omega)) rfl rfl ?_)
      refine RX.cons rfl rfl (op_yld (y_loadG (v := .int .i64 (monthLen (p % 12).toNat)) rfl rfl one_3 (hG _ (by omega)) (by simp)) rfl rfl ?_)
      refine RX.cons rfl rfl (op_w (yw_assign rfl rfl) rfl rfl ?_)
      refine RX.nil (XX.next (V' := [(2, .int .i64 (monthLen (p % 12).toNat))]) ⟨rfl, trivial⟩ ?_)
      refine CX.ret ?_
      exact ret_tmp rfl rfl fun w1 hw => ⟨by rw [days_eq p (by simpa using c5)]; simp [c8, monthLen], hw.sub (List.nil_sublist _)⟩

end Go.Proofs.YtmndhiaaolfepaaDoor
