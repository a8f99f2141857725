/- Walks, printed by a program. Walks, printed by a program. Walks, printed by a program. Walks, printed by a program. Walks, printed by a program. The log's laws in plain Lean: what is proved is verified, extensions connect, other roots differ. Digests of the fixed calls, evaluated. Walks, printed by a program. -/
import Derived.Test.YtnadipjlhlbfoaaGreatDoorK9
namespace Go.Proofs.YtnadipjlhlbfoaaGreatDoor
set_option linter.all false
open Go Go.RowKit
set_option maxRecDepth 100000
theorem ent_81 : ∀ args w, (callFunc 81 args).run Tryz.prog w = .ok (.enter 81 args) w := enters_of Tryz.func81 (by kernel_rfl) rfl
theorem okS_nums {s : Stm} (h : okS s = true) : ∀ n ∈ [s.h, s.c, ((s.ls.length : Nat) : Int)] ++ numsL s.ls, 0 ≤ n ∧ n ≤ 4611686018427387903 := by
  obtain ⟨h0, h1, h2, h3, h4, h5⟩ := okS_parts h
  have hlen := okS_len h
  intro n hn
  rcases List.mem_append.1 hn with hn | hn
  · simp only [List.mem_cons, List.not_mem_nil, or_false] at hn
    rcases hn with rfl | rfl | rfl <;> omega
  · obtain ⟨x, hx, hn⟩ := List.mem_flatMap.1 hn
    have := okL_all h0 x hx
    simp only [List.mem_cons, List.not_mem_nil, or_false] at hn
    rcases hn with rfl | rfl | rfl <;> omega
theorem cat_put {ns : List Int} {i : Nat} {n : Int} (h : ns[i]? = some n) : (⟨(putL (ns.take i)).toArray⟩ : ByteArray) ++ ⟨(encI n.toNat).toArray⟩ = ⟨(putL (ns.take (i + 1))).toArray⟩ := by
  apply ByteArray.ext
  rw [ByteArray.data_append, take_succ h, putL_snoc]
  simp
theorem encL_nums (s : Stm) : encL s = putL ([s.h, s.c, ((s.ls.length : Nat) : Int)] ++ numsL s.ls) := by rw [putL_append]; rfl
set_option maxRecDepth 100000 in
theorem w_money19 {w : World} (n : Int) :
    Calls Tryz.prog 81 #[.int .i64 n] w (fun e w' => e = .returned (.bool (okM n)) ∧ SL w [] w' []) := by
 refine calls_of_CX (O := []) (L := []) (args := [.int .i64 n]) Tryz.func81 rfl (by simp [Tryz.ntmps81]) (SL.refl w) ?_
 refine CX.sub (V' := [(0, .int .i64 n)]) ⟨rfl, trivial⟩ ?_
 refine CX.seq ?_
 refine CX.region ?_
 refine RX.cons rfl rfl (op_w (yw_assign rfl rfl) rfl rfl ?_)
 refine RX.nil (XX.next (V' := [(0, _)]) ⟨rfl, trivial⟩ ?_)
 refine CX.seq ?_
 refine CX.region ?_
 refine RX.cons rfl rfl (op_w (yw_move rfl rfl) rfl rfl ?_)
 refine RX.cons rfl rfl (op_w (yw_geq rfl rfl rfl) rfl rfl ?_)
 refine RX.cons rfl rfl (op_w (yw_move rfl rfl) rfl rfl ?_)
 refine RX.splitD (t := 5) (p := 0 ≤ n) rfl (fun d5 => ?_) (fun d5 => ?_)
 ·refine RX.consG rfl rfl rfl rfl rfl (op_w (yw_move rfl rfl) rfl rfl ?_)
  refine RX.consG rfl rfl rfl rfl rfl (op_w (yw_leq rfl rfl rfl) rfl rfl ?_)
  refine RX.cons rfl rfl (op_w (yw_pickT rfl rfl rfl) rfl rfl ?_)
  refine RX.cons rfl rfl (op_w (yw_assign rfl rfl) rfl rfl ?_)
  refine RX.nil (XX.next (V' := [(2, .bool (decide (n ≤ 1000000000000000)))]) ⟨rfl, trivial⟩ ?_)
  refine CX.ret ?_
  exact ret_tmp rfl rfl fun w1 hw => ⟨by unfold okM; rw [decide_eq_decide.2 (show (0 ≤ n ∧ n ≤ 1000000000000000) ↔ n ≤ 1000000000000000 from ⟨fun h => h.2, fun h => ⟨by omega, h⟩⟩)], hw.sub (List.nil_sublist _)⟩
 ·refine RX.skip rfl rfl rfl rfl rfl rfl rfl ?_
  refine RX.skip rfl rfl rfl rfl rfl rfl rfl ?_
  refine RX.cons rfl rfl (op_w (yw_pickF rfl rfl rfl) rfl rfl ?_)
  refine RX.cons rfl rfl (op_w (yw_assign rfl rfl) rfl rfl ?_)
  refine RX.nil (XX.next (V' := [(2, .bool false)]) ⟨rfl, trivial⟩ ?_)
  refine CX.ret ?_
  exact ret_tmp rfl rfl fun w1 hw => ⟨by rw [show okM n = false from decide_eq_false (fun h => d5 h.1)], hw.sub (List.nil_sublist _)⟩

set_option maxRecDepth 100000 in
theorem w_valid19 {w : World} {A : Option Addr} {cap : Nat} (s : Stm) (hr : Rd w A 3 (s.ls.map lnC)) (hl : s.ls.length ≤ 1000000) :
    Calls Tryz.prog 58 #[.agg (#[.int .i64 (Stm.h s), .int .i64 (Stm.c s), .slice A (List.length (Stm.ls s)) cap])] w (fun e w' => e = .returned (.bool (okS s)) ∧ SL w [] w' []) := by
 refine calls_of_CX (O := []) (L := []) (args := [.agg (#[.int .i64 (Stm.h s), .int .i64 (Stm.c s), .slice A (List.length (Stm.ls s)) cap])]) Tryz.func58 rfl (by simp [Tryz.ntmps58]) (SL.refl w) ?_
 refine CX.sub (V' := [(0, .agg (#[.int .i64 (Stm.h s), .int .i64 (Stm.c s), .slice A (List.length (Stm.ls s)) cap]))]) ⟨rfl, trivial⟩ ?_
 refine CX.seq ?_
 refine CX.region ?_
 refine RX.cons rfl rfl (op_box rfl rfl rfl rfl fun gs => ?_)
 refine RX.cons rfl rfl (op_w (yw_assign rfl rfl) rfl rfl ?_)
 refine RX.nil (XX.next (V' := [(1, _)]) ⟨rfl, trivial⟩ ?_)
 refine CX.seq ?_
 refine CX.seq ?_
 refine CX.region ?_
 refine RX.cons rfl rfl (op_w (yw_field0 rfl fld_25_0 rfl) rfl rfl ?_)
 refine RX.cons rfl rfl (op_yld (y_load (i := 0) rfl rfl one_3 rfl rfl) rfl rfl ?_)
 refine RX.cons rfl rfl (op_w (yw_lss rfl rfl rfl) rfl rfl ?_)
 refine RX.cons rfl rfl (op_w (yw_move rfl rfl) rfl rfl ?_)
 refine RX.splitD (t := 8) (p := Stm.h s < 1) rfl (fun d8 => ?_) (fun d8 => ?_)
 ·refine RX.skip rfl rfl rfl rfl rfl rfl rfl ?_
  refine RX.skip rfl rfl rfl rfl rfl rfl rfl ?_
  refine RX.skip rfl rfl rfl rfl rfl rfl rfl ?_
  refine RX.cons rfl rfl (op_w (yw_pickT rfl rfl rfl) rfl rfl ?_)
  refine RX.cons rfl rfl (op_w (yw_move rfl rfl) rfl rfl ?_)
  refine RX.skip rfl rfl rfl rfl rfl rfl rfl ?_
  refine RX.skip rfl rfl rfl rfl rfl rfl rfl ?_
  refine RX.skip rfl rfl rfl rfl rfl rfl rfl ?_
  refine RX.cons rfl rfl (op_w (yw_pickT rfl rfl rfl) rfl rfl ?_)
  refine RX.cons rfl rfl (op_w (yw_move rfl rfl) rfl rfl ?_)
  refine RX.skip rfl rfl rfl rfl rfl rfl rfl ?_
  refine RX.skip rfl rfl rfl rfl rfl rfl rfl ?_
  refine RX.skip rfl rfl rfl rfl rfl rfl rfl ?_
  refine RX.cons rfl rfl (op_w (yw_pickT rfl rfl rfl) rfl rfl ?_)
  refine RX.cons rfl rfl (op_w (yw_move rfl rfl) rfl rfl ?_)
  refine RX.skip rfl rfl rfl rfl rfl rfl rfl ?_
  refine RX.skip rfl rfl rfl rfl rfl rfl rfl ?_
  refine RX.skip rfl rfl rfl rfl rfl rfl rfl ?_
  refine RX.skip rfl rfl rfl rfl rfl rfl rfl ?_
  refine RX.cons rfl rfl (op_w (yw_pickT rfl rfl rfl) rfl rfl ?_)
  refine RX.cons rfl rfl (op_w (yw_move rfl rfl) rfl rfl ?_)
  refine RX.skip rfl rfl rfl rfl rfl rfl rfl ?_
  refine RX.skip rfl rfl rfl rfl rfl rfl rfl ?_
  refine RX.skip rfl rfl rfl rfl rfl rfl rfl ?_
  refine RX.skip rfl rfl rfl rfl rfl rfl rfl ?_
  refine RX.cons rfl rfl (op_w (yw_pickT rfl rfl rfl) rfl rfl ?_)
  refine RX.nil (XX.next (V' := [(1, _), (34, _)]) ⟨rfl, rfl, trivial⟩ ?_)
  refine CX.condT rfl ?_
  refine CX.seq ?_
  refine CX.region ?_
  refine RX.cons rfl rfl (op_w (yw_assign rfl rfl) rfl rfl ?_)
  refine RX.nil (XX.next (V' := [(2, .bool false)]) ⟨rfl, trivial⟩ ?_)
  refine CX.ret ?_
  refine XX.then_ret ?_
  exact ret_tmp rfl rfl fun w1 hw => ⟨by rw [okS_odd (by omega)], hw.sub (List.nil_sublist _)⟩
 ·refine RX.consG rfl rfl rfl rfl rfl (op_w (yw_field0 rfl fld_25_0 rfl) rfl rfl ?_)
  refine RX.consG rfl rfl rfl rfl rfl (op_yld (y_load (i := 0) rfl rfl one_3 rfl rfl) rfl rfl ?_)
  refine RX.consG rfl rfl rfl rfl rfl (op_w (yw_gtr rfl rfl rfl) rfl rfl ?_)
  refine RX.cons rfl rfl (op_w (yw_pickF rfl rfl rfl) rfl rfl ?_)
  refine RX.cons rfl rfl (op_w (yw_move rfl rfl) rfl rfl ?_)
  refine RX.splitD (t := 13) (p := 1000000 < Stm.h s) rfl (fun d13 => ?_) (fun d13 => ?_)
  ·refine RX.skip rfl rfl rfl rfl rfl rfl rfl ?_
   refine RX.skip rfl rfl rfl rfl rfl rfl rfl ?_
   refine RX.skip rfl rfl rfl rfl rfl rfl rfl ?_
   refine RX.cons rfl rfl (op_w (yw_pickT rfl rfl rfl) rfl rfl ?_)
   refine RX.cons rfl rfl (op_w (yw_move rfl rfl) rfl rfl ?_)
   refine RX.skip rfl rfl rfl rfl rfl rfl rfl ?_
   refine RX.skip rfl rfl rfl rfl rfl rfl rfl ?_
   refine RX.skip rfl rfl rfl rfl rfl rfl rfl ?_
   refine RX.cons rfl rfl (op_w (yw_pickT rfl rfl rfl) rfl rfl ?_)
   refine RX.cons rfl rfl (op_w (yw_move rfl rfl) rfl rfl ?_)
   refine RX.skip rfl rfl rfl rfl rfl rfl rfl ?_
   refine RX.skip rfl rfl rfl rfl rfl rfl rfl ?_
   refine RX.skip rfl rfl rfl rfl rfl rfl rfl ?_
   refine RX.skip rfl rfl rfl rfl rfl rfl rfl ?_
   refine RX.cons rfl rfl (op_w (yw_pickT rfl rfl rfl) rfl rfl ?_)
   refine RX.cons rfl rfl (op_w (yw_move rfl rfl) rfl rfl ?_)
   refine RX.skip rfl rfl rfl rfl rfl rfl rfl ?_
   refine RX.skip rfl rfl rfl rfl rfl rfl rfl ?_
   refine RX.skip rfl rfl rfl rfl rfl rfl rfl ?_
   refine RX.skip rfl rfl rfl rfl rfl rfl rfl ?_
   refine RX.cons rfl rfl (op_w (yw_pickT rfl rfl rfl) rfl rfl ?_)
   refine RX.nil (XX.next (V' := [(1, _), (34, _)]) ⟨rfl, rfl, trivial⟩ ?_)
   refine CX.condT rfl ?_
   refine CX.seq ?_
   refine CX.region ?_
   refine RX.cons rfl rfl (op_w (yw_assign rfl rfl) rfl rfl ?_)
   refine RX.nil (XX.next (V' := [(2, .bool false)]) ⟨rfl, trivial⟩ ?_)
   refine CX.ret ?_
   refine XX.then_ret ?_
   exact ret_tmp rfl rfl fun w1 hw => ⟨by rw [okS_odd (by omega)], hw.sub (List.nil_sublist _)⟩
  ·refine RX.consG rfl rfl rfl rfl rfl (op_w (yw_fieldAddr rfl fld_25_1 rfl) rfl rfl ?_)
   refine RX.consG rfl rfl rfl rfl rfl (op_yld (y_load (i := 0) rfl rfl one_3 rfl rfl) rfl rfl ?_)
   refine RX.consG rfl rfl rfl rfl rfl (op_w (yw_lss rfl rfl rfl) rfl rfl ?_)
   refine RX.cons rfl rfl (op_w (yw_pickF rfl rfl rfl) rfl rfl ?_)
   refine RX.cons rfl rfl (op_w (yw_move rfl rfl) rfl rfl ?_)
   refine RX.splitD (t := 18) (p := Stm.c s < 0) rfl (fun d18 => ?_) (fun d18 => ?_)
   ·refine RX.skip rfl rfl rfl rfl rfl rfl rfl ?_
    refine RX.skip rfl rfl rfl rfl rfl rfl rfl ?_
    refine RX.skip rfl rfl rfl rfl rfl rfl rfl ?_
    refine RX.cons rfl rfl (op_w (yw_pickT rfl rfl rfl) rfl rfl ?_)
    refine RX.cons rfl rfl (op_w (yw_move rfl rfl) rfl rfl ?_)
    refine RX.skip rfl rfl rfl rfl rfl rfl rfl ?_
    refine RX.skip rfl rfl rfl rfl rfl rfl rfl ?_
    refine RX.skip rfl rfl rfl rfl rfl rfl rfl ?_
    refine RX.skip rfl rfl rfl rfl rfl rfl rfl ?_
    refine RX.cons rfl rfl (op_w (yw_pickT rfl rfl rfl) rfl rfl ?_)
    refine RX.cons rfl rfl (op_w (yw_move rfl rfl) rfl rfl ?_)
    refine RX.skip rfl rfl rfl rfl rfl rfl rfl ?_
    refine RX.skip rfl rfl rfl rfl rfl rfl rfl ?_
    refine RX.skip rfl rfl rfl rfl rfl rfl rfl ?_
    refine RX.skip rfl rfl rfl rfl rfl rfl rfl ?_
    refine RX.cons rfl rfl (op_w (yw_pickT rfl rfl rfl) rfl rfl ?_)
    refine RX.nil (XX.next (V' := [(1, _), (34, _)]) ⟨rfl, rfl, trivial⟩ ?_)
    refine CX.condT rfl ?_
    refine CX.seq ?_
    refine CX.region ?_
    refine RX.cons rfl rfl (op_w (yw_assign rfl rfl) rfl rfl ?_)
    refine RX.nil (XX.next (V' := [(2, .bool false)]) ⟨rfl, trivial⟩ ?_)
    refine CX.ret ?_
    refine XX.then_ret ?_
    exact ret_tmp rfl rfl fun w1 hw => ⟨by rw [okS_odd (by omega)], hw.sub (List.nil_sublist _)⟩
   ·refine RX.consG rfl rfl rfl rfl rfl (op_w (yw_fieldAddr rfl fld_25_1 rfl) rfl rfl ?_)
    refine RX.consG rfl rfl rfl rfl rfl (op_yld (y_load (i := 0) rfl rfl one_3 rfl rfl) rfl rfl ?_)
    refine RX.consG rfl rfl rfl rfl rfl (op_w (yw_geq rfl rfl rfl) rfl rfl ?_)
    refine RX.cons rfl rfl (op_w (yw_pickF rfl rfl rfl) rfl rfl ?_)
    refine RX.cons rfl rfl (op_w (yw_move rfl rfl) rfl rfl ?_)
    refine RX.splitD (t := 23) (p := 1200 ≤ Stm.c s) rfl (fun d23 => ?_) (fun d23 => ?_)
    ·refine RX.skip rfl rfl rfl rfl rfl rfl rfl ?_
     refine RX.skip rfl rfl rfl rfl rfl rfl rfl ?_
     refine RX.skip rfl rfl rfl rfl rfl rfl rfl ?_
     refine RX.skip rfl rfl rfl rfl rfl rfl rfl ?_
     refine RX.cons rfl rfl (op_w (yw_pickT rfl rfl rfl) rfl rfl ?_)
     refine RX.cons rfl rfl (op_w (yw_move rfl rfl) rfl rfl ?_)
     refine RX.skip rfl rfl rfl rfl rfl rfl rfl ?_
     refine RX.skip rfl rfl rfl rfl rfl rfl rfl ?_
     refine RX.skip rfl rfl rfl rfl rfl rfl rfl ?_
     refine RX.skip rfl rfl rfl rfl rfl rfl rfl ?_
     refine RX.cons rfl rfl (op_w (yw_pickT rfl rfl rfl) rfl rfl ?_)
     refine RX.nil (XX.next (V' := [(1, _), (34, _)]) ⟨rfl, rfl, trivial⟩ ?_)
     refine CX.condT rfl ?_
     refine CX.seq ?_
     refine CX.region ?_
     refine RX.cons rfl rfl (op_w (yw_assign rfl rfl) rfl rfl ?_)
     refine RX.nil (XX.next (V' := [(2, .bool false)]) ⟨rfl, trivial⟩ ?_)
     refine CX.ret ?_
     refine XX.then_ret ?_
     exact ret_tmp rfl rfl fun w1 hw => ⟨by rw [okS_odd (by omega)], hw.sub (List.nil_sublist _)⟩
    ·refine RX.consG rfl rfl rfl rfl rfl (op_w (yw_fieldAddr rfl fld_25_2 rfl) rfl rfl ?_)
     refine RX.consG rfl rfl rfl rfl rfl (op_yld (y_load (i := 0) rfl rfl one_23 rfl rfl) rfl rfl ?_)
     refine RX.consG rfl rfl rfl rfl rfl (op_w (yw_lenS rfl Tryz.underlying23 rfl) rfl rfl ?_)
     refine RX.consG rfl rfl rfl rfl rfl (op_w (yw_lss rfl rfl rfl) rfl rfl ?_)
     refine RX.cons rfl rfl (op_w (yw_pickF rfl rfl rfl) rfl rfl ?_)
     refine RX.cons rfl rfl (op_w (yw_move rfl rfl) rfl rfl ?_)
     refine RX.splitD (t := 29) (p := ((List.length (Stm.ls s) : Nat) : Int) < 1) rfl (fun d29 => ?_) (fun d29 => ?_)
     ·refine RX.skip rfl rfl rfl rfl rfl rfl rfl ?_
      refine RX.skip rfl rfl rfl rfl rfl rfl rfl ?_
      refine RX.skip rfl rfl rfl rfl rfl rfl rfl ?_
      refine RX.skip rfl rfl rfl rfl rfl rfl rfl ?_
      refine RX.cons rfl rfl (op_w (yw_pickT rfl rfl rfl) rfl rfl ?_)
      refine RX.nil (XX.next (V' := [(1, _), (34, _)]) ⟨rfl, rfl, trivial⟩ ?_)
      refine CX.condT rfl ?_
      refine CX.seq ?_
      refine CX.region ?_
      refine RX.cons rfl rfl (op_w (yw_assign rfl rfl) rfl rfl ?_)
      refine RX.nil (XX.next (V' := [(2, .bool false)]) ⟨rfl, trivial⟩ ?_)
      refine CX.ret ?_
      refine XX.then_ret ?_
      exact ret_tmp rfl rfl fun w1 hw => ⟨by rw [okS_odd (by omega)], hw.sub (List.nil_sublist _)⟩
     ·refine RX.consG rfl rfl rfl rfl rfl (op_w (yw_fieldAddr rfl fld_25_2 rfl) rfl rfl ?_)
      refine RX.consG rfl rfl rfl rfl rfl (op_yld (y_load (i := 0) rfl rfl one_23 rfl rfl) rfl rfl ?_)
      refine RX.consG rfl rfl rfl rfl rfl (op_w (yw_lenS rfl Tryz.underlying23 rfl) rfl rfl ?_)
      refine RX.consG rfl rfl rfl rfl rfl (op_w (yw_gtr rfl rfl rfl) rfl rfl ?_)
      refine RX.cons rfl rfl (op_w (yw_pickF rfl rfl rfl) rfl rfl ?_)
      refine RX.nil (XX.next (V' := [(1, _), (34, _)]) ⟨rfl, rfl, trivial⟩ ?_)
      refine CX.condD (p := 1200 < ((List.length (Stm.ls s) : Nat) : Int)) rfl (fun c34 => ?_) (fun c34 => ?_)
      ·refine CX.seq ?_
       refine CX.region ?_
       refine RX.cons rfl rfl (op_w (yw_assign rfl rfl) rfl rfl ?_)
       refine RX.nil (XX.next (V' := [(2, .bool false)]) ⟨rfl, trivial⟩ ?_)
       refine CX.ret ?_
       refine XX.then_ret ?_
       exact ret_tmp rfl rfl fun w1 hw => ⟨by rw [okS_long (by omega)], hw.sub (List.nil_sublist _)⟩
      ·refine CX.skip (XX.next (V' := [(1, _)]) ⟨rfl, trivial⟩ ?_)
       refine CX.seq ?_
       refine CX.seq ?_
       refine CX.region ?_
       refine RX.cons rfl rfl (op_w (yw_assign rfl rfl) rfl rfl ?_)
       refine RX.nil (XX.next (V' := [(1, _), (3, _)]) ⟨rfl, rfl, trivial⟩ ?_)
       refine CX.block ?_
       refine CX.loop (σ := Nat × Int) (fun z => [(1, .pointer (some ⟨gs, 0, none⟩)), (3, .int .i64 ((z.1 : Nat) : Int))]) (fun z => [.blk gs (.cells (#[.int .i64 (Stm.h s), .int .i64 (Stm.c s), .slice A (List.length (Stm.ls s)) cap]) 25 (0, 0))]) (fun z => z.1 ≤ s.ls.length ∧ okLs (-1) s.ls = okLs z.2 (s.ls.drop z.1) ∧ -1 ≤ z.2 ∧ (z.1 = 0 → z.2 = -1) ∧ ∀ y, 0 < z.1 → s.ls[z.1 - 1]? = some y → y.p = z.2) (fun z => s.ls.length - z.1) (0, -1) ⟨Nat.zero_le _, rfl, Int.le_refl _, fun _ => rfl, fun y h => by omega⟩ ⟨rfl, rfl, trivial⟩ rfl (fun z hI => ?_)
       obtain ⟨i, last⟩ := z
       dsimp only at hI ⊢
       obtain ⟨hi, hok, hlast, hzero, hprev⟩ := hI
       refine CX.seq ?_
       refine CX.seq ?_
       refine CX.region ?_
       refine RX.cons rfl rfl (op_w (yw_move rfl rfl) rfl rfl ?_)
       refine RX.cons rfl rfl (op_w (yw_fieldAddr rfl fld_25_2 rfl) rfl rfl ?_)
       refine RX.cons rfl rfl (op_yld (y_load (i := 0) rfl rfl one_23 rfl rfl) rfl rfl ?_)
       refine RX.cons rfl rfl (op_w (yw_lenS rfl Tryz.underlying23 rfl) rfl rfl ?_)
       refine RX.cons rfl rfl (op_w (yw_lss rfl rfl rfl) rfl rfl ?_)
       refine RX.nil (XX.next (V' := [(1, _), (3, _), (39, _)]) ⟨rfl, rfl, rfl, trivial⟩ ?_)
       refine CX.condD (p := ((i : Nat) : Int) < ((List.length (Stm.ls s) : Nat) : Int)) rfl (fun c39 => ?_) (fun c39 => ?_)
       ·obtain ⟨x0, hx0⟩ := get_some (l := s.ls) (k := i) (by omega)
        have hA : ∃ b j, A = some ⟨b, j, none⟩ := hr.some (k := 0) (by simp; omega)
        refine CX.skip (XX.next (V' := [(1, _), (3, _)]) ⟨rfl, rfl, trivial⟩ ?_)
        refine CX.seq ?_
        refine CX.block ?_
        refine CX.seq ?_
        refine CX.region ?_
        refine RX.cons rfl rfl (op_w (yw_fieldAddr rfl fld_25_2 rfl) rfl rfl ?_)
        refine RX.cons rfl rfl (op_yld (y_load (i := 0) rfl rfl one_23 rfl rfl) rfl rfl ?_)
        refine RX.cons rfl rfl (op_w (yw_move rfl rfl) rfl rfl ?_)
        refine RX.cons rfl rfl (op_w (yw_index (k := i) rfl slt_23 rfl rfl (by omega) (by omega) hA) rfl rfl ?_)
        refine RX.cons rfl rfl (op_yld (y_elem rfl rfl agg_77 hr (by simp) (map_get hx0)) rfl rfl ?_)
        refine RX.cons rfl rfl (op_alloc rfl rfl rfl zero_77 fun gl => ?_)
        refine RX.cons rfl rfl (op_storeAll (i := 0) rfl rfl rfl rfl szt_77 rfl (plain_of rfl) rfl rfl ?_)
        refine RX.nil (XX.next (V' := [(1, _), (3, _), (4, _)]) ⟨rfl, rfl, rfl, trivial⟩ ?_)
        refine CX.seq ?_
        refine CX.draw 43 [(0, 16, 140737488355328), (1, 140737488355328, 281474976710656), (2, 281474976710656, 562949953421312), (4, 562949953421312, 1125899906842624), (8, 1125899906842640, 2251799813685248), (24, 3377699720527872, 4503599627370496), (40, 5629499534213120, 9007199254740992), (72, 10133099161583616, 18014398509481984), (136, 18014398509481984, 36028797018963968), (256, 36028797018963984, 72057594037927936), (768, 108086391056891904, 144115188075855872), (1280, 180143985094819840, 288230376151711744), (2304, 324259173170675712, 576460752303423488), (4352, 612489549322387456, 1152921504606846976), (10240, 1152921504606846976, 2305843009213693952), (16384, 2305843009213693968, 4611686018427387904), (49152, 6917529027641081856, 9223372036854775808), (81920, 11529215046068469760, 18446744073709551616), (147456, 20752587082923245568, 36893488147419103232), (278528, 39199331156632797184, 73786976294838206464), (655360, 73786976294838206464, 147573952589676412928), (1048576, 147573952589676412944, 295147905179352825856), (3145728, 442721857769029238784, 590295810358705651712), (1048576, 147573952589676412944, 1180591620717411303424), (9437184, 1328165573307087716352, 2361183241434822606848), (22020096, 3099053004383204671488, 4722366482869645213696), (34603008, 4869940435459321626624, 9444732965739290427392), (68157440, 9444732965739290427392, 18889465931478580854784), (134217728, 18889465931478580854792, 37778931862957161709568), (402653184, 56668397794435742564352, 75557863725914323419136), (671088640, 94447329657392904273920, 151115727451828646838272), (1073741824, 151115727451828646838288, 302231454903657293676544), (3221225472, 453347182355485940514816, 604462909807314587353088), (1073741824, 151115727451828646838274, 1208925819614629174706176), (9663676416, 1360041547066457821544448, 2417851639229258349412352), (1073741824, 151115727451828646838280, 4835703278458516698824704), (35433480192, 4986819005910345345662976, 9671406556917033397649408), (86973087744, 12240373923598120393900032, 19342813113834066795298816), (138512695296, 19493928841285895442137088, 38685626227668133590597632), (275951648768, 38836741955119962237435904, 77371252455336267181195264), (555124523008, 78126831092595410415386624, 154742504910672534362390528), (1100719587328, 154912510104055841590083584, 309485009821345068724781056), (2199157473280, 309503899287276547305635840, 618970019642690137449562112)] (by kernel_rfl) (by kernel_rfl) (by kernel_rfl) ?_
        refine DX.takeW 0 1 (by kernel_rfl) rfl rfl rfl rfl rfl (yw_field0 rfl fld_77_0 rfl) ?_
        refine DX.take 1 3 (by kernel_rfl) rfl rfl rfl rfl rfl (List.Sublist.refl _) (y_load (i := 0) rfl rfl one_3 rfl rfl) ?_
        refine DX.takeW 2 7 (by kernel_rfl) rfl rfl rfl rfl rfl (yw_lss rfl rfl rfl) ?_
        refine DX.takeW 3 15 (by kernel_rfl) rfl rfl rfl rfl rfl (yw_move rfl rfl) ?_
        refine DX.splitD (t := 50) (p := Ln.p x0 < 0) rfl (fun d50 => ?_) (fun d50 => ?_)
        ·refine DX.skip 4 31 (by kernel_rfl) rfl rfl rfl rfl rfl rfl rfl rfl ?_
         refine DX.skip 5 63 (by kernel_rfl) rfl rfl rfl rfl rfl rfl rfl rfl ?_
         refine DX.skip 6 127 (by kernel_rfl) rfl rfl rfl rfl rfl rfl rfl rfl ?_
         refine DX.takeW 7 255 (by kernel_rfl) rfl rfl rfl rfl rfl (yw_pickT rfl rfl rfl) ?_
         refine DX.takeW 8 511 (by kernel_rfl) rfl rfl rfl rfl rfl (yw_move rfl rfl) ?_
         refine DX.skip 9 1023 (by kernel_rfl) rfl rfl rfl rfl rfl rfl rfl rfl ?_
         refine DX.skip 10 2047 (by kernel_rfl) rfl rfl rfl rfl rfl rfl rfl rfl ?_
         refine DX.skip 11 4095 (by kernel_rfl) rfl rfl rfl rfl rfl rfl rfl rfl ?_
         refine DX.skip 12 8191 (by kernel_rfl) rfl rfl rfl rfl rfl rfl rfl rfl ?_
         refine DX.takeW 13 16383 (by kernel_rfl) rfl rfl rfl rfl rfl (yw_pickT rfl rfl rfl) ?_
         refine DX.takeW 14 32767 (by kernel_rfl) rfl rfl rfl rfl rfl (yw_move rfl rfl) ?_
         refine DX.skip 15 65535 (by kernel_rfl) rfl rfl rfl rfl rfl rfl rfl rfl ?_
         refine DX.skip 16 131071 (by kernel_rfl) rfl rfl rfl rfl rfl rfl rfl rfl ?_
         refine DX.skip 17 262143 (by kernel_rfl) rfl rfl rfl rfl rfl rfl rfl rfl ?_
         refine DX.skip 18 524287 (by kernel_rfl) rfl rfl rfl rfl rfl rfl rfl rfl ?_
         refine DX.takeW 19 1048575 (by kernel_rfl) rfl rfl rfl rfl rfl (yw_pickT rfl rfl rfl) ?_
         refine DX.takeW 20 2097151 (by kernel_rfl) rfl rfl rfl rfl rfl (yw_move rfl rfl) ?_
         refine DX.skip 21 4194303 (by kernel_rfl) rfl rfl rfl rfl rfl rfl rfl rfl ?_
         refine DX.skip 22 8388607 (by kernel_rfl) rfl rfl rfl rfl rfl rfl rfl rfl ?_
         refine DX.skip 23 16777215 (by kernel_rfl) rfl rfl rfl rfl rfl rfl rfl rfl ?_
         refine DX.skip 24 33554431 (by kernel_rfl) rfl rfl rfl rfl rfl rfl rfl rfl ?_
         refine DX.skip 25 67108863 (by kernel_rfl) rfl rfl rfl rfl rfl rfl rfl rfl ?_
         refine DX.takeW 26 134217727 (by kernel_rfl) rfl rfl rfl rfl rfl (yw_pickT rfl rfl rfl) ?_
         refine DX.takeW 27 268435455 (by kernel_rfl) rfl rfl rfl rfl rfl (yw_move rfl rfl) ?_
         refine DX.skip 28 536870911 (by kernel_rfl) rfl rfl rfl rfl rfl rfl rfl rfl ?_
         refine DX.skip 29 1073741823 (by kernel_rfl) rfl rfl rfl rfl rfl rfl rfl rfl ?_
         refine DX.skip 30 2147483647 (by kernel_rfl) rfl rfl rfl rfl rfl rfl rfl rfl ?_
         refine DX.skip 31 4294967295 (by kernel_rfl) rfl rfl rfl rfl rfl rfl rfl rfl ?_
         refine DX.skip 32 8589934591 (by kernel_rfl) rfl rfl rfl rfl rfl rfl rfl rfl ?_
         refine DX.skip 33 17179869183 (by kernel_rfl) rfl rfl rfl rfl rfl rfl rfl rfl ?_
         refine DX.skip 34 34359738367 (by kernel_rfl) rfl rfl rfl rfl rfl rfl rfl rfl ?_
         refine DX.skip 35 68719476735 (by kernel_rfl) rfl rfl rfl rfl rfl rfl rfl rfl ?_
         refine DX.skip 36 137438953471 (by kernel_rfl) rfl rfl rfl rfl rfl rfl rfl rfl ?_
         refine DX.skip 37 274877906943 (by kernel_rfl) rfl rfl rfl rfl rfl rfl rfl rfl ?_
         refine DX.skip 38 549755813887 (by kernel_rfl) rfl rfl rfl rfl rfl rfl rfl rfl ?_
         refine DX.skip 39 1099511627775 (by kernel_rfl) rfl rfl rfl rfl rfl rfl rfl rfl ?_
         refine DX.skip 40 2199023255551 (by kernel_rfl) rfl rfl rfl rfl rfl rfl rfl rfl ?_
         refine DX.skip 41 4398046511103 (by kernel_rfl) rfl rfl rfl rfl rfl rfl rfl rfl ?_
         refine DX.takeW 42 8796093022207 (by kernel_rfl) rfl rfl rfl rfl rfl (yw_pickT rfl rfl rfl) ?_
         refine DX.done (by kernel_rfl) (XX.next (V' := [(1, _), (3, _), (89, _)]) ⟨rfl, rfl, rfl, trivial⟩ ?_)
         refine CX.condT rfl ?_
         refine CX.seq ?_
         refine CX.region ?_
         refine RX.cons rfl rfl (op_w (yw_assign rfl rfl) rfl rfl ?_)
         refine RX.nil (XX.next (V' := [(2, .bool false)]) ⟨rfl, trivial⟩ ?_)
         refine CX.ret ?_
         refine XX.block_ret ?_
         refine XX.then_ret ?_
         refine XX.then_ret ?_
         refine XX.block_ret ?_
         refine XX.then_ret ?_
         exact ret_tmp rfl rfl fun w1 hw => ⟨by rw [okS_bad (by rw [hok, drop_cons hx0, okLs_cons, okL_false6 (.inl (by omega))]; rfl)], hw.sub (List.nil_sublist _)⟩
        ·refine DX.takeWG 4 31 (by kernel_rfl) rfl rfl rfl rfl rfl rfl rfl rfl (yw_field0 rfl fld_77_0 rfl) ?_
         refine DX.takeG 5 63 (by kernel_rfl) rfl rfl rfl rfl rfl rfl rfl rfl (List.Sublist.refl _) (y_load (i := 0) rfl rfl one_3 rfl rfl) ?_
         refine DX.takeWG 6 127 (by kernel_rfl) rfl rfl rfl rfl rfl rfl rfl rfl (yw_geq rfl rfl rfl) ?_
         refine DX.takeW 7 255 (by kernel_rfl) rfl rfl rfl rfl rfl (yw_pickF rfl rfl rfl) ?_
         refine DX.takeW 8 511 (by kernel_rfl) rfl rfl rfl rfl rfl (yw_move rfl rfl) ?_
         refine DX.splitD (t := 55) (p := 1200 ≤ Ln.p x0) rfl (fun d55 => ?_) (fun d55 => ?_)
         ·refine DX.skip 9 1023 (by kernel_rfl) rfl rfl rfl rfl rfl rfl rfl rfl ?_
          refine DX.skip 10 2047 (by kernel_rfl) rfl rfl rfl rfl rfl rfl rfl rfl ?_
          refine DX.skip 11 4095 (by kernel_rfl) rfl rfl rfl rfl rfl rfl rfl rfl ?_
          refine DX.skip 12 8191 (by kernel_rfl) rfl rfl rfl rfl rfl rfl rfl rfl ?_
          refine DX.takeW 13 16383 (by kernel_rfl) rfl rfl rfl rfl rfl (yw_pickT rfl rfl rfl) ?_
          refine DX.takeW 14 32767 (by kernel_rfl) rfl rfl rfl rfl rfl (yw_move rfl rfl) ?_
          refine DX.skip 15 65535 (by kernel_rfl) rfl rfl rfl rfl rfl rfl rfl rfl ?_
          refine DX.skip 16 131071 (by kernel_rfl) rfl rfl rfl rfl rfl rfl rfl rfl ?_
          refine DX.skip 17 262143 (by kernel_rfl) rfl rfl rfl rfl rfl rfl rfl rfl ?_
          refine DX.skip 18 524287 (by kernel_rfl) rfl rfl rfl rfl rfl rfl rfl rfl ?_
          refine DX.takeW 19 1048575 (by kernel_rfl) rfl rfl rfl rfl rfl (yw_pickT rfl rfl rfl) ?_
          refine DX.takeW 20 2097151 (by kernel_rfl) rfl rfl rfl rfl rfl (yw_move rfl rfl) ?_
          refine DX.skip 21 4194303 (by kernel_rfl) rfl rfl rfl rfl rfl rfl rfl rfl ?_
          refine DX.skip 22 8388607 (by kernel_rfl) rfl rfl rfl rfl rfl rfl rfl rfl ?_
          refine DX.skip 23 16777215 (by kernel_rfl) rfl rfl rfl rfl rfl rfl rfl rfl ?_
          refine DX.skip 24 33554431 (by kernel_rfl) rfl rfl rfl rfl rfl rfl rfl rfl ?_
          refine DX.skip 25 67108863 (by kernel_rfl) rfl rfl rfl rfl rfl rfl rfl rfl ?_
          refine DX.takeW 26 134217727 (by kernel_rfl) rfl rfl rfl rfl rfl (yw_pickT rfl rfl rfl) ?_
          refine DX.takeW 27 268435455 (by kernel_rfl) rfl rfl rfl rfl rfl (yw_move rfl rfl) ?_
          refine DX.skip 28 536870911 (by kernel_rfl) rfl rfl rfl rfl rfl rfl rfl rfl ?_
          refine DX.skip 29 1073741823 (by kernel_rfl) rfl rfl rfl rfl rfl rfl rfl rfl ?_
          refine DX.skip 30 2147483647 (by kernel_rfl) rfl rfl rfl rfl rfl rfl rfl rfl ?_
          refine DX.skip 31 4294967295 (by kernel_rfl) rfl rfl rfl rfl rfl rfl rfl rfl ?_
          refine DX.skip 32 8589934591 (by kernel_rfl) rfl rfl rfl rfl rfl rfl rfl rfl ?_
          refine DX.skip 33 17179869183 (by kernel_rfl) rfl rfl rfl rfl rfl rfl rfl rfl ?_
          refine DX.skip 34 34359738367 (by kernel_rfl) rfl rfl rfl rfl rfl rfl rfl rfl ?_
          refine DX.skip 35 68719476735 (by kernel_rfl) rfl rfl rfl rfl rfl rfl rfl rfl ?_
          refine DX.skip 36 137438953471 (by kernel_rfl) rfl rfl rfl rfl rfl rfl rfl rfl ?_
          refine DX.skip 37 274877906943 (by kernel_rfl) rfl rfl rfl rfl rfl rfl rfl rfl ?_
          refine DX.skip 38 549755813887 (by kernel_rfl) rfl rfl rfl rfl rfl rfl rfl rfl ?_
          refine DX.skip 39 1099511627775 (by kernel_rfl) rfl rfl rfl rfl rfl rfl rfl rfl ?_
          refine DX.skip 40 2199023255551 (by kernel_rfl) rfl rfl rfl rfl rfl rfl rfl rfl ?_
          refine DX.skip 41 4398046511103 (by kernel_rfl) rfl rfl rfl rfl rfl rfl rfl rfl ?_
          refine DX.takeW 42 8796093022207 (by kernel_rfl) rfl rfl rfl rfl rfl (yw_pickT rfl rfl rfl) ?_
          refine DX.done (by kernel_rfl) (XX.next (V' := [(1, _), (3, _), (89, _)]) ⟨rfl, rfl, rfl, trivial⟩ ?_)
          refine CX.condT rfl ?_
          refine CX.seq ?_
          refine CX.region ?_
          refine RX.cons rfl rfl (op_w (yw_assign rfl rfl) rfl rfl ?_)
          refine RX.nil (XX.next (V' := [(2, .bool false)]) ⟨rfl, trivial⟩ ?_)
          refine CX.ret ?_
          refine XX.block_ret ?_
          refine XX.then_ret ?_
          refine XX.then_ret ?_
          refine XX.block_ret ?_
          refine XX.then_ret ?_
          exact ret_tmp rfl rfl fun w1 hw => ⟨by rw [okS_bad (by rw [hok, drop_cons hx0, okLs_cons, okL_false6 (.inr (.inl d55))]; rfl)], hw.sub (List.nil_sublist _)⟩
         ·refine DX.takeWG 9 1023 (by kernel_rfl) rfl rfl rfl rfl rfl rfl rfl rfl (yw_fieldAddr rfl fld_77_1 rfl) ?_
          refine DX.takeG 10 2047 (by kernel_rfl) rfl rfl rfl rfl rfl rfl rfl rfl (List.Sublist.refl _) (y_load (i := 0) rfl rfl one_3 rfl rfl) ?_
          refine DX.stepG 11 4095 (by kernel_rfl) rfl rfl rfl rfl rfl rfl (op_callV (v := .bool (okM (Ln.b x0))) rfl rfl rfl rfl rfl ent_81 (fun w hw => w_money19 (Ln.b x0)) (DXs.mk (List.Sublist.refl _) ?_))
          refine DX.takeWG 12 8191 (by kernel_rfl) rfl rfl rfl rfl rfl rfl rfl rfl (yw_not rfl rfl) ?_
          refine DX.takeW 13 16383 (by kernel_rfl) rfl rfl rfl rfl rfl (yw_pickF rfl rfl rfl) ?_
          refine DX.takeW 14 32767 (by kernel_rfl) rfl rfl rfl rfl rfl (yw_move rfl rfl) ?_
          refine DX.split (t := 61) (b := !(okM (Ln.b x0))) rfl (fun d61 => ?_) (fun d61 => ?_)
          ·refine DX.skip 15 65535 (by kernel_rfl) rfl rfl rfl rfl rfl rfl rfl rfl ?_
           refine DX.skip 16 131071 (by kernel_rfl) rfl rfl rfl rfl rfl rfl rfl rfl ?_
           refine DX.skip 17 262143 (by kernel_rfl) rfl rfl rfl rfl rfl rfl rfl rfl ?_
           refine DX.skip 18 524287 (by kernel_rfl) rfl rfl rfl rfl rfl rfl rfl rfl ?_
           refine DX.takeW 19 1048575 (by kernel_rfl) rfl rfl rfl rfl rfl (yw_pickT rfl rfl rfl) ?_
           refine DX.takeW 20 2097151 (by kernel_rfl) rfl rfl rfl rfl rfl (yw_move rfl rfl) ?_
           refine DX.skip 21 4194303 (by kernel_rfl) rfl rfl rfl rfl rfl rfl rfl rfl ?_
           refine DX.skip 22 8388607 (by kernel_rfl) rfl rfl rfl rfl rfl rfl rfl rfl ?_
           refine DX.skip 23 16777215 (by kernel_rfl) rfl rfl rfl rfl rfl rfl rfl rfl ?_
           refine DX.skip 24 33554431 (by kernel_rfl) rfl rfl rfl rfl rfl rfl rfl rfl ?_
           refine DX.skip 25 67108863 (by kernel_rfl) rfl rfl rfl rfl rfl rfl rfl rfl ?_
           refine DX.takeW 26 134217727 (by kernel_rfl) rfl rfl rfl rfl rfl (yw_pickT rfl rfl rfl) ?_
           refine DX.takeW 27 268435455 (by kernel_rfl) rfl rfl rfl rfl rfl (yw_move rfl rfl) ?_
           refine DX.skip 28 536870911 (by kernel_rfl) rfl rfl rfl rfl rfl rfl rfl rfl ?_
           refine DX.skip 29 1073741823 (by kernel_rfl) rfl rfl rfl rfl rfl rfl rfl rfl ?_
           refine DX.skip 30 2147483647 (by kernel_rfl) rfl rfl rfl rfl rfl rfl rfl rfl ?_
           refine DX.skip 31 4294967295 (by kernel_rfl) rfl rfl rfl rfl rfl rfl rfl rfl ?_
           refine DX.skip 32 8589934591 (by kernel_rfl) rfl rfl rfl rfl rfl rfl rfl rfl ?_
           refine DX.skip 33 17179869183 (by kernel_rfl) rfl rfl rfl rfl rfl rfl rfl rfl ?_
           refine DX.skip 34 34359738367 (by kernel_rfl) rfl rfl rfl rfl rfl rfl rfl rfl ?_
           refine DX.skip 35 68719476735 (by kernel_rfl) rfl rfl rfl rfl rfl rfl rfl rfl ?_
           refine DX.skip 36 137438953471 (by kernel_rfl) rfl rfl rfl rfl rfl rfl rfl rfl ?_
           refine DX.skip 37 274877906943 (by kernel_rfl) rfl rfl rfl rfl rfl rfl rfl rfl ?_
           refine DX.skip 38 549755813887 (by kernel_rfl) rfl rfl rfl rfl rfl rfl rfl rfl ?_
           refine DX.skip 39 1099511627775 (by kernel_rfl) rfl rfl rfl rfl rfl rfl rfl rfl ?_
           refine DX.skip 40 2199023255551 (by kernel_rfl) rfl rfl rfl rfl rfl rfl rfl rfl ?_
           refine DX.skip 41 4398046511103 (by kernel_rfl) rfl rfl rfl rfl rfl rfl rfl rfl ?_
           refine DX.takeW 42 8796093022207 (by kernel_rfl) rfl rfl rfl rfl rfl (yw_pickT rfl rfl rfl) ?_
           refine DX.done (by kernel_rfl) (XX.next (V' := [(1, _), (3, _), (89, _)]) ⟨rfl, rfl, rfl, trivial⟩ ?_)
           refine CX.condT rfl ?_
           refine CX.seq ?_
           refine CX.region ?_
           refine RX.cons rfl rfl (op_w (yw_assign rfl rfl) rfl rfl ?_)
           refine RX.nil (XX.next (V' := [(2, .bool false)]) ⟨rfl, trivial⟩ ?_)
           refine CX.ret ?_
           refine XX.block_ret ?_
           refine XX.then_ret ?_
           refine XX.then_ret ?_
           refine XX.block_ret ?_
           refine XX.then_ret ?_
           exact ret_tmp rfl rfl fun w1 hw => ⟨by rw [okS_bad (by rw [hok, drop_cons hx0, okLs_cons, okL_false6 (.inr (.inr (.inl (not_tt d61))))]; rfl)], hw.sub (List.nil_sublist _)⟩
          ·refine DX.takeWG 15 65535 (by kernel_rfl) rfl rfl rfl rfl rfl rfl rfl rfl (yw_fieldAddr rfl fld_77_2 rfl) ?_
           refine DX.takeG 16 131071 (by kernel_rfl) rfl rfl rfl rfl rfl rfl rfl rfl (List.Sublist.refl _) (y_load (i := 0) rfl rfl one_3 rfl rfl) ?_
           refine DX.stepG 17 262143 (by kernel_rfl) rfl rfl rfl rfl rfl rfl (op_callV (v := .bool (okM (Ln.a x0))) rfl rfl rfl rfl rfl ent_81 (fun w hw => w_money19 (Ln.a x0)) (DXs.mk (List.Sublist.refl _) ?_))
           refine DX.takeWG 18 524287 (by kernel_rfl) rfl rfl rfl rfl rfl rfl rfl rfl (yw_not rfl rfl) ?_
           refine DX.takeW 19 1048575 (by kernel_rfl) rfl rfl rfl rfl rfl (yw_pickF rfl rfl rfl) ?_
           refine DX.takeW 20 2097151 (by kernel_rfl) rfl rfl rfl rfl rfl (yw_move rfl rfl) ?_
           refine DX.split (t := 67) (b := !(okM (Ln.a x0))) rfl (fun d67 => ?_) (fun d67 => ?_)
           ·refine DX.skip 21 4194303 (by kernel_rfl) rfl rfl rfl rfl rfl rfl rfl rfl ?_
            refine DX.skip 22 8388607 (by kernel_rfl) rfl rfl rfl rfl rfl rfl rfl rfl ?_
            refine DX.skip 23 16777215 (by kernel_rfl) rfl rfl rfl rfl rfl rfl rfl rfl ?_
            refine DX.skip 24 33554431 (by kernel_rfl) rfl rfl rfl rfl rfl rfl rfl rfl ?_
            refine DX.skip 25 67108863 (by kernel_rfl) rfl rfl rfl rfl rfl rfl rfl rfl ?_
            refine DX.takeW 26 134217727 (by kernel_rfl) rfl rfl rfl rfl rfl (yw_pickT rfl rfl rfl) ?_
            refine DX.takeW 27 268435455 (by kernel_rfl) rfl rfl rfl rfl rfl (yw_move rfl rfl) ?_
            refine DX.skip 28 536870911 (by kernel_rfl) rfl rfl rfl rfl rfl rfl rfl rfl ?_
            refine DX.skip 29 1073741823 (by kernel_rfl) rfl rfl rfl rfl rfl rfl rfl rfl ?_
            refine DX.skip 30 2147483647 (by kernel_rfl) rfl rfl rfl rfl rfl rfl rfl rfl ?_
            refine DX.skip 31 4294967295 (by kernel_rfl) rfl rfl rfl rfl rfl rfl rfl rfl ?_
            refine DX.skip 32 8589934591 (by kernel_rfl) rfl rfl rfl rfl rfl rfl rfl rfl ?_
            refine DX.skip 33 17179869183 (by kernel_rfl) rfl rfl rfl rfl rfl rfl rfl rfl ?_
            refine DX.skip 34 34359738367 (by kernel_rfl) rfl rfl rfl rfl rfl rfl rfl rfl ?_
            refine DX.skip 35 68719476735 (by kernel_rfl) rfl rfl rfl rfl rfl rfl rfl rfl ?_
            refine DX.skip 36 137438953471 (by kernel_rfl) rfl rfl rfl rfl rfl rfl rfl rfl ?_
            refine DX.skip 37 274877906943 (by kernel_rfl) rfl rfl rfl rfl rfl rfl rfl rfl ?_
            refine DX.skip 38 549755813887 (by kernel_rfl) rfl rfl rfl rfl rfl rfl rfl rfl ?_
            refine DX.skip 39 1099511627775 (by kernel_rfl) rfl rfl rfl rfl rfl rfl rfl rfl ?_
            refine DX.skip 40 2199023255551 (by kernel_rfl) rfl rfl rfl rfl rfl rfl rfl rfl ?_
            refine DX.skip 41 4398046511103 (by kernel_rfl) rfl rfl rfl rfl rfl rfl rfl rfl ?_
            refine DX.takeW 42 8796093022207 (by kernel_rfl) rfl rfl rfl rfl rfl (yw_pickT rfl rfl rfl) ?_
            refine DX.done (by kernel_rfl) (XX.next (V' := [(1, _), (3, _), (89, _)]) ⟨rfl, rfl, rfl, trivial⟩ ?_)
            refine CX.condT rfl ?_
            refine CX.seq ?_
            refine CX.region ?_
            refine RX.cons rfl rfl (op_w (yw_assign rfl rfl) rfl rfl ?_)
            refine RX.nil (XX.next (V' := [(2, .bool false)]) ⟨rfl, trivial⟩ ?_)
            refine CX.ret ?_
            refine XX.block_ret ?_
            refine XX.then_ret ?_
            refine XX.then_ret ?_
            refine XX.block_ret ?_
            refine XX.then_ret ?_
            exact ret_tmp rfl rfl fun w1 hw => ⟨by rw [okS_bad (by rw [hok, drop_cons hx0, okLs_cons, okL_false6 (.inr (.inr (.inr (.inl (not_tt d67)))))]; rfl)], hw.sub (List.nil_sublist _)⟩
           ·refine DX.takeWG 21 4194303 (by kernel_rfl) rfl rfl rfl rfl rfl rfl rfl rfl (yw_fieldAddr rfl fld_77_1 rfl) ?_
            refine DX.takeG 22 8388607 (by kernel_rfl) rfl rfl rfl rfl rfl rfl rfl rfl (List.Sublist.refl _) (y_load (i := 0) rfl rfl one_3 rfl rfl) ?_
            refine DX.takeWG 23 16777215 (by kernel_rfl) rfl rfl rfl rfl rfl rfl rfl rfl (yw_fieldAddr rfl fld_77_2 rfl) ?_
            refine DX.takeG 24 33554431 (by kernel_rfl) rfl rfl rfl rfl rfl rfl rfl rfl (List.Sublist.refl _) (y_load (i := 0) rfl rfl one_3 rfl rfl) ?_
            refine DX.takeWG 25 67108863 (by kernel_rfl) rfl rfl rfl rfl rfl rfl rfl rfl (yw_eql rfl rfl rfl) ?_
            refine DX.takeW 26 134217727 (by kernel_rfl) rfl rfl rfl rfl rfl (yw_pickF rfl rfl rfl) ?_
            refine DX.takeW 27 268435455 (by kernel_rfl) rfl rfl rfl rfl rfl (yw_move rfl rfl) ?_
            refine DX.splitD (t := 74) (p := Ln.b x0 = Ln.a x0) rfl (fun d74 => ?_) (fun d74 => ?_)
            ·refine DX.skip 28 536870911 (by kernel_rfl) rfl rfl rfl rfl rfl rfl rfl rfl ?_
             refine DX.skip 29 1073741823 (by kernel_rfl) rfl rfl rfl rfl rfl rfl rfl rfl ?_
             refine DX.skip 30 2147483647 (by kernel_rfl) rfl rfl rfl rfl rfl rfl rfl rfl ?_
             refine DX.skip 31 4294967295 (by kernel_rfl) rfl rfl rfl rfl rfl rfl rfl rfl ?_
             refine DX.skip 32 8589934591 (by kernel_rfl) rfl rfl rfl rfl rfl rfl rfl rfl ?_
             refine DX.skip 33 17179869183 (by kernel_rfl) rfl rfl rfl rfl rfl rfl rfl rfl ?_
             refine DX.skip 34 34359738367 (by kernel_rfl) rfl rfl rfl rfl rfl rfl rfl rfl ?_
             refine DX.skip 35 68719476735 (by kernel_rfl) rfl rfl rfl rfl rfl rfl rfl rfl ?_
             refine DX.skip 36 137438953471 (by kernel_rfl) rfl rfl rfl rfl rfl rfl rfl rfl ?_
             refine DX.skip 37 274877906943 (by kernel_rfl) rfl rfl rfl rfl rfl rfl rfl rfl ?_
             refine DX.skip 38 549755813887 (by kernel_rfl) rfl rfl rfl rfl rfl rfl rfl rfl ?_
             refine DX.skip 39 1099511627775 (by kernel_rfl) rfl rfl rfl rfl rfl rfl rfl rfl ?_
             refine DX.skip 40 2199023255551 (by kernel_rfl) rfl rfl rfl rfl rfl rfl rfl rfl ?_
             refine DX.skip 41 4398046511103 (by kernel_rfl) rfl rfl rfl rfl rfl rfl rfl rfl ?_
             refine DX.takeW 42 8796093022207 (by kernel_rfl) rfl rfl rfl rfl rfl (yw_pickT rfl rfl rfl) ?_
             refine DX.done (by kernel_rfl) (XX.next (V' := [(1, _), (3, _), (89, _)]) ⟨rfl, rfl, rfl, trivial⟩ ?_)
             refine CX.condT rfl ?_
             refine CX.seq ?_
             refine CX.region ?_
             refine RX.cons rfl rfl (op_w (yw_assign rfl rfl) rfl rfl ?_)
             refine RX.nil (XX.next (V' := [(2, .bool false)]) ⟨rfl, trivial⟩ ?_)
             refine CX.ret ?_
             refine XX.block_ret ?_
             refine XX.then_ret ?_
             refine XX.then_ret ?_
             refine XX.block_ret ?_
             refine XX.then_ret ?_
             exact ret_tmp rfl rfl fun w1 hw => ⟨by rw [okS_bad (by rw [hok, drop_cons hx0, okLs_cons, okL_false6 (.inr (.inr (.inr (.inr d74))))]; rfl)], hw.sub (List.nil_sublist _)⟩
            ·refine DX.takeWG 28 536870911 (by kernel_rfl) rfl rfl rfl rfl rfl rfl rfl rfl (yw_move rfl rfl) ?_
             refine DX.takeWG 29 1073741823 (by kernel_rfl) rfl rfl rfl rfl rfl rfl rfl rfl (yw_gtr rfl rfl rfl) ?_
             refine DX.takeWG 30 2147483647 (by kernel_rfl) rfl rfl rfl rfl rfl rfl rfl rfl (yw_move rfl rfl) ?_
             refine DX.splitD (t := 77) (p := 0 < ((i : Nat) : Int)) rfl (fun d77 => ?_) (fun d77 => ?_)
             ·obtain ⟨y0, hy0⟩ := get_some (l := s.ls) (k := i - 1) (by omega)
              refine DX.takeWG 31 4294967295 (by kernel_rfl) rfl rfl rfl rfl rfl rfl rfl rfl (yw_field0 rfl fld_77_0 rfl) ?_
              refine DX.takeG 32 8589934591 (by kernel_rfl) rfl rfl rfl rfl rfl rfl rfl rfl (List.Sublist.refl _) (y_load (i := 0) rfl rfl one_3 rfl rfl) ?_
              refine DX.takeWG 33 17179869183 (by kernel_rfl) rfl rfl rfl rfl rfl rfl rfl rfl (yw_fieldAddr rfl fld_25_2 rfl) ?_
              refine DX.takeG 34 34359738367 (by kernel_rfl) rfl rfl rfl rfl rfl rfl rfl rfl (List.Sublist.refl _) (y_load (i := 1) rfl rfl one_23 rfl rfl) ?_
              refine DX.takeWG 35 68719476735 (by kernel_rfl) rfl rfl rfl rfl rfl rfl rfl rfl (yw_move rfl rfl) ?_
              refine DX.takeWG 36 137438953471 (by kernel_rfl) rfl rfl rfl rfl rfl rfl rfl rfl (yw_sub rfl rfl rfl (by omega) (by omega)) ?_
              refine DX.takeWG 37 274877906943 (by kernel_rfl) rfl rfl rfl rfl rfl rfl rfl rfl (yw_index (k := (i - 1)) rfl slt_23 rfl rfl (by omega) (by omega) hA) ?_
              refine DX.takeWG 38 549755813887 (by kernel_rfl) rfl rfl rfl rfl rfl rfl rfl rfl (yw_field0 rfl fld_77_0 rfl) ?_
              refine DX.takeG 39 1099511627775 (by kernel_rfl) rfl rfl rfl rfl rfl rfl rfl rfl (List.Sublist.refl _) (y_elemF (j := 0) rfl rfl one_3 hr (by simp) (map_get hy0) rfl) ?_
              refine DX.takeWG 40 2199023255551 (by kernel_rfl) rfl rfl rfl rfl rfl rfl rfl rfl (yw_leq rfl rfl rfl) ?_
              refine DX.takeWG 41 4398046511103 (by kernel_rfl) rfl rfl rfl rfl rfl rfl rfl rfl (yw_pickT rfl rfl rfl) ?_
              refine DX.takeW 42 8796093022207 (by kernel_rfl) rfl rfl rfl rfl rfl (yw_pickF rfl rfl rfl) ?_
              refine DX.done (by kernel_rfl) (XX.next (V' := [(1, _), (3, _), (89, _)]) ⟨rfl, rfl, rfl, trivial⟩ ?_)
              refine CX.condD (p := Ln.p x0 ≤ Ln.p y0) rfl (fun c89 => ?_) (fun c89 => ?_)
              ·refine CX.seq ?_
               refine CX.region ?_
               refine RX.cons rfl rfl (op_w (yw_assign rfl rfl) rfl rfl ?_)
               refine RX.nil (XX.next (V' := [(2, .bool false)]) ⟨rfl, trivial⟩ ?_)
               refine CX.ret ?_
               refine XX.block_ret ?_
               refine XX.then_ret ?_
               refine XX.then_ret ?_
               refine XX.block_ret ?_
               refine XX.then_ret ?_
               exact ret_tmp rfl rfl fun w1 hw => ⟨by rw [okS_bad (by rw [hok, drop_cons hx0, okLs_cons, okL_false6 (.inl (by have := hprev y0 (by omega) hy0; omega))]; rfl)], hw.sub (List.nil_sublist _)⟩
              ·refine CX.skip (XX.inBlock (V' := [(1, _), (3, _)]) ⟨rfl, rfl, trivial⟩ ?_)
               refine XX.next (V' := [(1, _), (3, _)]) ⟨rfl, rfl, trivial⟩ ?_
               refine CX.region ?_
               refine RX.cons rfl rfl (op_w (yw_move rfl rfl) rfl rfl ?_)
               refine RX.cons rfl rfl (op_w (yw_add rfl rfl rfl (by omega) (by omega)) rfl rfl ?_)
               refine RX.cons rfl rfl (op_w (yw_assign rfl rfl) rfl rfl ?_)
               refine RX.nil (XX.againP ([.blk gl (.cells (lnC x0) 77 (0, 0))]) (i + 1, Ln.p x0) (by dsimp only; omega) ⟨by dsimp only; omega, by rw [hok, drop_cons hx0, okLs_cons, okL_true6 (by have := hprev y0 (by omega) hy0; omega) (by omega) (by simpa using d61) (by simpa using d67) d74, Bool.true_and], by dsimp only; omega, by dsimp only; intro h; omega, by dsimp only; intro y _ hy; rw [Nat.add_sub_cancel, hx0] at hy; injection hy with hy; rw [hy]⟩ ⟨rfl, rfl, trivial⟩ ((perm_pick 1 rfl).trans (List.Perm.cons _ (List.Perm.refl _))))
             ·refine DX.skip 31 4294967295 (by kernel_rfl) rfl rfl rfl rfl rfl rfl rfl rfl ?_
              refine DX.skip 32 8589934591 (by kernel_rfl) rfl rfl rfl rfl rfl rfl rfl rfl ?_
              refine DX.skip 33 17179869183 (by kernel_rfl) rfl rfl rfl rfl rfl rfl rfl rfl ?_
              refine DX.skip 34 34359738367 (by kernel_rfl) rfl rfl rfl rfl rfl rfl rfl rfl ?_
              refine DX.skip 35 68719476735 (by kernel_rfl) rfl rfl rfl rfl rfl rfl rfl rfl ?_
              refine DX.skip 36 137438953471 (by kernel_rfl) rfl rfl rfl rfl rfl rfl rfl rfl ?_
              refine DX.skip 37 274877906943 (by kernel_rfl) rfl rfl rfl rfl rfl rfl rfl rfl ?_
              refine DX.skip 38 549755813887 (by kernel_rfl) rfl rfl rfl rfl rfl rfl rfl rfl ?_
              refine DX.skip 39 1099511627775 (by kernel_rfl) rfl rfl rfl rfl rfl rfl rfl rfl ?_
              refine DX.skip 40 2199023255551 (by kernel_rfl) rfl rfl rfl rfl rfl rfl rfl rfl ?_
              refine DX.takeWG 41 4398046511103 (by kernel_rfl) rfl rfl rfl rfl rfl rfl rfl rfl (yw_pickF rfl rfl rfl) ?_
              refine DX.takeW 42 8796093022207 (by kernel_rfl) rfl rfl rfl rfl rfl (yw_pickF rfl rfl rfl) ?_
              refine DX.done (by kernel_rfl) (XX.next (V' := [(1, _), (3, _), (89, _)]) ⟨rfl, rfl, rfl, trivial⟩ ?_)
              refine CX.condF rfl ?_
              refine CX.skip (XX.inBlock (V' := [(1, _), (3, _)]) ⟨rfl, rfl, trivial⟩ ?_)
              refine XX.next (V' := [(1, _), (3, _)]) ⟨rfl, rfl, trivial⟩ ?_
              refine CX.region ?_
              refine RX.cons rfl rfl (op_w (yw_move rfl rfl) rfl rfl ?_)
              refine RX.cons rfl rfl (op_w (yw_add rfl rfl rfl (by omega) (by omega)) rfl rfl ?_)
              refine RX.cons rfl rfl (op_w (yw_assign rfl rfl) rfl rfl ?_)
              refine RX.nil (XX.againP ([.blk gl (.cells (lnC x0) 77 (0, 0))]) (i + 1, Ln.p x0) (by dsimp only; omega) ⟨by dsimp only; omega, by rw [hok, drop_cons hx0, okLs_cons, okL_true6 (by have := hzero (by omega); omega) (by omega) (by simpa using d61) (by simpa using d67) d74, Bool.true_and], by dsimp only; omega, by dsimp only; intro h; omega, by dsimp only; intro y _ hy; rw [Nat.add_sub_cancel, hx0] at hy; injection hy with hy; rw [hy]⟩ ⟨rfl, rfl, trivial⟩ ((perm_pick 1 rfl).trans (List.Perm.cons _ (List.Perm.refl _))))
       ·refine CX.exit ?_
        refine XX.then_exit ?_
        refine XX.then_exit ?_
        refine XX.block_exit ?_
        refine XX.next (V' := []) trivial ?_
        refine CX.seq ?_
        refine CX.region ?_
        refine RX.cons rfl rfl (op_w (yw_assign rfl rfl) rfl rfl ?_)
        refine RX.nil (XX.next (V' := [(2, .bool true)]) ⟨rfl, trivial⟩ ?_)
        refine CX.ret ?_
        exact ret_tmp rfl rfl fun w1 hw => ⟨by rw [okS_all (by rw [hok, List.drop_eq_nil_of_le (by omega)]; rfl) (by omega) (by omega) (by omega) (by omega) (by omega)], hw.sub (List.nil_sublist _)⟩

end Go.Proofs.YtnadipjlhlbfoaaGreatDoor
namespace Go.Proofs.YtnadipjlhlbfoaaGreatDoor
set_option linter.all false
open Go Go.RowKit
set_option maxRecDepth 100000
theorem ent_58 : ∀ args w, (callFunc 58 args).run Tryz.prog w = .ok (.enter 58 args) w := enters_of Tryz.func58 (by kernel_rfl) rfl
theorem ent_59 : ∀ args w, (callFunc 59 args).run Tryz.prog w = .ok (.enter 59 args) w := enters_of Tryz.func59 (by kernel_rfl) rfl
set_option maxRecDepth 100000 in
theorem w_encode19 {w : World} {A : Option Addr} {cap : Nat} (s : Stm) (hr : Rd w A 3 (s.ls.map lnC)) (hl : s.ls.length ≤ 1000000) :
    Calls Tryz.prog 27 #[.agg (#[.int .i64 (Stm.h s), .int .i64 (Stm.c s), .slice A (List.length (Stm.ls s)) cap])] w (fun e w' => e = .returned (encR s) ∧ SL w [] w' []) := by
 refine calls_of_CX (O := []) (L := []) (args := [.agg (#[.int .i64 (Stm.h s), .int .i64 (Stm.c s), .slice A (List.length (Stm.ls s)) cap])]) Tryz.func27 rfl (by simp [Tryz.ntmps27]) (SL.refl w) ?_
 refine CX.sub (V' := [(0, .agg (#[.int .i64 (Stm.h s), .int .i64 (Stm.c s), .slice A (List.length (Stm.ls s)) cap]))]) ⟨rfl, trivial⟩ ?_
 refine CX.seq ?_
 refine CX.region ?_
 refine RX.cons rfl rfl (op_box rfl rfl rfl rfl fun gs => ?_)
 refine RX.cons rfl rfl (op_w (yw_assign rfl rfl) rfl rfl ?_)
 refine RX.cons rfl rfl (op_w (yw_assign rfl rfl) rfl rfl ?_)
 refine RX.nil (XX.next (V' := [(1, _)]) ⟨rfl, trivial⟩ ?_)
 refine CX.seq ?_
 refine CX.region ?_
 refine RX.cons rfl rfl (op_yld (y_loadA (i := 0) rfl rfl agg_25 rfl rfl) rfl rfl ?_)
 refine RX.cons rfl rfl (op_callV (v := .bool (okS s)) rfl rfl rfl rfl rfl ent_58 (fun w hw => w_valid19 s (hw.rd hr (by simp)) hl) ?_)
 refine RX.cons rfl rfl (op_w (yw_assign rfl rfl) rfl rfl ?_)
 refine RX.nil (XX.next (V' := [(1, _), (4, _)]) ⟨rfl, rfl, trivial⟩ ?_)
 refine CX.seq ?_
 refine CX.seq ?_
 refine CX.region ?_
 refine RX.cons rfl rfl (op_w (yw_move rfl rfl) rfl rfl ?_)
 refine RX.cons rfl rfl (op_w (yw_not rfl rfl) rfl rfl ?_)
 refine RX.nil (XX.next (V' := [(1, _), (14, _)]) ⟨rfl, rfl, trivial⟩ ?_)
 refine CX.cond (b := !(okS s)) rfl (fun c14 => ?_) (fun c14 => ?_)
 ·refine CX.seq ?_
  refine CX.region ?_
  refine RX.cons rfl rfl (op_w (yw_assign rfl rfl) rfl rfl ?_)
  refine RX.cons rfl rfl (op_w (yw_assign rfl rfl) rfl rfl ?_)
  refine RX.nil (XX.next (V' := [(2, .string .empty), (3, .int .i64 190)]) ⟨rfl, rfl, trivial⟩ ?_)
  refine CX.ret ?_
  refine XX.then_ret ?_
  exact ret_tmp2 rfl rfl rfl fun w1 hw => ⟨by rw [encR_bad (by simpa using c14)], hw.sub (List.nil_sublist _)⟩
 ·refine CX.skip (XX.next (V' := [(1, _)]) ⟨rfl, trivial⟩ ?_)
  refine CX.seq ?_
  have hok : okS s = true := by simpa using c14
  have hlen := okS_len hok
  have hnum := okS_nums hok
  refine CX.region ?_
  refine RX.cons rfl rfl (op_w (yw_field0 rfl fld_25_0 rfl) rfl rfl ?_)
  refine RX.cons rfl rfl (op_yld (y_load (i := 0) rfl rfl one_3 rfl rfl) rfl rfl ?_)
  refine RX.cons rfl rfl (op_w (yw_fieldAddr rfl fld_25_1 rfl) rfl rfl ?_)
  refine RX.cons rfl rfl (op_yld (y_load (i := 0) rfl rfl one_3 rfl rfl) rfl rfl ?_)
  refine RX.cons rfl rfl (op_w (yw_fieldAddr rfl fld_25_2 rfl) rfl rfl ?_)
  refine RX.cons rfl rfl (op_yld (y_load (i := 0) rfl rfl one_23 rfl rfl) rfl rfl ?_)
  refine RX.cons rfl rfl (op_w (yw_lenS rfl Tryz.underlying23 rfl) rfl rfl ?_)
  refine RX.cons rfl rfl (op_buildSlice rfl rfl rfl slb_43 rfl rfl (by intro v hv; simp only [List.mem_cons, List.not_mem_nil, or_false] at hv; rcases hv with rfl | rfl | rfl <;> exact ⟨rfl, (plain_of rfl)⟩) (by decide) fun g7 => ?_)
  refine RX.cons rfl rfl (op_w (yw_assign rfl rfl) rfl rfl ?_)
  refine RX.nil (XX.next (V' := [(1, _), (5, _)]) ⟨rfl, rfl, trivial⟩ ?_)
  refine CX.seq ?_
  refine CX.seq ?_
  refine CX.region ?_
  refine RX.cons rfl rfl (op_w (yw_assign rfl rfl) rfl rfl ?_)
  refine RX.nil (XX.next (V' := [(1, _), (5, _), (6, _)]) ⟨rfl, rfl, rfl, trivial⟩ ?_)
  refine CX.block ?_
  refine CX.loop (σ := Nat × (Option Addr × Nat) × List Int) (fun z => [(1, .pointer (some ⟨gs, 0, none⟩)), (5, .slice z.2.1.1 (List.length (z.2.2 : List Int)) z.2.1.2), (6, .int .i64 ((z.1 : Nat) : Int))]) (fun z => [.row z.2.1.1 z.2.1.2 3 1 (List.map iC z.2.2), .blk gs (.cells (#[.int .i64 (Stm.h s), .int .i64 (Stm.c s), .slice A (List.length (Stm.ls s)) cap]) 25 (0, 0))]) (fun z => z.1 ≤ s.ls.length ∧ z.2.2 = [Stm.h s, Stm.c s, ((List.length (Stm.ls s) : Nat) : Int)] ++ numsL (s.ls.take z.1)) (fun z => s.ls.length - z.1) (0, (some ⟨g7, 0, none⟩, 3), [Stm.h s, Stm.c s, ((List.length (Stm.ls s) : Nat) : Int)]) ⟨Nat.zero_le _, rfl⟩ ⟨rfl, rfl, rfl, trivial⟩ rfl (fun z hI => ?_)
  obtain ⟨i, ⟨A1, c1⟩, ns⟩ := z
  dsimp only at hI ⊢
  obtain ⟨hi, hns⟩ := hI
  have hnl : ns.length = 3 + 3 * i := by rw [hns, List.length_append, numsL_length, List.length_take]; simp; omega
  refine CX.seq ?_
  refine CX.seq ?_
  refine CX.region ?_
  refine RX.cons rfl rfl (op_w (yw_move rfl rfl) rfl rfl ?_)
  refine RX.cons rfl rfl (op_w (yw_fieldAddr rfl fld_25_2 rfl) rfl rfl ?_)
  refine RX.cons rfl rfl (op_yld (y_load (i := 1) rfl rfl one_23 rfl rfl) rfl rfl ?_)
  refine RX.cons rfl rfl (op_w (yw_lenS rfl Tryz.underlying23 rfl) rfl rfl ?_)
  refine RX.cons rfl rfl (op_w (yw_lss rfl rfl rfl) rfl rfl ?_)
  refine RX.nil (XX.next (V' := [(1, _), (5, _), (6, _), (27, _)]) ⟨rfl, rfl, rfl, rfl, trivial⟩ ?_)
  refine CX.condD (p := ((i : Nat) : Int) < ((List.length (Stm.ls s) : Nat) : Int)) rfl (fun c27 => ?_) (fun c27 => ?_)
  ·obtain ⟨x0, hx0⟩ := get_some (l := s.ls) (k := i) (by omega)
   have hA : ∃ b j, A = some ⟨b, j, none⟩ := hr.some (k := 0) (by simp; omega)
   refine CX.skip (XX.next (V' := [(1, _), (5, _), (6, _)]) ⟨rfl, rfl, rfl, trivial⟩ ?_)
   refine CX.seq ?_
   refine CX.block ?_
   refine CX.draw 20 [(0, 32, 1073741824), (0, 2, 2147483648), (2, 2147483648, 4294967296), (0, 64, 8589934592), (12, 12884901888, 17179869184), (16, 17179869184, 34359738368), (32, 34359738368, 68719476736), (0, 2, 137438953472), (128, 137438953472, 274877906944), (0, 64, 549755813888), (768, 824633720832, 1099511627776), (1024, 1099511627776, 2199023255552), (2048, 2199023255552, 4398046511104), (0, 2, 8796093022208), (8192, 8796093022208, 17592186044416), (0, 64, 35184372088832), (49152, 52776558133248, 70368744177664), (65536, 70368744177664, 140737488355328), (131072, 140737488355328, 281474976710656), (266304, 285941742698496, 562949953421312), (524289, 562951027163136, 1125899906842624), (2097151, 1125899906842624, 32)] (by kernel_rfl) (by kernel_rfl) (by kernel_rfl) ?_
   refine DX.takeW 0 1 (by kernel_rfl) rfl rfl rfl rfl rfl (yw_move rfl rfl) ?_
   refine DX.takeW 1 3 (by kernel_rfl) rfl rfl rfl rfl rfl (yw_fieldAddr rfl fld_25_2 rfl) ?_
   refine DX.take 2 7 (by kernel_rfl) rfl rfl rfl rfl rfl (List.Sublist.refl _) (y_load (i := 1) rfl rfl one_23 rfl rfl) ?_
   refine DX.takeW 3 15 (by kernel_rfl) rfl rfl rfl rfl rfl (yw_move rfl rfl) ?_
   refine DX.takeW 4 31 (by kernel_rfl) rfl rfl rfl rfl rfl (yw_index (k := i) rfl slt_23 rfl rfl (by omega) (by omega) hA) ?_
   refine DX.takeW 5 63 (by kernel_rfl) rfl rfl rfl rfl rfl (yw_field0 rfl fld_77_0 rfl) ?_
   refine DX.take 6 127 (by kernel_rfl) rfl rfl rfl rfl rfl (List.Sublist.refl _) (y_elemF (j := 0) rfl rfl one_3 hr (by simp) (map_get hx0) rfl) ?_
   refine DX.takeW 7 255 (by kernel_rfl) rfl rfl rfl rfl rfl (yw_fieldAddr rfl fld_25_2 rfl) ?_
   refine DX.take 8 511 (by kernel_rfl) rfl rfl rfl rfl rfl (List.Sublist.refl _) (y_load (i := 1) rfl rfl one_23 rfl rfl) ?_
   refine DX.takeW 9 1023 (by kernel_rfl) rfl rfl rfl rfl rfl (yw_move rfl rfl) ?_
   refine DX.takeW 10 2047 (by kernel_rfl) rfl rfl rfl rfl rfl (yw_index (k := i) rfl slt_23 rfl rfl (by omega) (by omega) hA) ?_
   refine DX.takeW 11 4095 (by kernel_rfl) rfl rfl rfl rfl rfl (yw_fieldAddr rfl fld_77_1 rfl) ?_
   refine DX.take 12 8191 (by kernel_rfl) rfl rfl rfl rfl rfl (List.Sublist.refl _) (y_elemF rfl rfl one_3 hr (by simp) (map_get hx0) rfl) ?_
   refine DX.takeW 13 16383 (by kernel_rfl) rfl rfl rfl rfl rfl (yw_fieldAddr rfl fld_25_2 rfl) ?_
   refine DX.take 14 32767 (by kernel_rfl) rfl rfl rfl rfl rfl (List.Sublist.refl _) (y_load (i := 1) rfl rfl one_23 rfl rfl) ?_
   refine DX.takeW 15 65535 (by kernel_rfl) rfl rfl rfl rfl rfl (yw_move rfl rfl) ?_
   refine DX.takeW 16 131071 (by kernel_rfl) rfl rfl rfl rfl rfl (yw_index (k := i) rfl slt_23 rfl rfl (by omega) (by omega) hA) ?_
   refine DX.takeW 17 262143 (by kernel_rfl) rfl rfl rfl rfl rfl (yw_fieldAddr rfl fld_77_2 rfl) ?_
   refine DX.take 18 524287 (by kernel_rfl) rfl rfl rfl rfl rfl (List.Sublist.refl _) (y_elemF rfl rfl one_3 hr (by simp) (map_get hx0) rfl) ?_
   refine DX.step 19 1048575 (by kernel_rfl) rfl rfl rfl (op_buildSlice rfl rfl rfl slb_43 rfl rfl (by intro v hv; simp only [List.mem_cons, List.not_mem_nil, or_false] at hv; rcases hv with rfl | rfl | rfl <;> exact ⟨rfl, (plain_of rfl)⟩) (by decide) fun g9 => (DXs.mk (List.Sublist.cons _ (List.Sublist.refl _)) ?_))
   refine DX.stepT 20 2097151 (by kernel_rfl) rfl rfl rfl rfl (op_appendM iC (i := 1) (j := 0) (xs := ns) ([Ln.p x0, Ln.b x0, Ln.a x0]) rfl rfl rfl slb_43 rfl rfl rfl rfl rfl rfl (by simp only [List.length_cons, List.length_nil]; omega) (by simp only [List.length_cons, List.length_nil]; omega) fun A2 c2 => ?_)
   refine DX.takeW 21 4194303 (by kernel_rfl) rfl rfl rfl rfl rfl (yw_assign rfl rfl) ?_
   refine DX.done (by kernel_rfl) (XX.inBlock (V' := [(1, _), (5, _), (6, _)]) ⟨rfl, rfl, rfl, trivial⟩ ?_)
   refine XX.next (V' := [(1, _), (5, _), (6, _)]) ⟨rfl, rfl, rfl, trivial⟩ ?_
   refine CX.region ?_
   refine RX.cons rfl rfl (op_w (yw_move rfl rfl) rfl rfl ?_)
   refine RX.cons rfl rfl (op_w (yw_add rfl rfl rfl (by omega) (by omega)) rfl rfl ?_)
   refine RX.cons rfl rfl (op_w (yw_assign rfl rfl) rfl rfl ?_)
   refine RX.nil (XX.againP ([.row (some ⟨g9, 0, none⟩) 3 3 1 (List.map iC ([Ln.p x0, Ln.b x0, Ln.a x0]))]) (i + 1, (A2, c2), ns ++ [Ln.p x0, Ln.b x0, Ln.a x0]) (by dsimp only; omega) ⟨by dsimp only; omega, by dsimp only; rw [hns, numsL_succ hx0, List.append_assoc]⟩ ⟨rfl, rfl, rfl, trivial⟩ ((perm_pick 1 rfl).trans (List.Perm.cons _ ((perm_pick 1 rfl).trans (List.Perm.cons _ (List.Perm.refl _))))))
  ·have hns' : ns = ([Stm.h s, Stm.c s, ((List.length (Stm.ls s) : Nat) : Int)] ++ numsL s.ls) := by rw [hns, List.take_of_length_le (by omega)]
   refine CX.exit ?_
   refine XX.then_exit ?_
   refine XX.then_exit ?_
   refine XX.block_exit ?_
   refine XX.next (V' := [(5, _)]) ⟨rfl, trivial⟩ ?_
   refine CX.seq ?_
   refine CX.region ?_
   refine RX.cons rfl rfl (op_w (yw_assign rfl rfl) rfl rfl ?_)
   refine RX.nil (XX.next (V' := [(5, _), (7, _)]) ⟨rfl, rfl, trivial⟩ ?_)
   refine CX.seq ?_
   refine CX.seq ?_
   refine CX.region ?_
   refine RX.cons rfl rfl (op_w (yw_assign rfl rfl) rfl rfl ?_)
   refine RX.nil (XX.next (V' := [(5, _), (7, _), (8, _)]) ⟨rfl, rfl, rfl, trivial⟩ ?_)
   refine CX.block ?_
   refine CX.loop (σ := Nat) (fun j => [(5, .slice A1 (List.length (ns : List Int)) c1), (7, .string (⟨(putL (ns.take j)).toArray⟩)), (8, .int .i64 ((j : Nat) : Int))]) (fun j => [.row A1 c1 3 1 (List.map iC ns), .blk gs (.cells (#[.int .i64 (Stm.h s), .int .i64 (Stm.c s), .slice A (List.length (Stm.ls s)) cap]) 25 (0, 0))]) (fun j => j ≤ ns.length) (fun j => ns.length - j) 0 (Nat.zero_le _) ⟨rfl, rfl, rfl, trivial⟩ rfl (fun j hI => ?_)
   refine CX.seq ?_
   refine CX.seq ?_
   refine CX.region ?_
   refine RX.cons rfl rfl (op_w (yw_move rfl rfl) rfl rfl ?_)
   refine RX.cons rfl rfl (op_w (yw_move rfl rfl) rfl rfl ?_)
   refine RX.cons rfl rfl (op_w (yw_lenS rfl Tryz.underlying43 rfl) rfl rfl ?_)
   refine RX.cons rfl rfl (op_w (yw_lss rfl rfl rfl) rfl rfl ?_)
   refine RX.nil (XX.next (V' := [(5, _), (7, _), (8, _), (54, _)]) ⟨rfl, rfl, rfl, rfl, trivial⟩ ?_)
   refine CX.condD (p := ((j : Nat) : Int) < ((List.length (ns : List Int) : Nat) : Int)) rfl (fun c54 => ?_) (fun c54 => ?_)
   ·obtain ⟨n0, hn0⟩ := get_some (l := ns) (k := j) (by omega)
    obtain ⟨hn1, hn2⟩ := hnum n0 (by rw [← hns']; exact List.mem_of_getElem? hn0)
    refine CX.rowSome 0 rfl (by simp; omega) (fun hAn => ?_)
    have hpl := putL_le (ns.take j)
    rw [List.length_take] at hpl
    have hel := encI_le n0.toNat
    refine CX.skip (XX.next (V' := [(5, _), (7, _), (8, _)]) ⟨rfl, rfl, rfl, trivial⟩ ?_)
    refine CX.seq ?_
    refine CX.block ?_
    refine CX.seq ?_
    refine CX.region ?_
    refine RX.cons rfl rfl (op_w (yw_move rfl rfl) rfl rfl ?_)
    refine RX.cons rfl rfl (op_w (yw_move rfl rfl) rfl rfl ?_)
    refine RX.cons rfl rfl (op_w (yw_index (k := j) rfl slt_43 rfl rfl (by omega) (by omega) hAn) rfl rfl ?_)
    refine RX.cons rfl rfl (op_yld (y_rowElem1 (i := 0) rfl rfl one_3 rfl (map_get hn0)) rfl rfl ?_)
    refine RX.know (t := 61) (u := .int .i64 ((n0.toNat : Nat) : Int)) rfl (congrArg (Value.int .i64) (by omega)) ?_
    refine RX.cons rfl rfl (op_callV (v := .tuple #[.string (⟨List.toArray (encI n0.toNat)⟩), .int .i64 0]) rfl rfl rfl rfl rfl ent_59 (fun w hw => w_putInt01 n0.toNat (by omega)) ?_)
    refine RX.cons rfl rfl (op_w (yw_move rfl rfl) rfl rfl ?_)
    refine RX.cons rfl rfl (op_w (yw_extract rfl rfl rfl) rfl rfl ?_)
    refine RX.cons rfl rfl (op_w (yw_extract rfl rfl rfl) rfl rfl ?_)
    refine RX.cons rfl rfl (op_w (yw_assign rfl rfl) rfl rfl ?_)
    refine RX.cons rfl rfl (op_w (yw_assign rfl rfl) rfl rfl ?_)
    refine RX.nil (XX.next (V' := [(5, _), (7, _), (8, _), (9, _)]) ⟨rfl, rfl, rfl, rfl, trivial⟩ ?_)
    refine CX.region ?_
    refine RX.cons rfl rfl (op_w (yw_move rfl rfl) rfl rfl ?_)
    refine RX.cons rfl rfl (op_w (yw_move rfl rfl) rfl rfl ?_)
    refine RX.cons rfl rfl (op_w (yw_stradd rfl rfl rfl (by simp only [ByteArray.size, List.size_toArray]; omega)) rfl rfl ?_)
    refine RX.know (t := 67) (u := .string (⟨(putL (ns.take (j + 1))).toArray⟩)) rfl (congrArg Value.string (cat_put hn0)) ?_
    refine RX.cons rfl rfl (op_w (yw_assign rfl rfl) rfl rfl ?_)
    refine RX.nil (XX.inBlock (V' := [(5, _), (7, _), (8, _)]) ⟨rfl, rfl, rfl, trivial⟩ ?_)
    refine XX.next (V' := [(5, _), (7, _), (8, _)]) ⟨rfl, rfl, rfl, trivial⟩ ?_
    refine CX.region ?_
    refine RX.cons rfl rfl (op_w (yw_move rfl rfl) rfl rfl ?_)
    refine RX.cons rfl rfl (op_w (yw_add rfl rfl rfl (by omega) (by omega)) rfl rfl ?_)
    refine RX.cons rfl rfl (op_w (yw_assign rfl rfl) rfl rfl ?_)
    refine RX.nil (XX.againP ([]) (j + 1) (by omega) (by omega) ⟨rfl, rfl, rfl, trivial⟩ ((perm_pick 0 rfl).trans (List.Perm.cons _ ((perm_pick 0 rfl).trans (List.Perm.cons _ (List.Perm.refl _))))))
   ·refine CX.exit ?_
    refine XX.then_exit ?_
    refine XX.then_exit ?_
    refine XX.block_exit ?_
    refine XX.next (V' := [(7, _)]) ⟨rfl, trivial⟩ ?_
    refine CX.seq ?_
    refine CX.region ?_
    refine RX.cons rfl rfl (op_w (yw_move rfl rfl) rfl rfl ?_)
    refine RX.cons rfl rfl (op_w (yw_assign rfl rfl) rfl rfl ?_)
    refine RX.cons rfl rfl (op_w (yw_assign rfl rfl) rfl rfl ?_)
    refine RX.nil (XX.next (V' := [(2, .string (⟨(putL (ns.take j)).toArray⟩)), (3, .int .i64 0)]) ⟨rfl, rfl, trivial⟩ ?_)
    refine CX.ret ?_
    exact ret_tmp2 rfl rfl rfl fun w1 hw => ⟨by rw [encR_ok hok, encL_nums, ← hns', List.take_of_length_le (by omega)], hw.sub (List.nil_sublist _)⟩

end Go.Proofs.YtnadipjlhlbfoaaGreatDoor
namespace Go.Proofs.YtnadipjlhlbfoaaGreatDoor
set_option linter.all false
open Go Go.RowKit
set_option maxRecDepth 100000
theorem logE_blocks (g : Nat) (z : LZ) (X : List SX) : [logE g z X].flatMap Ent.blocks = (logTop g z X ++ lns X).flatMap Ent.blocks := by
  rw [List.flatMap_cons, List.flatMap_nil, List.append_nil]; rfl
theorem SL.logOpen {w0 w : World} {O : List Nat} {L : List Ent} {g : Nat} {z : LZ} {X : List SX} (h : SL w0 O w (logE g z X :: L)) : SL w0 O w (logTop g z X ++ (lns X ++ L)) := by
  have := SL.unpack (es := logTop g z X ++ lns X) h
  rwa [List.append_assoc] at this
theorem SL.logShut {w0 w : World} {O : List Nat} {L : List Ent} {g : Nat} {z : LZ} {X : List SX} (h : SL w0 O w (logTop g z X ++ (lns X ++ L))) : SL w0 O w (logE g z X :: L) :=
  SL.pack (es := logTop g z X ++ lns X) (by rwa [List.append_assoc])
theorem lns_append (X Y : List SX) : lns (X ++ Y) = lns X ++ lns Y := by simp [lns]
/-- What a log's Append leaves. -/
theorem logGrown {w0 w : World} {O : List Nat} {g : Nat} {z : LZ} {X0 X : List SX} {Y : List SX} {es : List ByteArray} {h : ByteArray} (hY : Y.map (·.2) = X.map (·.2)) (e1 : es = entsX X0 ++ entsF (headX X0) (X.map (fun x : SX => encS x.2))) (e2 : h = headF (headX X0) (X.map (fun x : SX => encS x.2)))
    (hw : SL w0 O w ([.blk g (.cells #[.slice z.1.1 (X0 ++ Y).length z.1.2, .slice z.2.1 es.length z.2.2, .string h] 58 (0, 0)), .row z.1.1 z.1.2 25 3 (List.map stC (X0 ++ Y)), .row z.2.1 z.2.2 9 1 (List.map strC es), pack (lns Y)] ++ lns X0)) : SL w0 O w [logE g z (X0 ++ Y)] := by
  have ey : encsX Y = X.map (fun x : SX => encS x.2) := by
    have := encsX_of hY
    rw [this]; rfl
  have e1' : es = entsX (X0 ++ Y) := by rw [e1, entsX_append, ey]
  have e2' : h = headX (X0 ++ Y) := by rw [e2, headX_append, ey]
  rw [e1', e2'] at hw
  have h1 : SL w0 O w (pack (lns Y) :: (logTop g z (X0 ++ Y) ++ lns X0)) := hw.perm (perm_pick 3 rfl)
  have h2 := h1.unpack
  have h3 : SL w0 O w (logTop g z (X0 ++ Y) ++ (lns (X0 ++ Y) ++ [])) := h2.perm (by
    rw [List.append_nil, lns_append]
    refine List.perm_append_comm.trans ?_
    rw [List.append_assoc])
  exact h3.logShut
theorem w_newE {w : World} : Calls Tryz.prog 5 #[] w (fun e w' => ∃ g : Nat, True ∧ e = .returned (.pointer (some ⟨g, 0, none⟩)) ∧ SL w [] w' [logE g ((none, 0), (none, 0)) []]) := by
  refine w_new.mono ?_
  rintro e w' ⟨g, _, he, hw⟩
  refine ⟨g, trivial, he, ?_⟩
  have h1 := (hw.rowNil 9 1).rowNil 25 3
  have h2 : SL w [] w' (logTop g ((none, 0), (none, 0)) [] ++ (lns [] ++ [])) := h1.perm (perm_pick 2 rfl)
  exact h2.logShut
theorem w_appendE {w : World} {A : Option Addr} {cap g : Nat} {z : LZ} (X0 X : List SX) (hr : Rd w A 3 (X.map stC)) (hX : ∀ x ∈ X, Rd w x.1.1 3 (x.2.ls.map lnC)) (hAO : X ≠ [] → ab A ∉ [logE g z X0].flatMap Ent.blocks) (hXO : ∀ x ∈ X, x.2.ls ≠ [] → ab x.1.1 ∉ [logE g z X0].flatMap Ent.blocks) (hXl : ∀ x ∈ X, x.2.ls.length ≤ 1000000) (hl : X.length ≤ 1000000) (hs : SL w ([logE g z X0].flatMap Ent.blocks) w [logE g z X0]) (hG : Rounds w) (hg0 : 0 ∉ [logE g z X0].flatMap Ent.blocks) (hok : ∀ x ∈ X, okS x.2 = true) (hlen : X0.length + X.length ≤ 1000000) :
    Calls Tryz.prog 7 #[.pointer (some ⟨g, 0, none⟩), .slice A X.length cap] w (fun e w' => ∃ y : LZ × List SX, y.2.map (·.2) = X.map (·.2) ∧ e = .returned (.int .i64 0) ∧ SL w ([logE g z X0].flatMap Ent.blocks) w' [logE g y.1 (X0 ++ y.2)]) := by
  have h1 : SL w ([logE g z X0].flatMap Ent.blocks) w (logTop g z X0 ++ lns X0) := by have := SL.logOpen (L := []) hs; rwa [List.append_nil] at this
  have hsub : ∀ b, b ∉ [logE g z X0].flatMap Ent.blocks → b ∉ (logTop g z X0).flatMap Ent.blocks := fun b hb h => hb (by rw [logE_blocks, List.flatMap_append]; exact List.mem_append_left _ h)
  refine (w_append X0 (entsX X0) (headX X0) X hr hX (fun h => hsub _ (hAO h)) (fun x hx h => hsub _ (hXO x hx h)) hXl hl (h1.restart (List.Perm.refl _)) hG (hsub _ hg0) hok hlen (entsX_length X0) (by rw [headX_size]; decide)).mono ?_
  rintro e w' ⟨⟨y, Y⟩, hY, he, hw⟩
  refine ⟨(y, Y), hY, he, ?_⟩
  have h2 := SL.call (M := logTop g z X0) (R := lns X0) h1 rfl hw
  exact logGrown hY rfl rfl h2
theorem w_appendBadE {w : World} {A : Option Addr} {cap g : Nat} {z : LZ} (X0 X : List SX) (hr : Rd w A 3 (X.map stC)) (hX : ∀ x ∈ X, Rd w x.1.1 3 (x.2.ls.map lnC)) (hAO : X ≠ [] → ab A ∉ [logE g z X0].flatMap Ent.blocks) (hXO : ∀ x ∈ X, x.2.ls ≠ [] → ab x.1.1 ∉ [logE g z X0].flatMap Ent.blocks) (hXl : ∀ x ∈ X, x.2.ls.length ≤ 1000000) (hl : X.length ≤ 1000000) (hs : SL w ([logE g z X0].flatMap Ent.blocks) w [logE g z X0]) (hbad : ¬ ∀ x ∈ X, okS x.2 = true) :
    Calls Tryz.prog 7 #[.pointer (some ⟨g, 0, none⟩), .slice A X.length cap] w (fun e w' => e = .returned (.int .i64 240) ∧ SL w ([logE g z X0].flatMap Ent.blocks) w' [logE g z X0]) := by
  have h1 : SL w ([logE g z X0].flatMap Ent.blocks) w (logTop g z X0 ++ lns X0) := by have := SL.logOpen (L := []) hs; rwa [List.append_nil] at this
  have hsub : ∀ b, b ∉ [logE g z X0].flatMap Ent.blocks → b ∉ (logTop g z X0).flatMap Ent.blocks := fun b hb h => hb (by rw [logE_blocks, List.flatMap_append]; exact List.mem_append_left _ h)
  refine (w_appendBad X0 (entsX X0) (headX X0) X hr hX (fun h => hsub _ (hAO h)) (fun x hx h => hsub _ (hXO x hx h)) hXl hl (h1.restart (List.Perm.refl _)) hbad).mono ?_
  rintro e w' ⟨he, hw⟩
  refine ⟨he, ?_⟩
  have h2 := SL.call (M := logTop g z X0) (R := lns X0) h1 rfl hw
  rw [← List.append_nil (lns X0)] at h2
  exact h2.logShut
/-- A list of statements that lies apart from the entries M. -/
theorem apartL {w0 w : World} {O : List Nat} {M R : List Ent} (h : SL w0 O w (M ++ R)) (h0 : 0 ∉ M.flatMap Ent.blocks) (i : Nat) {X : List SX} (hq : R[i]? = some (pack (lns X))) : ∀ x ∈ X, ab x.1.1 ∉ M.flatMap Ent.blocks := by
  intro x hx
  cases hA : x.1.1 with
  | none => exact h0
  | some a =>
    refine h.apart i hq (b := a.block) ?_
    rw [pack_blocks]
    exact List.mem_flatMap.2 ⟨_, List.mem_map.2 ⟨x, hx, rfl⟩, by simp [Ent.blocks, hA]⟩
theorem lnsRd {w0 w : World} {O : List Nat} {L : List Ent} (hw : SL w0 O w L) {i : Nat} {X : List SX} (hL : L[i]? = some (pack (lns X))) : ∀ x ∈ X, Rd w x.1.1 3 (x.2.ls.map lnC) :=
  fun x hx => hw.packRd hL (List.mem_map.2 ⟨x, hx, rfl⟩)
end Go.Proofs.YtnadipjlhlbfoaaGreatDoor
namespace Go.Proofs.YtnadipjlhlbfoaaGreatDoor
set_option linter.all false
open Go Go.RowKit
set_option maxRecDepth 100000
/-- At most eight lines of a statement; of the first n statements; the valid ones of these. -/
def cutS (s : Stm) : Stm := ⟨s.h, s.c, s.ls.take 8⟩
def cutL (X : List SX) (n : Nat) : List Stm := (X.take n).map fun x => cutS x.2
def valL (X : List SX) (n : Nat) : List Stm := (cutL X n).filter okS
theorem cutL_short (X : List SX) (n : Nat) : ∀ s ∈ cutL X n, s.ls.length ≤ 8 := by
  intro s hs
  obtain ⟨x, _, rfl⟩ := List.mem_map.1 hs
  simp [cutS]; omega
theorem cutL_length (X : List SX) (n : Nat) : (cutL X n).length ≤ n := by simp [cutL]; omega
theorem valL_ok (X : List SX) (n : Nat) : ∀ s ∈ valL X n, okS s = true := fun s hs => (List.mem_filter.1 hs).2
theorem valL_short (X : List SX) (n : Nat) : ∀ s ∈ valL X n, s.ls.length ≤ 8 := fun s hs => cutL_short X n s (List.mem_filter.1 hs).1
theorem valL_length (X : List SX) (n : Nat) : (valL X n).length ≤ n := Nat.le_trans (List.length_filter_le _ _) (cutL_length X n)
/-- Of statements with their places. -/
theorem of_snd {X : List SX} {l : List Stm} {p : Stm → Prop} (h : X.map (·.2) = l) (hl : ∀ s ∈ l, p s) : ∀ x ∈ X, p x.2 := fun x hx => hl _ (by rw [← h]; exact List.mem_map.2 ⟨x, hx, rfl⟩)
theorem len_snd {X : List SX} {l : List Stm} (h : X.map (·.2) = l) : X.length = l.length := by rw [← h, List.length_map]
theorem lns_sub {X Y : List SX} (h : X.Sublist Y) : (lns X).Sublist (lns Y) := h.map _
theorem packSub {w0 w : World} {O : List Nat} {L : List Ent} {es es' : List Ent} (hs : es'.Sublist es) (h : SL w0 O w (pack es :: L)) : SL w0 O w (pack es' :: L) :=
  SL.pack (h.unpack.sub (hs.append (List.Sublist.refl L)))
theorem filter_snoc {X : List SX} {i : Nat} {x : SX} (p : SX → Bool) (h : X[i]? = some x) : (X.take (i + 1)).filter p = (X.take i).filter p ++ if p x then [x] else [] := by
  rw [take_succ h, List.filter_append]
  cases hp : p x <;> simp [hp]
set_option maxRecDepth 100000 in
theorem w_cut {w : World} {A : Option Addr} {cap : Nat} (X : List SX) (hr : Rd w A 3 (X.map stC)) (hX : ∀ x ∈ X, Rd w x.1.1 3 (x.2.ls.map lnC)) (hXc : ∀ x ∈ X, x.2.ls.length ≤ x.1.2) (hX8 : X.length ≤ 9223372036854775807) (hXl : ∀ x ∈ X, x.2.ls.length ≤ 9223372036854775807) (n : Nat) (hn : n ≤ 1000) :
    Calls Tryz.prog 6 #[.slice A X.length cap, .int .i64 ((n : Nat) : Int)] w (fun e w' => ∃ z : (Option Addr × Nat) × List SX, z.2.map (·.2) = cutL X n ∧ e = .returned (.slice z.1.1 z.2.length z.1.2) ∧ SL w [] w' [.row z.1.1 z.1.2 25 3 (List.map stC z.2), pack (lns z.2)]) := by
 refine calls_of_CX (O := []) (L := []) (args := [.slice A X.length cap, .int .i64 ((n : Nat) : Int)]) Tryz.func6 rfl (by simp [Tryz.ntmps6]) (SL.refl w) ?_
 refine CX.sub (V' := [(0, .slice A X.length cap), (1, .int .i64 ((n : Nat) : Int))]) ⟨rfl, rfl, trivial⟩ ?_
 refine CX.seq ?_
 refine CX.region ?_
 refine RX.cons rfl rfl (op_w (yw_assign rfl rfl) rfl rfl ?_)
 refine RX.nil (XX.next (V' := [(0, _), (1, _)]) ⟨rfl, rfl, trivial⟩ ?_)
 refine CX.seq ?_
 refine CX.region ?_
 refine RX.cons rfl rfl (op_w (yw_assign rfl rfl) rfl rfl ?_)
 refine RX.nil (XX.next (V' := [(0, _), (1, _), (5, _)]) ⟨rfl, rfl, rfl, trivial⟩ ?_)
 refine CX.seq ?_
 refine CX.seq ?_
 refine CX.region ?_
 refine RX.cons rfl rfl (op_w (yw_assign rfl rfl) rfl rfl ?_)
 refine RX.nil (XX.next (V' := [(0, _), (1, _), (5, _), (6, _)]) ⟨rfl, rfl, rfl, rfl, trivial⟩ ?_)
 refine CX.block ?_
 refine CX.packNil ?_
 refine CX.rowNil 25 3 ?_
 refine CX.loop (σ := Nat × (Option Addr × Nat) × List SX) (fun z => [(0, .slice A X.length cap), (1, .int .i64 ((n : Nat) : Int)), (5, .slice z.2.1.1 (List.length (z.2.2 : List SX)) z.2.1.2), (6, .int .i64 ((z.1 : Nat) : Int))]) (fun z => [.row z.2.1.1 z.2.1.2 25 3 (List.map stC z.2.2), pack (lns z.2.2)]) (fun z => z.1 ≤ X.length ∧ z.1 ≤ n ∧ z.2.2.map (·.2) = cutL X z.1) (fun z => X.length - z.1) (0, (none, 0), []) ⟨Nat.zero_le _, Nat.zero_le _, rfl⟩ ⟨rfl, rfl, rfl, rfl, trivial⟩ rfl (fun z hI => ?_)
 obtain ⟨i, ⟨A1, c1⟩, Y⟩ := z
 dsimp only at hI ⊢
 obtain ⟨hi, hin, hY⟩ := hI
 have hYl : Y.length = i := by have := congrArg List.length hY; simp [cutL] at this; omega
 refine CX.seq ?_
 refine CX.seq ?_
 refine CX.region ?_
 refine RX.cons rfl rfl (op_w (yw_move rfl rfl) rfl rfl ?_)
 refine RX.cons rfl rfl (op_w (yw_move rfl rfl) rfl rfl ?_)
 refine RX.cons rfl rfl (op_w (yw_lenS rfl Tryz.underlying33 rfl) rfl rfl ?_)
 refine RX.cons rfl rfl (op_w (yw_lss rfl rfl rfl) rfl rfl ?_)
 refine RX.cons rfl rfl (op_w (yw_move rfl rfl) rfl rfl ?_)
 refine RX.splitD (t := 12) (p := ((i : Nat) : Int) < ((X.length : Nat) : Int)) rfl (fun d12 => ?_) (fun d12 => ?_)
 ·refine RX.consG rfl rfl rfl rfl rfl (op_w (yw_move rfl rfl) rfl rfl ?_)
  refine RX.consG rfl rfl rfl rfl rfl (op_w (yw_move rfl rfl) rfl rfl ?_)
  refine RX.consG rfl rfl rfl rfl rfl (op_w (yw_lss rfl rfl rfl) rfl rfl ?_)
  refine RX.cons rfl rfl (op_w (yw_pickT rfl rfl rfl) rfl rfl ?_)
  refine RX.nil (XX.next (V' := [(0, _), (1, _), (5, _), (6, _), (16, _)]) ⟨rfl, rfl, rfl, rfl, rfl, trivial⟩ ?_)
  refine CX.condD (p := ((i : Nat) : Int) < ((n : Nat) : Int)) rfl (fun c16 => ?_) (fun c16 => ?_)
  ·obtain ⟨x0, hx0⟩ := get_some (l := X) (k := i) (by omega)
   have hx0m := List.mem_of_getElem? hx0
   have hA : ∃ b j, A = some ⟨b, j, none⟩ := hr.some (k := 0) (by simp; omega)
   have hc0 := hXc x0 hx0m
   have hl0 := hXl x0 hx0m
   have hlr : Rd w x0.1.1 3 ((List.take 8 (Stm.ls x0.2)).map lnC) := (hX x0 hx0m).takeM 8
   have htl : (List.take 8 (Stm.ls x0.2)).length ≤ 8 := by simp; omega
   refine CX.skip (XX.next (V' := [(0, _), (1, _), (5, _), (6, _)]) ⟨rfl, rfl, rfl, rfl, trivial⟩ ?_)
   refine CX.seq ?_
   refine CX.block ?_
   refine CX.seq ?_
   refine CX.region ?_
   refine RX.cons rfl rfl (op_w (yw_move rfl rfl) rfl rfl ?_)
   refine RX.cons rfl rfl (op_w (yw_move rfl rfl) rfl rfl ?_)
   refine RX.cons rfl rfl (op_w (yw_index (k := i) rfl slt_33 rfl rfl (by omega) (by omega) hA) rfl rfl ?_)
   refine RX.cons rfl rfl (op_yld (y_elem rfl rfl agg_25 hr (by simp) (map_get hx0)) rfl rfl ?_)
   refine RX.cons rfl rfl (op_alloc rfl rfl rfl zero_25 fun gl => ?_)
   refine RX.cons rfl rfl (op_storeAll (i := 0) rfl rfl rfl rfl szt_25 rfl (plain_of rfl) rfl rfl ?_)
   refine RX.nil (XX.next (V' := [(0, _), (1, _), (5, _), (6, _), (7, _)]) ⟨rfl, rfl, rfl, rfl, rfl, trivial⟩ ?_)
   refine CX.seq ?_
   refine CX.region ?_
   refine RX.cons rfl rfl (op_buildSlice rfl rfl rfl slb_23 rfl rfl (by intro v hv; simp at hv) (by decide) fun g6 => ?_)
   refine RX.cons rfl rfl (op_w (yw_fieldAddr rfl fld_25_2 rfl) rfl rfl ?_)
   refine RX.cons rfl rfl (op_yld (y_load (i := 1) rfl rfl one_23 rfl rfl) rfl rfl ?_)
   refine RX.cons rfl rfl (op_w (yw_fieldAddr rfl fld_25_2 rfl) rfl rfl ?_)
   refine RX.cons rfl rfl (op_yld (y_load (i := 1) rfl rfl one_23 rfl rfl) rfl rfl ?_)
   refine RX.cons rfl rfl (op_w (yw_lenS rfl Tryz.underlying23 rfl) rfl rfl ?_)
   refine RX.cons rfl rfl (op_w (yw_min rfl rfl rfl) rfl rfl ?_)
   refine RX.know (t := 29) (u := .int .i64 ((min (Stm.ls x0.2).length 8 : Nat) : Int)) rfl (congrArg (Value.int .i64) (by omega)) ?_
   refine RX.cons rfl rfl (op_w (yw_sliceTo (k := (min (Stm.ls x0.2).length 8)) rfl slt_23 rfl rfl (by omega) (by omega)) rfl rfl ?_)
   refine RX.cons rfl rfl (op_appendM0 lnC (i := 0) (xs := []) (List.take 8 (Stm.ls x0.2)) rfl rfl rfl slb_23 rfl rfl rfl (by rw [List.length_take, Nat.min_comm]) hlr (by simp) (by simp only [List.length_nil]; omega) (by simp only [List.length_nil]; omega) fun A2 c2 => ?_)
   refine RX.cons rfl rfl (op_w (yw_fieldAddr rfl fld_25_2 rfl) rfl rfl ?_)
   refine RX.cons rfl rfl (op_store1 (i := 1) (cs' := #[.int .i64 (Stm.h x0.2), .int .i64 (Stm.c x0.2), .slice A2 (([] ++ (List.take 8 (Stm.ls x0.2))).length) c2]) rfl rfl rfl rfl szt_23 rfl rfl rfl rfl ?_)
   refine RX.nil (XX.next (V' := [(0, _), (1, _), (5, _), (6, _), (7, _)]) ⟨rfl, rfl, rfl, rfl, rfl, trivial⟩ ?_)
   refine CX.packMoreE (es' := lns (Y ++ [(((A2, c2), cutS x0.2) : SX)])) (L' := [.blk gl (.cells (#[.int .i64 (Stm.h x0.2), .int .i64 (Stm.c x0.2), .slice A2 (([] ++ (List.take 8 (Stm.ls x0.2))).length) c2]) 25 (0, 0)), .row A1 c1 25 3 (List.map stC Y)]) (lns_snoc _ _) ((perm_pick 0 rfl).trans (List.Perm.cons _ ((perm_pick 2 rfl).trans (List.Perm.cons _ (List.Perm.refl _))))) ?_
   refine CX.region ?_
   refine RX.cons rfl rfl (op_w (yw_move rfl rfl) rfl rfl ?_)
   refine RX.cons rfl rfl (op_yld (y_loadA (i := 1) rfl rfl agg_25 rfl rfl) rfl rfl ?_)
   refine RX.cons rfl rfl (op_buildSlice rfl rfl rfl slb_33 rfl rfl (by intro v hv; simp only [List.mem_cons, List.not_mem_nil, or_false] at hv; subst hv; exact ⟨rfl, (plain_of rfl)⟩) (by decide) fun g7 => ?_)
   refine RX.cons rfl rfl (op_appendM stC (i := 3) (j := 0) (xs := Y) ([(((A2, c2), cutS x0.2) : SX)]) rfl rfl rfl slb_33 rfl rfl rfl rfl rfl rfl (by simp only [List.length_singleton]; omega) (by simp only [List.length_singleton]; omega) fun A3 c3 => ?_)
   refine RX.cons rfl rfl (op_w (yw_assign rfl rfl) rfl rfl ?_)
   refine RX.nil (XX.inBlock (V' := [(0, _), (1, _), (5, _), (6, _)]) ⟨rfl, rfl, rfl, rfl, trivial⟩ ?_)
   refine XX.next (V' := [(0, _), (1, _), (5, _), (6, _)]) ⟨rfl, rfl, rfl, rfl, trivial⟩ ?_
   refine CX.region ?_
   refine RX.cons rfl rfl (op_w (yw_move rfl rfl) rfl rfl ?_)
   refine RX.cons rfl rfl (op_w (yw_add rfl rfl rfl (by omega) (by omega)) rfl rfl ?_)
   refine RX.cons rfl rfl (op_w (yw_assign rfl rfl) rfl rfl ?_)
   refine RX.nil (XX.againP ([.row (some ⟨g7, 0, none⟩) 1 25 3 (List.map stC ([(((A2, c2), cutS x0.2) : SX)])), .blk gl (.cells (#[.int .i64 (Stm.h x0.2), .int .i64 (Stm.c x0.2), .slice A2 (([] ++ (List.take 8 (Stm.ls x0.2))).length) c2]) 25 (0, 0))]) (i + 1, (A3, c3), Y ++ [(((A2, c2), cutS x0.2) : SX)]) (by dsimp only; omega) ⟨by dsimp only; omega, by dsimp only; omega, by dsimp only; rw [List.map_append, hY, cutL, cutL, take_succ hx0, List.map_append]; rfl⟩ ⟨rfl, rfl, rfl, rfl, trivial⟩ ((perm_pick 3 rfl).trans (List.Perm.cons _ ((perm_pick 1 rfl).trans (List.Perm.cons _ (List.Perm.refl _))))))
  ·refine CX.exit ?_
   refine XX.then_exit ?_
   refine XX.then_exit ?_
   refine XX.block_exit ?_
   refine XX.next (V' := [(5, _)]) ⟨rfl, trivial⟩ ?_
   refine CX.seq ?_
   refine CX.region ?_
   refine RX.cons rfl rfl (op_w (yw_move rfl rfl) rfl rfl ?_)
   refine RX.cons rfl rfl (op_w (yw_assign rfl rfl) rfl rfl ?_)
   refine RX.nil (XX.next (V' := [(4, .slice A1 (List.length (Y : List SX)) c1)]) ⟨rfl, trivial⟩ ?_)
   refine CX.ret ?_
   exact ret_tmp rfl rfl fun w1 hw => ⟨((A1, c1), Y), by rw [hY, show i = n from by omega], rfl, hw.pick ((perm_pick 0 rfl).trans (List.Perm.cons _ ((perm_pick 0 rfl).trans (List.Perm.cons _ (List.Perm.refl _)))))⟩
 ·refine RX.skip rfl rfl rfl rfl rfl rfl rfl ?_
  refine RX.skip rfl rfl rfl rfl rfl rfl rfl ?_
  refine RX.skip rfl rfl rfl rfl rfl rfl rfl ?_
  refine RX.cons rfl rfl (op_w (yw_pickF rfl rfl rfl) rfl rfl ?_)
  refine RX.nil (XX.next (V' := [(0, _), (1, _), (5, _), (6, _), (16, _)]) ⟨rfl, rfl, rfl, rfl, rfl, trivial⟩ ?_)
  refine CX.condF rfl ?_
  refine CX.exit ?_
  refine XX.then_exit ?_
  refine XX.then_exit ?_
  refine XX.block_exit ?_
  refine XX.next (V' := [(5, _)]) ⟨rfl, trivial⟩ ?_
  refine CX.seq ?_
  refine CX.region ?_
  refine RX.cons rfl rfl (op_w (yw_move rfl rfl) rfl rfl ?_)
  refine RX.cons rfl rfl (op_w (yw_assign rfl rfl) rfl rfl ?_)
  refine RX.nil (XX.next (V' := [(4, .slice A1 (List.length (Y : List SX)) c1)]) ⟨rfl, trivial⟩ ?_)
  refine CX.ret ?_
  exact ret_tmp rfl rfl fun w1 hw => ⟨((A1, c1), Y), by rw [hY, cutL, cutL, List.take_of_length_le (by omega), List.take_of_length_le (by omega)], rfl, hw.pick ((perm_pick 0 rfl).trans (List.Perm.cons _ ((perm_pick 0 rfl).trans (List.Perm.cons _ (List.Perm.refl _)))))⟩

end Go.Proofs.YtnadipjlhlbfoaaGreatDoor
namespace Go.Proofs.YtnadipjlhlbfoaaGreatDoor
set_option linter.all false
open Go Go.RowKit
set_option maxRecDepth 100000
/-- The statement of one line. -/
def oneS (h a : Int) : Stm := ⟨h, 0, [⟨0, 0, 10000 * a⟩]⟩
set_option maxRecDepth 100000 in
theorem w_one {w : World} (h a : Int) (h0 : 0 ≤ a) (h1 : a ≤ 1000) :
    Calls Tryz.prog 22 #[.int .i64 h, .int .i64 a] w (fun e w' => ∃ g : Nat, True ∧ e = .returned (.agg (stC ((some ⟨g, 0, none⟩, 1), oneS h a))) ∧ SL w [] w' [.row (some ⟨g, 0, none⟩) 1 77 3 (List.map lnC (Stm.ls (oneS h a)))]) := by
 refine calls_of_CX (O := []) (L := []) (args := [.int .i64 h, .int .i64 a]) Tryz.func22 rfl (by simp [Tryz.ntmps22]) (SL.refl w) ?_
 refine CX.sub (V' := [(0, .int .i64 h), (1, .int .i64 a)]) ⟨rfl, rfl, trivial⟩ ?_
 refine CX.seq ?_
 refine CX.region ?_
 refine RX.cons rfl rfl (op_alloc rfl rfl rfl zero_25 fun gr => ?_)
 refine RX.nil (XX.next (V' := [(0, _), (1, _), (4, .pointer (some ⟨gr, 0, none⟩))]) ⟨rfl, rfl, rfl, trivial⟩ ?_)
 refine CX.seq ?_
 refine CX.region ?_
 refine RX.cons rfl rfl (op_w (yw_move rfl rfl) rfl rfl ?_)
 refine RX.cons rfl rfl (op_w (yw_move rfl rfl) rfl rfl ?_)
 refine RX.cons rfl rfl (op_w (yw_mul rfl rfl rfl (by omega) (by omega)) rfl rfl ?_)
 refine RX.cons rfl rfl (op_w (yw_build (v := .agg (#[.int .i64 0, .int .i64 0, .int .i64 (10000 * a)])) rfl rfl (fun _ => by kernel_rfl)) rfl rfl ?_)
 refine RX.cons rfl rfl (op_buildSlice rfl rfl rfl slb_23 rfl rfl (by intro v hv; simp only [List.mem_cons, List.not_mem_nil, or_false] at hv; subst hv; exact ⟨rfl, (plain_of rfl)⟩) (by decide) fun gl => ?_)
 refine RX.cons rfl rfl (op_w (yw_build (v := .agg (#[.int .i64 h, .int .i64 0, .slice (some ⟨gl, 0, none⟩) 1 1])) rfl rfl (fun _ => by kernel_rfl)) rfl rfl ?_)
 refine RX.cons rfl rfl (op_storeAll (i := 1) rfl rfl rfl rfl szt_25 rfl (plain_of rfl) rfl rfl ?_)
 refine RX.nil (XX.next (V' := [(4, .pointer (some ⟨gr, 0, none⟩))]) ⟨rfl, trivial⟩ ?_)
 refine CX.ret ?_
 exact ret_cell (i := 1) rfl rfl agg_25 rfl rfl fun w1 hw => ⟨gl, trivial, rfl, hw.pick ((perm_pick 0 rfl).trans (List.Perm.cons _ (List.Perm.refl _)))⟩

end Go.Proofs.YtnadipjlhlbfoaaGreatDoor
namespace Go.Proofs.YtnadipjlhlbfoaaGreatDoor
set_option linter.all false
open Go Go.RowKit
attribute [local irreducible] sum
theorem path_verifies {l : List ByteArray} {i : Nat} {s : ByteArray} (h : l[i]? = some s) : (∀ x ∈ (path sum l i).reverse, x.size = 32) ∧ value sum s (path sum l i).reverse.reverse l.length i = some (root sum l) := by
  refine ⟨fun x hx => path_sizes sum sum_size _ _ _ x (List.mem_reverse.1 hx), ?_⟩
  rw [List.reverse_reverse]
  exact value_path sum l.length l i s (Nat.le_refl _) h
theorem prove_verifies {X : List SX} {i : Nat} {x0 : SX} (h : X[i]? = some x0) : verN (root sum (entsX X)) X.length i (saltX X i ++ encS x0.2) (path sum (entsX X) i).reverse = true := by
  obtain ⟨h1, h2⟩ := path_verifies (entsX_get h)
  rw [entsX_length] at h2
  exact decide_eq_true ⟨h1, h2⟩
theorem prove_else {X : List SX} {i : Nat} {x0 : SX} {r : ByteArray} (h : X[i]? = some x0) (hr : root sum (entsX X) ≠ r) : verN r X.length i (saltX X i ++ encS x0.2) (path sum (entsX X) i).reverse = false := by
  obtain ⟨h1, h2⟩ := path_verifies (entsX_get h)
  rw [entsX_length] at h2
  refine decide_eq_false fun h3 => ?_
  have := h2.symm.trans h3.2
  injection this with this
  exact hr this
theorem root_size' (l : List ByteArray) : (root sum l).size = 32 := root_size sum sum_size l
theorem ext_sizes : ∀ (k : Nat) (l : List ByteArray) (m : Nat) (w : Bool), ∀ x ∈ extF sum k l m w, x.size = 32
  | 0, _, _, _, x, hx => by simp [extF] at hx
  | k + 1, l, m, w, x, hx => by
    unfold extF at hx
    split at hx
    · split at hx
      · simp at hx
      · simp at hx; rw [hx]; exact root_size' _
    · split at hx
      · rcases List.mem_cons.1 hx with rfl | hx
        · exact root_size' _
        · exact ext_sizes k _ _ _ x hx
      · rcases List.mem_cons.1 hx with rfl | hx
        · exact root_size' _
        · exact ext_sizes k _ _ _ x hx
theorem extX_sizes (X : List SX) (m : Nat) : ∀ x ∈ extX X m, x.size = 32 := by
  intro x hx
  unfold extX at hx
  split at hx
  · simp at hx
  · exact ext_sizes _ _ _ _ x (List.mem_reverse.1 hx)
theorem entsF_take : ∀ (l : List ByteArray) (hd : ByteArray) (m : Nat), entsF hd (l.take m) = (entsF hd l).take m
  | [], _, m => by cases m <;> rfl
  | e :: r, hd, 0 => rfl
  | e :: r, hd, m + 1 => by rw [List.take_succ_cons, entsF, entsF, List.take_succ_cons, entsF_take r]
theorem encsX_take (X : List SX) (m : Nat) : encsX (X.take m) = (encsX X).take m := by simp [encsX, List.map_take]
theorem entsX_take (X : List SX) (m : Nat) : entsX (X.take m) = (entsX X).take m := by rw [entsX, encsX_take, entsF_take]; rfl
theorem extF_length : ∀ (k : Nat) (l : List ByteArray) (m : Nat) (w : Bool), (extF sum k l m w).length ≤ k
  | 0, _, _, _ => Nat.le_refl _
  | k + 1, l, m, w => by
    unfold extF
    split
    · split <;> simp
    · split
      · rw [List.length_cons]; have := extF_length k (l.take (lft l.length)) m w; omega
      · rw [List.length_cons]; have := extF_length k (l.drop (lft l.length)) (m - lft l.length) false; omega
theorem extX_length (X : List SX) (m : Nat) : (extX X m).length ≤ X.length := by
  unfold extX
  split
  · simp
  · rw [List.length_reverse]
    have := extF_length (entsX X).length (entsX X) m true
    rw [entsX_length] at this
    unfold ext
    rw [entsX_length]
    exact this
theorem path_len (X : List SX) (i : Nat) : (path sum (entsX X) i).reverse.length ≤ X.length := by
  rw [List.length_reverse, path, path_length]
  have := depth_le (entsX X).length (entsX X).length i
  rw [entsX_length] at this
  rw [entsX_length]; exact this
/-- An extension connects the two roots. -/
theorem ext_verifies {X Y : List SX} {m : Nat} (hm : m ≤ X.length) (hY : Y.map (·.2) = (X.take m).map (·.2)) : verX (root sum (entsX Y)) m (root sum (entsX X)) X.length (extX X m) = true := by
  have eY : entsX Y = (entsX X).take m := by rw [entsX_of hY, entsX_take]
  have hel := entsX_length X
  rw [eY]
  unfold verX
  by_cases h0 : m = 0
  · subst h0
    rw [if_pos rfl, List.take_zero]
    simp [extX, root_nil]
  rw [if_neg h0]
  have hex : extX X m = (ext sum (entsX X) m true).reverse := if_neg h0
  by_cases h1 : m = X.length
  · rw [if_pos h1, hex, ext_done sum (by omega) (by omega), List.take_of_length_le (by omega)]
    simp
  · rw [if_neg h1, hex, List.reverse_reverse]
    have := both_ext sum (root sum ((entsX X).take m)) (entsX X).length (entsX X) m true (Nat.le_refl _) (by omega) (by omega) (fun _ => rfl)
    rw [hel] at this
    exact decide_eq_true (by unfold ext; rw [hel]; exact this)
end Go.Proofs.YtnadipjlhlbfoaaGreatDoor
namespace Go.Proofs.YtnadipjlhlbfoaaGreatDoor
set_option linter.all false
open Go Go.RowKit
set_option maxRecDepth 100000
def sane1 : List Stm := [oneS 5 1]
def sane3 : List Stm := [oneS 5 1, oneS 6 1, oneS 7 2]
theorem head1 : (root sum (entsF zero32 (sane1.map encS))).data.toList.head? = some 215 := by decide +kernel
theorem head3 : (root sum (entsF zero32 (sane3.map encS))).data.toList.head? = some 252 := by decide +kernel
theorem ents_of {X : List SX} {l : List Stm} (h : X.map (·.2) = l) : entsX X = entsF zero32 (l.map encS) := by
  rw [← h, entsX, encsX, List.map_map]; rfl
theorem sane_ne {X Y : List SX} (hX : X.map (·.2) = sane3) (hY : Y.map (·.2) = sane1) : root sum (entsX X) ≠ root sum (entsX Y) := by
  rw [ents_of hX, ents_of hY]
  intro e
  have h1 := head1
  rw [← e, head3] at h1
  exact absurd h1 (by decide)
theorem sane_ok : ∀ s ∈ sane3, okS s = true ∧ s.ls.length ≤ 1000000 := by decide +kernel
end Go.Proofs.YtnadipjlhlbfoaaGreatDoor
namespace Go.Proofs.YtnadipjlhlbfoaaGreatDoor
set_option linter.all false
open Go Go.RowKit
set_option maxRecDepth 100000
theorem w_rootE {w : World} {g : Nat} {z : LZ} (X : List SX) (hL : LogAt w g z X) (hXl : ∀ x ∈ X, x.2.ls.length ≤ 1000000) (hl : X.length ≤ 1000000) (hG : Rounds w) : Calls Tryz.prog 9 #[.pointer (some ⟨g, 0, none⟩)] w (fun e w' => e = .returned (.string (root sum (entsX X))) ∧ SL w [] w' []) :=
  w_logRoot X (entsX X) .empty hL.c0 hL.c1 hG hL.rE (by rw [entsX_length]; exact hl) (entsX_sizes hXl)
theorem w_stmtsE {w : World} {g : Nat} {z : LZ} (X : List SX) (hL : LogAt w g z X) (hXl : ∀ x ∈ X, x.2.ls.length ≤ 1000000) (hl : X.length ≤ 1000000) : Calls Tryz.prog 12 #[.pointer (some ⟨g, 0, none⟩)] w (fun e w' => ∃ z : (Option Addr × Nat) × List SX, z.2.map (·.2) = X.map (fun x : SX => x.2) ∧ e = .returned (.slice z.1.1 z.2.length z.1.2) ∧ SL w [] w' [.row z.1.1 z.1.2 25 3 (List.map stC z.2), pack (lns z.2)]) :=
  w_stmts X (entsX X) .empty hL.c0 hL.c1 hL.rX hL.rL hXl hl
end Go.Proofs.YtnadipjlhlbfoaaGreatDoor
