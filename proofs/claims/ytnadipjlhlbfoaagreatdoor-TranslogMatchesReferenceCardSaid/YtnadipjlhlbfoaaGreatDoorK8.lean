/- Walks, printed by a program. Walks, printed by a program. Walks, printed by a program. Several entries as one. make of a slice; a copy of all of a slice into it. Walks, printed by a program. Walks, printed by a program. Walks, printed by a program. The chain of entries: the plain side of Append. Walks, printed by a program. Walks, printed by a program. Walks, printed by a program. Walks, printed by a program. -/
import Derived.Test.YtnadipjlhlbfoaaGreatDoorK7
import Derived.Test.YtnadipjlhlbfoaaGreatDoorK4
import Derived.Laws.OwnMore
import Derived.Laws.CopyRow
import Derived.Test.YtnadipjlhlbfoaaGreatDoorK3
namespace Go.Proofs.YtnadipjlhlbfoaaGreatDoor
set_option linter.all false
open Go Go.RowKit
set_option maxRecDepth 100000
theorem fld_25_2 : Fld Tryz.prog 25 2 2 := ⟨_, _, (Tryz.prog.info? 23).get!, Tryz.underlying25, rfl, rfl, by kernel_rfl, by decide +kernel⟩
theorem one_23 : One Tryz.prog 23 := ⟨_, Tryz.underlying23, rfl⟩
theorem slt_23 : SlT Tryz.prog 23 77 3 := ⟨(Tryz.prog.info? 77).get!, Tryz.underlying23, by kernel_rfl, by kernel_rfl⟩
theorem agg_77 : AggT Tryz.prog 77 3 := ⟨_, _, Tryz.underlying77, rfl, (by kernel_rfl : Tryz.prog.info? 77 = some (Tryz.prog.info? 77).get!), by kernel_rfl⟩
theorem zero_77 : Zero Tryz.prog 77 (.agg (#[.int .i64 0, .int .i64 0, .int .i64 0])) := ⟨(Tryz.prog.info? 77).get!, by kernel_rfl, by kernel_rfl⟩
theorem szt_77 : SzT Tryz.prog 77 3 := ⟨(Tryz.prog.info? 77).get!, by kernel_rfl, by kernel_rfl⟩
theorem fld_77_0 : Fld Tryz.prog 77 0 0 := ⟨_, _, (Tryz.prog.info? 3).get!, Tryz.underlying77, rfl, rfl, by kernel_rfl, by decide +kernel⟩
theorem fld_77_1 : Fld Tryz.prog 77 1 1 := ⟨_, _, (Tryz.prog.info? 3).get!, Tryz.underlying77, rfl, rfl, by kernel_rfl, by decide +kernel⟩
theorem fld_77_2 : Fld Tryz.prog 77 2 2 := ⟨_, _, (Tryz.prog.info? 3).get!, Tryz.underlying77, rfl, rfl, by kernel_rfl, by decide +kernel⟩
theorem ent_78 : ∀ args w, (callFunc 78 args).run Tryz.prog w = .ok (.enter 78 args) w := enters_of Tryz.func78 (by kernel_rfl) rfl
theorem fld_25_0 : Fld Tryz.prog 25 0 0 := ⟨_, _, (Tryz.prog.info? 3).get!, Tryz.underlying25, rfl, rfl, by kernel_rfl, by decide +kernel⟩
theorem fld_25_1 : Fld Tryz.prog 25 1 1 := ⟨_, _, (Tryz.prog.info? 3).get!, Tryz.underlying25, rfl, rfl, by kernel_rfl, by decide +kernel⟩
set_option maxRecDepth 100000 in
theorem w_valid {w : World} {A : Option Addr} {cap : Nat} (s : Stm) (hr : Rd w A 3 (s.ls.map lnC)) (hl : s.ls.length ≤ 1000000) :
    Calls Tryz.prog 51 #[.agg (#[.int .i64 (Stm.h s), .int .i64 (Stm.c s), .slice A (List.length (Stm.ls s)) cap])] w (fun e w' => e = .returned (.bool (okS s)) ∧ SL w [] w' []) := by
 refine calls_of_CX (O := []) (L := []) (args := [.agg (#[.int .i64 (Stm.h s), .int .i64 (Stm.c s), .slice A (List.length (Stm.ls s)) cap])]) Tryz.func51 rfl (by simp [Tryz.ntmps51]) (SL.refl w) ?_
 refine CX.sub (V' := [(0, .agg (#[.int .i64 (Stm.h s), .int .i64 (Stm.c s), .slice A (List.length (Stm.ls s)) cap]))]) ⟨rfl, trivial⟩ ?_
 refine CX.seq ?_
 refine CX.region ?_
 refine RX.cons rfl rfl (op_box rfl rfl rfl rfl fun gs => ?_)
 refine RX.cons rfl rfl (op_w (yw_assign rfl rfl) rfl rfl ?_)
 refine RX.nil (XX.next (V' := [(1, _)]) ⟨rfl, trivial⟩ ?_)
 refine CX.seq ?_
 refine CX.region ?_
 refine RX.cons rfl rfl (op_w (yw_assign rfl rfl) rfl rfl ?_)
 refine RX.nil (XX.next (V' := [(1, _), (3, _)]) ⟨rfl, rfl, trivial⟩ ?_)
 refine CX.seq ?_
 refine CX.seq ?_
 refine CX.region ?_
 refine RX.cons rfl rfl (op_w (yw_fieldAddr rfl fld_25_2 rfl) rfl rfl ?_)
 refine RX.cons rfl rfl (op_yld (y_load (i := 0) rfl rfl one_23 rfl rfl) rfl rfl ?_)
 refine RX.cons rfl rfl (op_w (yw_lenS rfl Tryz.underlying23 rfl) rfl rfl ?_)
 refine RX.cons rfl rfl (op_w (yw_move rfl rfl) rfl rfl ?_)
 refine RX.nil (XX.next (V' := [(1, _), (3, _), (7, _), (8, _), (9, _)]) ⟨rfl, rfl, rfl, rfl, rfl, trivial⟩ ?_)
 refine CX.block ?_
 refine CX.loop (σ := Nat × Int) (fun z => [(1, .pointer (some ⟨gs, 0, none⟩)), (3, .int .i64 z.2), (7, .slice A (List.length (Stm.ls s)) cap), (8, .int .i64 ((List.length (Stm.ls s) : Nat) : Int)), (9, .int .i64 ((z.1 : Nat) : Int))]) (fun z => [.blk gs (.cells (#[.int .i64 (Stm.h s), .int .i64 (Stm.c s), .slice A (List.length (Stm.ls s)) cap]) 25 (0, 0))]) (fun z => z.1 ≤ s.ls.length ∧ okLs (-1) s.ls = okLs z.2 (s.ls.drop z.1)) (fun z => s.ls.length - z.1) (0, -1) ⟨Nat.zero_le _, rfl⟩ ⟨rfl, rfl, rfl, rfl, rfl, trivial⟩ rfl (fun z hI => ?_)
 obtain ⟨i, last⟩ := z
 dsimp only at hI ⊢
 obtain ⟨hi, hok⟩ := hI
 refine CX.seq ?_
 refine CX.region ?_
 refine RX.cons rfl rfl (op_w (yw_lss rfl rfl rfl) rfl rfl ?_)
 refine RX.nil (XX.next (V' := [(1, _), (3, _), (7, _), (8, _), (9, _), (10, _)]) ⟨rfl, rfl, rfl, rfl, rfl, rfl, trivial⟩ ?_)
 refine CX.seq ?_
 refine CX.condD (p := ((i : Nat) : Int) < ((List.length (Stm.ls s) : Nat) : Int)) rfl (fun c10 => ?_) (fun c10 => ?_)
 ·obtain ⟨x0, hx0⟩ := get_some (l := s.ls) (k := i) (by omega)
  have hA : ∃ b j, A = some ⟨b, j, none⟩ := hr.some (k := 0) (by simp; omega)
  refine CX.skip (XX.next (V' := [(1, _), (3, _), (7, _), (8, _), (9, _)]) ⟨rfl, rfl, rfl, rfl, rfl, trivial⟩ ?_)
  refine CX.seq ?_
  refine CX.block ?_
  refine CX.seq ?_
  refine CX.region ?_
  refine RX.cons rfl rfl (op_w (yw_index (k := i) rfl slt_23 rfl rfl (by omega) (by omega) hA) rfl rfl ?_)
  refine RX.cons rfl rfl (op_yld (y_elem rfl rfl agg_77 hr (by simp) (map_get hx0)) rfl rfl ?_)
  refine RX.cons rfl rfl (op_alloc rfl rfl rfl zero_77 fun gl => ?_)
  refine RX.cons rfl rfl (op_storeAll (i := 0) rfl rfl rfl rfl szt_77 rfl (plain_of rfl) rfl rfl ?_)
  refine RX.nil (XX.next (V' := [(1, _), (3, _), (5, _), (7, _), (8, _), (9, _)]) ⟨rfl, rfl, rfl, rfl, rfl, rfl, trivial⟩ ?_)
  refine CX.seq ?_
  refine CX.seq ?_
  refine CX.region ?_
  refine RX.cons rfl rfl (op_w (yw_field0 rfl fld_77_0 rfl) rfl rfl ?_)
  refine RX.cons rfl rfl (op_yld (y_load (i := 0) rfl rfl one_3 rfl rfl) rfl rfl ?_)
  refine RX.cons rfl rfl (op_w (yw_move rfl rfl) rfl rfl ?_)
  refine RX.cons rfl rfl (op_w (yw_leq rfl rfl rfl) rfl rfl ?_)
  refine RX.cons rfl rfl (op_w (yw_move rfl rfl) rfl rfl ?_)
  refine RX.splitD (t := 17) (p := Ln.p x0 ≤ last) rfl (fun d17 => ?_) (fun d17 => ?_)
  ·refine RX.skip rfl rfl rfl rfl rfl rfl rfl ?_
   refine RX.skip rfl rfl rfl rfl rfl rfl rfl ?_
   refine RX.skip rfl rfl rfl rfl rfl rfl rfl ?_
   refine RX.cons rfl rfl (op_w (yw_pickT rfl rfl rfl) rfl rfl ?_)
   refine RX.cons rfl rfl (op_w (yw_move rfl rfl) rfl rfl ?_)
   refine RX.skip rfl rfl rfl rfl rfl rfl rfl ?_
   refine RX.skip rfl rfl rfl rfl rfl rfl rfl ?_
   refine RX.skip rfl rfl rfl rfl rfl rfl rfl ?_
   refine RX.skip rfl rfl rfl rfl rfl rfl rfl ?_
   refine RX.skip rfl rfl rfl rfl rfl rfl rfl ?_
   refine RX.skip rfl rfl rfl rfl rfl rfl rfl ?_
   refine RX.skip rfl rfl rfl rfl rfl rfl rfl ?_
   refine RX.cons rfl rfl (op_w (yw_pickT rfl rfl rfl) rfl rfl ?_)
   refine RX.cons rfl rfl (op_w (yw_move rfl rfl) rfl rfl ?_)
   refine RX.skip rfl rfl rfl rfl rfl rfl rfl ?_
   refine RX.skip rfl rfl rfl rfl rfl rfl rfl ?_
   refine RX.skip rfl rfl rfl rfl rfl rfl rfl ?_
   refine RX.skip rfl rfl rfl rfl rfl rfl rfl ?_
   refine RX.skip rfl rfl rfl rfl rfl rfl rfl ?_
   refine RX.cons rfl rfl (op_w (yw_pickT rfl rfl rfl) rfl rfl ?_)
   refine RX.nil (XX.next (V' := [(1, _), (5, _), (7, _), (8, _), (9, _), (37, _)]) ⟨rfl, rfl, rfl, rfl, rfl, rfl, trivial⟩ ?_)
   refine CX.condT rfl ?_
   refine CX.seq ?_
   refine CX.region ?_
   refine RX.cons rfl rfl (op_w (yw_assign rfl rfl) rfl rfl ?_)
   refine RX.nil (XX.next (V' := [(2, .bool false)]) ⟨rfl, trivial⟩ ?_)
   refine CX.ret ?_
   refine XX.then_ret ?_
   refine XX.block_ret ?_
   refine XX.then_ret ?_
   refine XX.then_ret ?_
   refine XX.block_ret ?_
   refine XX.then_ret ?_
   exact ret_tmp rfl rfl fun w1 hw => ⟨by rw [okS_bad (by rw [hok, drop_cons hx0, okLs_cons, okL_false (.inl d17)]; rfl)], hw.sub (List.nil_sublist _)⟩
  ·refine RX.consG rfl rfl rfl rfl rfl (op_w (yw_field0 rfl fld_77_0 rfl) rfl rfl ?_)
   refine RX.consG rfl rfl rfl rfl rfl (op_yld (y_load (i := 0) rfl rfl one_3 rfl rfl) rfl rfl ?_)
   refine RX.consG rfl rfl rfl rfl rfl (op_w (yw_geq rfl rfl rfl) rfl rfl ?_)
   refine RX.cons rfl rfl (op_w (yw_pickF rfl rfl rfl) rfl rfl ?_)
   refine RX.cons rfl rfl (op_w (yw_move rfl rfl) rfl rfl ?_)
   refine RX.splitD (t := 22) (p := 1200 ≤ Ln.p x0) rfl (fun d22 => ?_) (fun d22 => ?_)
   ·refine RX.skip rfl rfl rfl rfl rfl rfl rfl ?_
    refine RX.skip rfl rfl rfl rfl rfl rfl rfl ?_
    refine RX.skip rfl rfl rfl rfl rfl rfl rfl ?_
    refine RX.skip rfl rfl rfl rfl rfl rfl rfl ?_
    refine RX.skip rfl rfl rfl rfl rfl rfl rfl ?_
    refine RX.skip rfl rfl rfl rfl rfl rfl rfl ?_
    refine RX.skip rfl rfl rfl rfl rfl rfl rfl ?_
    refine RX.cons rfl rfl (op_w (yw_pickT rfl rfl rfl) rfl rfl ?_)
    refine RX.cons rfl rfl (op_w (yw_move rfl rfl) rfl rfl ?_)
    refine RX.skip rfl rfl rfl rfl rfl rfl rfl ?_
    refine RX.skip rfl rfl rfl rfl rfl rfl rfl ?_
    refine RX.skip rfl rfl rfl rfl rfl rfl rfl ?_
    refine RX.skip rfl rfl rfl rfl rfl rfl rfl ?_
    refine RX.skip rfl rfl rfl rfl rfl rfl rfl ?_
    refine RX.cons rfl rfl (op_w (yw_pickT rfl rfl rfl) rfl rfl ?_)
    refine RX.nil (XX.next (V' := [(1, _), (5, _), (7, _), (8, _), (9, _), (37, _)]) ⟨rfl, rfl, rfl, rfl, rfl, rfl, trivial⟩ ?_)
    refine CX.condT rfl ?_
    refine CX.seq ?_
    refine CX.region ?_
    refine RX.cons rfl rfl (op_w (yw_assign rfl rfl) rfl rfl ?_)
    refine RX.nil (XX.next (V' := [(2, .bool false)]) ⟨rfl, trivial⟩ ?_)
    refine CX.ret ?_
    refine XX.then_ret ?_
    refine XX.block_ret ?_
    refine XX.then_ret ?_
    refine XX.then_ret ?_
    refine XX.block_ret ?_
    refine XX.then_ret ?_
    exact ret_tmp rfl rfl fun w1 hw => ⟨by rw [okS_bad (by rw [hok, drop_cons hx0, okLs_cons, okL_false (.inr (.inl d22))]; rfl)], hw.sub (List.nil_sublist _)⟩
   ·refine RX.consG rfl rfl rfl rfl rfl (op_w (yw_fieldAddr rfl fld_77_1 rfl) rfl rfl ?_)
    refine RX.consG rfl rfl rfl rfl rfl (op_yld (y_load (i := 0) rfl rfl one_3 rfl rfl) rfl rfl ?_)
    refine RX.consG rfl rfl rfl rfl rfl (op_w (yw_fieldAddr rfl fld_77_2 rfl) rfl rfl ?_)
    refine RX.consG rfl rfl rfl rfl rfl (op_yld (y_load (i := 0) rfl rfl one_3 rfl rfl) rfl rfl ?_)
    refine RX.consG rfl rfl rfl rfl rfl (op_buildSlice rfl rfl rfl slb_43 rfl rfl (by intro v hv; simp only [List.mem_cons, List.not_mem_nil, or_false] at hv; rcases hv with rfl | rfl <;> exact ⟨rfl, (plain_of rfl)⟩) (by decide) fun g9 => ?_)
    refine RX.consG rfl rfl rfl rfl rfl (op_callV (v := .bool (List.all ([Ln.b x0, Ln.a x0]) okM)) rfl rfl rfl rfl rfl ent_78 (fun w hw => w_money ([Ln.b x0, Ln.a x0]) (Ent.rd (hw.ents _ (List.mem_of_getElem? (i := 0) rfl))) (by simp)) ?_)
    refine RX.consG rfl rfl rfl rfl rfl (op_w (yw_not rfl rfl) rfl rfl ?_)
    refine RX.cons rfl rfl (op_w (yw_pickF rfl rfl rfl) rfl rfl ?_)
    refine RX.cons rfl rfl (op_w (yw_move rfl rfl) rfl rfl ?_)
    refine RX.split (t := 31) (b := !(List.all ([Ln.b x0, Ln.a x0]) okM)) rfl (fun d31 => ?_) (fun d31 => ?_)
    ·refine RX.skip rfl rfl rfl rfl rfl rfl rfl ?_
     refine RX.skip rfl rfl rfl rfl rfl rfl rfl ?_
     refine RX.skip rfl rfl rfl rfl rfl rfl rfl ?_
     refine RX.skip rfl rfl rfl rfl rfl rfl rfl ?_
     refine RX.skip rfl rfl rfl rfl rfl rfl rfl ?_
     refine RX.cons rfl rfl (op_w (yw_pickT rfl rfl rfl) rfl rfl ?_)
     refine RX.nil (XX.next (V' := [(1, _), (5, _), (7, _), (8, _), (9, _), (37, _)]) ⟨rfl, rfl, rfl, rfl, rfl, rfl, trivial⟩ ?_)
     refine CX.condT rfl ?_
     refine CX.seq ?_
     refine CX.region ?_
     refine RX.cons rfl rfl (op_w (yw_assign rfl rfl) rfl rfl ?_)
     refine RX.nil (XX.next (V' := [(2, .bool false)]) ⟨rfl, trivial⟩ ?_)
     refine CX.ret ?_
     refine XX.then_ret ?_
     refine XX.block_ret ?_
     refine XX.then_ret ?_
     refine XX.then_ret ?_
     refine XX.block_ret ?_
     refine XX.then_ret ?_
     exact ret_tmp rfl rfl fun w1 hw => ⟨by rw [okS_bad (by rw [hok, drop_cons hx0, okLs_cons, okL_false (.inr (.inr (.inl (not_tt d31))))]; rfl)], hw.sub (List.nil_sublist _)⟩
    ·refine RX.consG rfl rfl rfl rfl rfl (op_w (yw_fieldAddr rfl fld_77_1 rfl) rfl rfl ?_)
     refine RX.consG rfl rfl rfl rfl rfl (op_yld (y_load (i := 1) rfl rfl one_3 rfl rfl) rfl rfl ?_)
     refine RX.consG rfl rfl rfl rfl rfl (op_w (yw_fieldAddr rfl fld_77_2 rfl) rfl rfl ?_)
     refine RX.consG rfl rfl rfl rfl rfl (op_yld (y_load (i := 1) rfl rfl one_3 rfl rfl) rfl rfl ?_)
     refine RX.consG rfl rfl rfl rfl rfl (op_w (yw_eql rfl rfl rfl) rfl rfl ?_)
     refine RX.cons rfl rfl (op_w (yw_pickF rfl rfl rfl) rfl rfl ?_)
     refine RX.nil (XX.next (V' := [(1, _), (5, _), (7, _), (8, _), (9, _), (37, _)]) ⟨rfl, rfl, rfl, rfl, rfl, rfl, trivial⟩ ?_)
     refine CX.condD (p := Ln.b x0 = Ln.a x0) rfl (fun c37 => ?_) (fun c37 => ?_)
     ·refine CX.seq ?_
      refine CX.region ?_
      refine RX.cons rfl rfl (op_w (yw_assign rfl rfl) rfl rfl ?_)
      refine RX.nil (XX.next (V' := [(2, .bool false)]) ⟨rfl, trivial⟩ ?_)
      refine CX.ret ?_
      refine XX.then_ret ?_
      refine XX.block_ret ?_
      refine XX.then_ret ?_
      refine XX.then_ret ?_
      refine XX.block_ret ?_
      refine XX.then_ret ?_
      exact ret_tmp rfl rfl fun w1 hw => ⟨by rw [okS_bad (by rw [hok, drop_cons hx0, okLs_cons, okL_false (.inr (.inr (.inr c37)))]; rfl)], hw.sub (List.nil_sublist _)⟩
     ·have hgood : okL last x0 = true := okL_true d17 d22 (by simpa using d31) c37
      refine CX.skip (XX.next (V' := [(1, _), (5, _), (7, _), (8, _), (9, _)]) ⟨rfl, rfl, rfl, rfl, rfl, trivial⟩ ?_)
      refine CX.region ?_
      refine RX.cons rfl rfl (op_w (yw_field0 rfl fld_77_0 rfl) rfl rfl ?_)
      refine RX.cons rfl rfl (op_yld (y_load (i := 1) rfl rfl one_3 rfl rfl) rfl rfl ?_)
      refine RX.cons rfl rfl (op_w (yw_assign rfl rfl) rfl rfl ?_)
      refine RX.nil (XX.inBlock (V' := [(1, _), (3, _), (7, _), (8, _), (9, _)]) ⟨rfl, rfl, rfl, rfl, rfl, trivial⟩ ?_)
      refine XX.next (V' := [(1, _), (3, _), (7, _), (8, _), (9, _)]) ⟨rfl, rfl, rfl, rfl, rfl, trivial⟩ ?_
      refine CX.region ?_
      refine RX.cons rfl rfl (op_w (yw_add rfl rfl rfl (by omega) (by omega)) rfl rfl ?_)
      refine RX.cons rfl rfl (op_w (yw_move rfl rfl) rfl rfl ?_)
      refine RX.nil (XX.againP ([.row (some ⟨g9, 0, none⟩) 2 3 1 (List.map iC ([Ln.b x0, Ln.a x0])), .blk gl (.cells (lnC x0) 77 (0, 0))]) (i + 1, Ln.p x0) (by dsimp only; omega) ⟨by dsimp only; omega, by rw [hok, drop_cons hx0, okLs_cons, hgood, Bool.true_and]⟩ ⟨rfl, rfl, rfl, rfl, rfl, trivial⟩ ((perm_pick 2 rfl).trans (List.Perm.cons _ (List.Perm.refl _))))
 ·have hoka : okLs (-1) s.ls = true := by rw [hok, List.drop_eq_nil_of_le (by omega)]; rfl
  refine CX.exit ?_
  refine XX.then_exit ?_
  refine XX.then_exit ?_
  refine XX.block_exit ?_
  refine XX.next (V' := [(1, _)]) ⟨rfl, trivial⟩ ?_
  refine CX.seq ?_
  refine CX.region ?_
  refine RX.cons rfl rfl (op_w (yw_field0 rfl fld_25_0 rfl) rfl rfl ?_)
  refine RX.cons rfl rfl (op_yld (y_load (i := 0) rfl rfl one_3 rfl rfl) rfl rfl ?_)
  refine RX.cons rfl rfl (op_w (yw_geq rfl rfl rfl) rfl rfl ?_)
  refine RX.cons rfl rfl (op_w (yw_move rfl rfl) rfl rfl ?_)
  refine RX.splitD (t := 44) (p := 1 ≤ Stm.h s) rfl (fun d44 => ?_) (fun d44 => ?_)
  ·refine RX.consG rfl rfl rfl rfl rfl (op_w (yw_field0 rfl fld_25_0 rfl) rfl rfl ?_)
   refine RX.consG rfl rfl rfl rfl rfl (op_yld (y_load (i := 0) rfl rfl one_3 rfl rfl) rfl rfl ?_)
   refine RX.consG rfl rfl rfl rfl rfl (op_w (yw_leq rfl rfl rfl) rfl rfl ?_)
   refine RX.cons rfl rfl (op_w (yw_pickT rfl rfl rfl) rfl rfl ?_)
   refine RX.cons rfl rfl (op_w (yw_move rfl rfl) rfl rfl ?_)
   refine RX.splitD (t := 49) (p := Stm.h s ≤ 1000000) rfl (fun d49 => ?_) (fun d49 => ?_)
   ·refine RX.consG rfl rfl rfl rfl rfl (op_w (yw_fieldAddr rfl fld_25_1 rfl) rfl rfl ?_)
    refine RX.consG rfl rfl rfl rfl rfl (op_yld (y_load (i := 0) rfl rfl one_3 rfl rfl) rfl rfl ?_)
    refine RX.consG rfl rfl rfl rfl rfl (op_w (yw_geq rfl rfl rfl) rfl rfl ?_)
    refine RX.cons rfl rfl (op_w (yw_pickT rfl rfl rfl) rfl rfl ?_)
    refine RX.cons rfl rfl (op_w (yw_move rfl rfl) rfl rfl ?_)
    refine RX.splitD (t := 54) (p := 0 ≤ Stm.c s) rfl (fun d54 => ?_) (fun d54 => ?_)
    ·refine RX.consG rfl rfl rfl rfl rfl (op_w (yw_fieldAddr rfl fld_25_1 rfl) rfl rfl ?_)
     refine RX.consG rfl rfl rfl rfl rfl (op_yld (y_load (i := 0) rfl rfl one_3 rfl rfl) rfl rfl ?_)
     refine RX.consG rfl rfl rfl rfl rfl (op_w (yw_lss rfl rfl rfl) rfl rfl ?_)
     refine RX.cons rfl rfl (op_w (yw_pickT rfl rfl rfl) rfl rfl ?_)
     refine RX.cons rfl rfl (op_w (yw_move rfl rfl) rfl rfl ?_)
     refine RX.splitD (t := 59) (p := Stm.c s < 1200) rfl (fun d59 => ?_) (fun d59 => ?_)
     ·refine RX.consG rfl rfl rfl rfl rfl (op_w (yw_fieldAddr rfl fld_25_2 rfl) rfl rfl ?_)
      refine RX.consG rfl rfl rfl rfl rfl (op_yld (y_load (i := 0) rfl rfl one_23 rfl rfl) rfl rfl ?_)
      refine RX.consG rfl rfl rfl rfl rfl (op_w (yw_lenS rfl Tryz.underlying23 rfl) rfl rfl ?_)
      refine RX.consG rfl rfl rfl rfl rfl (op_w (yw_geq rfl rfl rfl) rfl rfl ?_)
      refine RX.cons rfl rfl (op_w (yw_pickT rfl rfl rfl) rfl rfl ?_)
      refine RX.cons rfl rfl (op_w (yw_assign rfl rfl) rfl rfl ?_)
      refine RX.nil (XX.next (V' := [(2, .bool (decide (1 ≤ ((List.length (Stm.ls s) : Nat) : Int))))]) ⟨rfl, trivial⟩ ?_)
      refine CX.ret ?_
      exact ret_tmp rfl rfl fun w1 hw => ⟨by rw [okS_end hoka]; simp [d44, d49, d54, d59], hw.sub (List.nil_sublist _)⟩
     ·refine RX.skip rfl rfl rfl rfl rfl rfl rfl ?_
      refine RX.skip rfl rfl rfl rfl rfl rfl rfl ?_
      refine RX.skip rfl rfl rfl rfl rfl rfl rfl ?_
      refine RX.skip rfl rfl rfl rfl rfl rfl rfl ?_
      refine RX.cons rfl rfl (op_w (yw_pickF rfl rfl rfl) rfl rfl ?_)
      refine RX.cons rfl rfl (op_w (yw_assign rfl rfl) rfl rfl ?_)
      refine RX.nil (XX.next (V' := [(2, .bool false)]) ⟨rfl, trivial⟩ ?_)
      refine CX.ret ?_
      exact ret_tmp rfl rfl fun w1 hw => ⟨by rw [okS_end hoka]; simp [d44, d49, d54, d59], hw.sub (List.nil_sublist _)⟩
    ·refine RX.skip rfl rfl rfl rfl rfl rfl rfl ?_
     refine RX.skip rfl rfl rfl rfl rfl rfl rfl ?_
     refine RX.skip rfl rfl rfl rfl rfl rfl rfl ?_
     refine RX.cons rfl rfl (op_w (yw_pickF rfl rfl rfl) rfl rfl ?_)
     refine RX.cons rfl rfl (op_w (yw_move rfl rfl) rfl rfl ?_)
     refine RX.skip rfl rfl rfl rfl rfl rfl rfl ?_
     refine RX.skip rfl rfl rfl rfl rfl rfl rfl ?_
     refine RX.skip rfl rfl rfl rfl rfl rfl rfl ?_
     refine RX.skip rfl rfl rfl rfl rfl rfl rfl ?_
     refine RX.cons rfl rfl (op_w (yw_pickF rfl rfl rfl) rfl rfl ?_)
     refine RX.cons rfl rfl (op_w (yw_assign rfl rfl) rfl rfl ?_)
     refine RX.nil (XX.next (V' := [(2, .bool false)]) ⟨rfl, trivial⟩ ?_)
     refine CX.ret ?_
     exact ret_tmp rfl rfl fun w1 hw => ⟨by rw [okS_end hoka]; simp [d44, d49, d54], hw.sub (List.nil_sublist _)⟩
   ·refine RX.skip rfl rfl rfl rfl rfl rfl rfl ?_
    refine RX.skip rfl rfl rfl rfl rfl rfl rfl ?_
    refine RX.skip rfl rfl rfl rfl rfl rfl rfl ?_
    refine RX.cons rfl rfl (op_w (yw_pickF rfl rfl rfl) rfl rfl ?_)
    refine RX.cons rfl rfl (op_w (yw_move rfl rfl) rfl rfl ?_)
    refine RX.skip rfl rfl rfl rfl rfl rfl rfl ?_
    refine RX.skip rfl rfl rfl rfl rfl rfl rfl ?_
    refine RX.skip rfl rfl rfl rfl rfl rfl rfl ?_
    refine RX.cons rfl rfl (op_w (yw_pickF rfl rfl rfl) rfl rfl ?_)
    refine RX.cons rfl rfl (op_w (yw_move rfl rfl) rfl rfl ?_)
    refine RX.skip rfl rfl rfl rfl rfl rfl rfl ?_
    refine RX.skip rfl rfl rfl rfl rfl rfl rfl ?_
    refine RX.skip rfl rfl rfl rfl rfl rfl rfl ?_
    refine RX.skip rfl rfl rfl rfl rfl rfl rfl ?_
    refine RX.cons rfl rfl (op_w (yw_pickF rfl rfl rfl) rfl rfl ?_)
    refine RX.cons rfl rfl (op_w (yw_assign rfl rfl) rfl rfl ?_)
    refine RX.nil (XX.next (V' := [(2, .bool false)]) ⟨rfl, trivial⟩ ?_)
    refine CX.ret ?_
    exact ret_tmp rfl rfl fun w1 hw => ⟨by rw [okS_end hoka]; simp [d44, d49], hw.sub (List.nil_sublist _)⟩
  ·refine RX.skip rfl rfl rfl rfl rfl rfl rfl ?_
   refine RX.skip rfl rfl rfl rfl rfl rfl rfl ?_
   refine RX.skip rfl rfl rfl rfl rfl rfl rfl ?_
   refine RX.cons rfl rfl (op_w (yw_pickF rfl rfl rfl) rfl rfl ?_)
   refine RX.cons rfl rfl (op_w (yw_move rfl rfl) rfl rfl ?_)
   refine RX.skip rfl rfl rfl rfl rfl rfl rfl ?_
   refine RX.skip rfl rfl rfl rfl rfl rfl rfl ?_
   refine RX.skip rfl rfl rfl rfl rfl rfl rfl ?_
   refine RX.cons rfl rfl (op_w (yw_pickF rfl rfl rfl) rfl rfl ?_)
   refine RX.cons rfl rfl (op_w (yw_move rfl rfl) rfl rfl ?_)
   refine RX.skip rfl rfl rfl rfl rfl rfl rfl ?_
   refine RX.skip rfl rfl rfl rfl rfl rfl rfl ?_
   refine RX.skip rfl rfl rfl rfl rfl rfl rfl ?_
   refine RX.cons rfl rfl (op_w (yw_pickF rfl rfl rfl) rfl rfl ?_)
   refine RX.cons rfl rfl (op_w (yw_move rfl rfl) rfl rfl ?_)
   refine RX.skip rfl rfl rfl rfl rfl rfl rfl ?_
   refine RX.skip rfl rfl rfl rfl rfl rfl rfl ?_
   refine RX.skip rfl rfl rfl rfl rfl rfl rfl ?_
   refine RX.skip rfl rfl rfl rfl rfl rfl rfl ?_
   refine RX.cons rfl rfl (op_w (yw_pickF rfl rfl rfl) rfl rfl ?_)
   refine RX.cons rfl rfl (op_w (yw_assign rfl rfl) rfl rfl ?_)
   refine RX.nil (XX.next (V' := [(2, .bool false)]) ⟨rfl, trivial⟩ ?_)
   refine CX.ret ?_
   exact ret_tmp rfl rfl fun w1 hw => ⟨by rw [okS_end hoka]; simp [d44], hw.sub (List.nil_sublist _)⟩

end Go.Proofs.YtnadipjlhlbfoaaGreatDoor
namespace Go.Proofs.YtnadipjlhlbfoaaGreatDoor
set_option linter.all false
open Go Go.RowKit
set_option maxRecDepth 100000
theorem ent_53 : ∀ args w, (callFunc 53 args).run Tryz.prog w = .ok (.enter 53 args) w := enters_of Tryz.func53 (by kernel_rfl) rfl
set_option maxRecDepth 100000 in
theorem w_put {w : World} {gb cap capb : Nat} {A B : Option Addr} {p : Value} (bs : List UInt8) (ns : List Int) (hr : Rd w B 1 (ns.map iC)) (hAO : ab B ∉ brO A gb) (hok : ∀ n ∈ ns, 0 ≤ n ∧ n ≤ 4611686018427387903) (hl : ns.length ≤ 1000000) (hb : bs.length ≤ 1099511627776) (hp : p = .pointer none ∨ p = .pointer (some ⟨gb, 0, none⟩)) (hs : SL w (brO A gb) w [.row A cap 5 1 (List.map u8c bs), .blk gb (.cells #[p, .slice A bs.length cap] 92 (0, 0))]) :
    Calls Tryz.prog 52 #[.slice B ns.length capb, .pointer (some ⟨gb, 0, none⟩)] w (fun e w' => ∃ z : (Option Addr × Nat) × Value, (z.2 = .pointer none ∨ z.2 = .pointer (some ⟨gb, 0, none⟩)) ∧ e = .returned (.tuple #[]) ∧ SL w (brO A gb) w' [.row z.1.1 z.1.2 5 1 (List.map u8c (bs ++ putL ns)), .blk gb (.cells #[z.2, .slice z.1.1 ((bs ++ putL ns).length) z.1.2] 92 (0, 0))]) := by
 refine calls_of_CX (O := (brO A gb)) (L := [.row A cap 5 1 (List.map u8c bs), .blk gb (.cells (#[p, .slice A (List.length (bs : List UInt8)) cap]) 92 (0, 0))]) (args := [.slice B ns.length capb, .pointer (some ⟨gb, 0, none⟩)]) Tryz.func52 rfl (by simp [Tryz.ntmps52]) hs ?_
 refine CX.sub (V' := [(0, .slice B ns.length capb), (1, .pointer (some ⟨gb, 0, none⟩))]) ⟨rfl, rfl, trivial⟩ ?_
 refine CX.seq ?_
 refine CX.region ?_
 refine RX.cons rfl rfl (op_w (yw_move rfl rfl) rfl rfl ?_)
 refine RX.cons rfl rfl (op_w (yw_lenS rfl Tryz.underlying43 rfl) rfl rfl ?_)
 refine RX.cons rfl rfl (op_w (yw_move rfl rfl) rfl rfl ?_)
 refine RX.nil (XX.next (V' := [(1, _), (7, _), (8, _), (9, _)]) ⟨rfl, rfl, rfl, rfl, trivial⟩ ?_)
 refine CX.block ?_
 refine CX.loop (σ := Nat × (Option Addr × Nat) × Value × List UInt8) (fun z => [(1, .pointer (some ⟨gb, 0, none⟩)), (7, .slice B ns.length capb), (8, .int .i64 ((ns.length : Nat) : Int)), (9, .int .i64 ((z.1 : Nat) : Int))]) (fun z => [.row z.2.1.1 z.2.1.2 5 1 (List.map u8c z.2.2.2), .blk gb (.cells (#[z.2.2.1, .slice z.2.1.1 (List.length (z.2.2.2 : List UInt8)) z.2.1.2]) 92 (0, 0))]) (fun z => z.1 ≤ ns.length ∧ (z.2.2.1 = .pointer none ∨ z.2.2.1 = .pointer (some ⟨gb, 0, none⟩)) ∧ z.2.2.2 = bs ++ putL (ns.take z.1)) (fun z => ns.length - z.1) (0, (A, cap), p, bs) ⟨Nat.zero_le _, hp, by simp [putL]⟩ ⟨rfl, rfl, rfl, rfl, trivial⟩ rfl (fun z hI => ?_)
 obtain ⟨i, ⟨A1, c1⟩, p1, b1⟩ := z
 dsimp only at hI ⊢
 obtain ⟨hi, hp, hb1⟩ := hI
 refine CX.seq ?_
 refine CX.region ?_
 refine RX.cons rfl rfl (op_w (yw_lss rfl rfl rfl) rfl rfl ?_)
 refine RX.nil (XX.next (V' := [(1, _), (7, _), (8, _), (9, _), (10, _)]) ⟨rfl, rfl, rfl, rfl, rfl, trivial⟩ ?_)
 refine CX.seq ?_
 refine CX.condD (p := ((i : Nat) : Int) < ((ns.length : Nat) : Int)) rfl (fun c10 => ?_) (fun c10 => ?_)
 ·obtain ⟨n0, hn0⟩ := get_some (l := ns) (k := i) (by omega)
  obtain ⟨hn1, hn2⟩ := hok n0 (List.mem_of_getElem? hn0)
  have hA : ∃ b j, B = some ⟨b, j, none⟩ := hr.some (k := 0) (by simp; omega)
  have hpl := putL_le (ns.take i)
  have hbl : b1.length = bs.length + (putL (ns.take i)).length := by rw [hb1, List.length_append]
  rw [List.length_take] at hpl
  have hel := encI_le n0.toNat
  refine CX.skip (XX.next (V' := [(1, _), (7, _), (8, _), (9, _)]) ⟨rfl, rfl, rfl, rfl, trivial⟩ ?_)
  refine CX.seq ?_
  refine CX.block ?_
  refine CX.seq ?_
  refine CX.region ?_
  refine RX.cons rfl rfl (op_w (yw_index (k := i) rfl slt_43 rfl rfl (by omega) (by omega) hA) rfl rfl ?_)
  refine RX.cons rfl rfl (op_yld (y_elem1 rfl rfl one_3 hr hAO (map_get hn0)) rfl rfl ?_)
  refine RX.cons rfl rfl (op_w (yw_assign rfl rfl) rfl rfl ?_)
  refine RX.nil (XX.next (V' := [(1, _), (4, _), (7, _), (8, _), (9, _)]) ⟨rfl, rfl, rfl, rfl, rfl, trivial⟩ ?_)
  refine CX.seq ?_
  refine CX.region ?_
  refine RX.cons rfl rfl (op_w (yw_move rfl rfl) rfl rfl ?_)
  refine RX.know (t := 14) (u := .int .i64 ((n0.toNat : Nat) : Int)) rfl (congrArg (Value.int .i64) (by omega)) ?_
  refine RX.cons rfl rfl (op_callV (v := .tuple #[.string (⟨List.toArray (encI n0.toNat)⟩), .int .i64 0]) rfl rfl rfl rfl rfl ent_53 (fun w hw => w_putInt n0.toNat (by omega)) ?_)
  refine RX.cons rfl rfl (op_w (yw_move rfl rfl) rfl rfl ?_)
  refine RX.cons rfl rfl (op_w (yw_extract rfl rfl rfl) rfl rfl ?_)
  refine RX.cons rfl rfl (op_w (yw_extract rfl rfl rfl) rfl rfl ?_)
  refine RX.cons rfl rfl (op_w (yw_assign rfl rfl) rfl rfl ?_)
  refine RX.cons rfl rfl (op_w (yw_assign rfl rfl) rfl rfl ?_)
  refine RX.nil (XX.next (V' := [(1, _), (5, _), (7, _), (8, _), (9, _)]) ⟨rfl, rfl, rfl, rfl, rfl, trivial⟩ ?_)
  refine CX.region ?_
  refine RX.cons rfl rfl (op_w (yw_move rfl rfl) rfl rfl ?_)
  refine RX.cons rfl rfl (op_callP [.row A1 c1 5 1 (List.map u8c b1), .blk gb (.cells (#[p1, .slice A1 (List.length (b1 : List UInt8)) c1]) 92 (0, 0))] [] rfl rfl rfl rfl rfl ent_54 ((perm_pick 0 rfl).trans (List.Perm.cons _ ((perm_pick 0 rfl).trans (List.Perm.cons _ (List.Perm.refl _))))) (σ := Option Addr × Nat) (val := fun _ => .tuple #[.int .i64 ((ByteArray.size (⟨List.toArray (encI n0.toNat)⟩) : Nat) : Int), .nilIface]) (LL := fun z => [.row z.1 z.2 5 1 (List.map u8c (b1 ++ encI n0.toNat)), .blk gb (.cells #[.pointer (some ⟨gb, 0, none⟩), .slice z.1 (List.length ((b1 ++ encI n0.toNat) : List UInt8)) z.2] 92 (0, 0))]) (post := fun z => A1 = none → ByteArray.size (⟨List.toArray (encI n0.toNat)⟩) = 0 → z.1 = none) (fun w hw hs => w_write b1 (⟨List.toArray (encI n0.toNat)⟩) hp (by show b1.length + (encI n0.toNat).toArray.size ≤ _; simp; omega) hs) (fun zw hzw => ?_))
  refine RX.nil (XX.inBlock (V' := [(1, _), (7, _), (8, _), (9, _)]) ⟨rfl, rfl, rfl, rfl, trivial⟩ ?_)
  refine XX.next (V' := [(1, _), (7, _), (8, _), (9, _)]) ⟨rfl, rfl, rfl, rfl, trivial⟩ ?_
  refine CX.region ?_
  refine RX.cons rfl rfl (op_w (yw_add rfl rfl rfl (by omega) (by omega)) rfl rfl ?_)
  refine RX.cons rfl rfl (op_w (yw_move rfl rfl) rfl rfl ?_)
  refine RX.nil (XX.againP ([]) (i + 1, zw, .pointer (some ⟨gb, 0, none⟩), b1 ++ encI n0.toNat) (by dsimp only; omega) ⟨by dsimp only; omega, .inr rfl, by dsimp only; rw [hb1, take_succ hn0, putL_snoc, List.append_assoc]⟩ ⟨rfl, rfl, rfl, rfl, trivial⟩ ((perm_pick 0 rfl).trans (List.Perm.cons _ ((perm_pick 0 rfl).trans (List.Perm.cons _ (List.Perm.refl _))))))
 ·have hb2 : b1 = bs ++ putL ns := by rw [hb1, List.take_of_length_le (by omega)]
  refine CX.exit ?_
  refine XX.then_exit ?_
  refine XX.then_exit ?_
  refine XX.block_exit ?_
  exact end_none rfl fun w1 hw => ⟨((A1, c1), p1), hp, rfl, by rw [← hb2]; exact hw⟩

end Go.Proofs.YtnadipjlhlbfoaaGreatDoor
namespace Go.Proofs.YtnadipjlhlbfoaaGreatDoor
set_option linter.all false
open Go Go.RowKit
set_option maxRecDepth 100000
theorem agg_25 : AggT Tryz.prog 25 3 := ⟨_, _, Tryz.underlying25, rfl, (by kernel_rfl : Tryz.prog.info? 25 = some (Tryz.prog.info? 25).get!), by kernel_rfl⟩
theorem ent_51 : ∀ args w, (callFunc 51 args).run Tryz.prog w = .ok (.enter 51 args) w := enters_of Tryz.func51 (by kernel_rfl) rfl
theorem ent_52 : ∀ args w, (callFunc 52 args).run Tryz.prog w = .ok (.enter 52 args) w := enters_of Tryz.func52 (by kernel_rfl) rfl
/-- What Encode answers. -/
def encR (s : Stm) : Value := if okS s = true then .tuple #[.string ⟨(encL s).toArray⟩, .int .i64 0] else .tuple #[.string .empty, .int .i64 190]
theorem encR_ok {s : Stm} (h : okS s = true) : encR s = .tuple #[.string ⟨(encL s).toArray⟩, .int .i64 0] := if_pos h
theorem encR_bad {s : Stm} (h : okS s = false) : encR s = .tuple #[.string .empty, .int .i64 190] := if_neg (by rw [h]; decide)
set_option maxRecDepth 100000 in
theorem w_encode {w : World} {A : Option Addr} {cap : Nat} (s : Stm) (hr : Rd w A 3 (s.ls.map lnC)) (hl : s.ls.length ≤ 1000000) :
    Calls Tryz.prog 24 #[.agg (#[.int .i64 (Stm.h s), .int .i64 (Stm.c s), .slice A (List.length (Stm.ls s)) cap])] w (fun e w' => e = .returned (encR s) ∧ SL w [] w' []) := by
 refine calls_of_CX (O := []) (L := []) (args := [.agg (#[.int .i64 (Stm.h s), .int .i64 (Stm.c s), .slice A (List.length (Stm.ls s)) cap])]) Tryz.func24 rfl (by simp [Tryz.ntmps24]) (SL.refl w) ?_
 refine CX.sub (V' := [(0, .agg (#[.int .i64 (Stm.h s), .int .i64 (Stm.c s), .slice A (List.length (Stm.ls s)) cap]))]) ⟨rfl, trivial⟩ ?_
 refine CX.seq ?_
 refine CX.region ?_
 refine RX.cons rfl rfl (op_box rfl rfl rfl rfl fun gs => ?_)
 refine RX.cons rfl rfl (op_w (yw_assign rfl rfl) rfl rfl ?_)
 refine RX.cons rfl rfl (op_w (yw_assign rfl rfl) rfl rfl ?_)
 refine RX.nil (XX.next (V' := [(1, _)]) ⟨rfl, trivial⟩ ?_)
 refine CX.seq ?_
 refine CX.seq ?_
 refine CX.region ?_
 refine RX.cons rfl rfl (op_yld (y_loadA (i := 0) rfl rfl agg_25 rfl rfl) rfl rfl ?_)
 refine RX.cons rfl rfl (op_callV (v := .bool (okS s)) rfl rfl rfl rfl rfl ent_51 (fun w hw => w_valid s (hw.rd hr (by simp)) hl) ?_)
 refine RX.cons rfl rfl (op_w (yw_not rfl rfl) rfl rfl ?_)
 refine RX.nil (XX.next (V' := [(1, _), (10, _)]) ⟨rfl, rfl, trivial⟩ ?_)
 refine CX.cond (b := !(okS s)) rfl (fun c10 => ?_) (fun c10 => ?_)
 ·refine CX.seq ?_
  refine CX.region ?_
  refine RX.cons rfl rfl (op_w (yw_assign rfl rfl) rfl rfl ?_)
  refine RX.cons rfl rfl (op_w (yw_assign rfl rfl) rfl rfl ?_)
  refine RX.nil (XX.next (V' := [(2, .string .empty), (3, .int .i64 190)]) ⟨rfl, rfl, trivial⟩ ?_)
  refine CX.ret ?_
  refine XX.then_ret ?_
  exact ret_tmp2 rfl rfl rfl fun w1 hw => ⟨by rw [encR_bad (by simpa using c10)], hw.sub (List.nil_sublist _)⟩
 ·refine CX.skip (XX.next (V' := [(1, _)]) ⟨rfl, trivial⟩ ?_)
  refine CX.seq ?_
  refine CX.region ?_
  refine RX.cons rfl rfl (op_alloc rfl rfl rfl zero_92 fun gb => ?_)
  refine RX.nil (XX.next (V' := [(1, _), (4, _)]) ⟨rfl, rfl, trivial⟩ ?_)
  refine CX.seq ?_
  have hok : okS s = true := by simpa using c10
  obtain ⟨hoL, ho1, ho2, ho3, ho4, ho5⟩ := okS_parts hok
  have hall := okL_all hoL
  refine CX.rowNil 5 1 ?_
  refine CX.region ?_
  refine RX.cons rfl rfl (op_w (yw_makeFunc rfl rfl rfl) rfl rfl ?_)
  refine RX.cons rfl rfl (op_w (yw_assign rfl rfl) rfl rfl ?_)
  refine RX.nil (XX.next (V' := [(1, _), (4, _), (5, _)]) ⟨rfl, rfl, rfl, trivial⟩ ?_)
  refine CX.seq ?_
  refine CX.region ?_
  refine RX.cons rfl rfl (op_w (yw_move rfl rfl) rfl rfl ?_)
  refine RX.cons rfl rfl (op_w (yw_field0 rfl fld_25_0 rfl) rfl rfl ?_)
  refine RX.cons rfl rfl (op_yld (y_load (i := 2) rfl rfl one_3 rfl rfl) rfl rfl ?_)
  refine RX.cons rfl rfl (op_w (yw_fieldAddr rfl fld_25_1 rfl) rfl rfl ?_)
  refine RX.cons rfl rfl (op_yld (y_load (i := 2) rfl rfl one_3 rfl rfl) rfl rfl ?_)
  refine RX.cons rfl rfl (op_w (yw_fieldAddr rfl fld_25_2 rfl) rfl rfl ?_)
  refine RX.cons rfl rfl (op_yld (y_load (i := 2) rfl rfl one_23 rfl rfl) rfl rfl ?_)
  refine RX.cons rfl rfl (op_w (yw_lenS rfl Tryz.underlying23 rfl) rfl rfl ?_)
  refine RX.cons rfl rfl (op_buildSlice rfl rfl rfl slb_43 rfl rfl (by intro v hv; simp only [List.mem_cons, List.not_mem_nil, or_false] at hv; rcases hv with rfl | rfl | rfl <;> exact ⟨rfl, (plain_of rfl)⟩) (by decide) fun g8 => ?_)
  refine RX.cons rfl rfl (op_callP [.row none 0 5 1 (List.map u8c ([])), .blk gb (.cells (#[.pointer none, .slice none 0 0]) 92 (0, 0))] [.row (some ⟨g8, 0, none⟩) 3 3 1 (List.map iC ([Stm.h s, Stm.c s, ((List.length (Stm.ls s) : Nat) : Int)])), .blk gs (.cells (#[.int .i64 (Stm.h s), .int .i64 (Stm.c s), .slice A (List.length (Stm.ls s)) cap]) 25 (0, 0))] rfl rfl rfl rfl rfl ent_52 ((perm_pick 1 rfl).trans (List.Perm.cons _ ((perm_pick 1 rfl).trans (List.Perm.cons _ (List.Perm.refl _))))) (σ := (Option Addr × Nat) × Value) (val := fun _ => .tuple #[]) (LL := fun z => [.row z.1.1 z.1.2 5 1 (List.map u8c ([] ++ putL ([Stm.h s, Stm.c s, ((List.length (Stm.ls s) : Nat) : Int)]))), .blk gb (.cells #[z.2, .slice z.1.1 (List.length (([] ++ putL ([Stm.h s, Stm.c s, ((List.length (Stm.ls s) : Nat) : Int)])) : List UInt8)) z.1.2] 92 (0, 0))]) (post := fun z => z.2 = .pointer none ∨ z.2 = .pointer (some ⟨gb, 0, none⟩)) (fun w hw hs => w_put (gb := gb) (A := none) (cap := 0) ([]) ([Stm.h s, Stm.c s, ((List.length (Stm.ls s) : Nat) : Int)]) (Ent.rd (hw.ents _ (List.mem_of_getElem? (i := 2) rfl))) (SL.apart hw 0 rfl (by simp [Ent.blocks, ab])) (by intro n hn; simp only [List.mem_cons, List.not_mem_nil, or_false] at hn; rcases hn with rfl | rfl | rfl <;> omega) (by simp) (by simp) (.inl rfl) hs) (fun zp hzp => ?_))
  refine RX.nil (XX.next (V' := [(1, _), (4, _), (5, _)]) ⟨rfl, rfl, rfl, trivial⟩ ?_)
  refine CX.seq ?_
  refine CX.seq ?_
  refine CX.region ?_
  refine RX.cons rfl rfl (op_w (yw_fieldAddr rfl fld_25_2 rfl) rfl rfl ?_)
  refine RX.cons rfl rfl (op_yld (y_load (i := 3) rfl rfl one_23 rfl rfl) rfl rfl ?_)
  refine RX.cons rfl rfl (op_w (yw_lenS rfl Tryz.underlying23 rfl) rfl rfl ?_)
  refine RX.cons rfl rfl (op_w (yw_move rfl rfl) rfl rfl ?_)
  refine RX.nil (XX.next (V' := [(4, _), (5, _), (23, _), (24, _), (25, _)]) ⟨rfl, rfl, rfl, rfl, rfl, trivial⟩ ?_)
  refine CX.block ?_
  refine CX.drop (L' := [.row zp.1.1 zp.1.2 5 1 (List.map u8c ([] ++ putL ([Stm.h s, Stm.c s, ((List.length (Stm.ls s) : Nat) : Int)]))), .blk gb (.cells (#[zp.2, .slice zp.1.1 (List.length (([] ++ putL ([Stm.h s, Stm.c s, ((List.length (Stm.ls s) : Nat) : Int)])) : List UInt8)) zp.1.2]) 92 (0, 0)), .blk gs (.cells (#[.int .i64 (Stm.h s), .int .i64 (Stm.c s), .slice A (List.length (Stm.ls s)) cap]) 25 (0, 0))]) (List.Sublist.cons_cons _ (List.Sublist.cons_cons _ (List.Sublist.cons _ (List.Sublist.refl _)))) ?_
  have hb0 : ([] ++ putL [Stm.h s, Stm.c s, ((List.length (Stm.ls s) : Nat) : Int)]).length ≤ 30 := putL_le _
  refine CX.loop (σ := Nat × (Option Addr × Nat) × Value × List UInt8) (fun z => [(4, .pointer (some ⟨gb, 0, none⟩)), (5, .func (.func 52) #[] #[.pointer (some ⟨gb, 0, none⟩)]), (23, .slice A (List.length (Stm.ls s)) cap), (24, .int .i64 ((List.length (Stm.ls s) : Nat) : Int)), (25, .int .i64 ((z.1 : Nat) : Int))]) (fun z => [.row z.2.1.1 z.2.1.2 5 1 (List.map u8c z.2.2.2), .blk gb (.cells (#[z.2.2.1, .slice z.2.1.1 (List.length (z.2.2.2 : List UInt8)) z.2.1.2]) 92 (0, 0)), .blk gs (.cells (#[.int .i64 (Stm.h s), .int .i64 (Stm.c s), .slice A (List.length (Stm.ls s)) cap]) 25 (0, 0))]) (fun z => z.1 ≤ s.ls.length ∧ (z.2.2.1 = .pointer none ∨ z.2.2.1 = .pointer (some ⟨gb, 0, none⟩)) ∧ z.2.2.2 = putL [Stm.h s, Stm.c s, ((List.length (Stm.ls s) : Nat) : Int)] ++ putL (numsL (s.ls.take z.1))) (fun z => s.ls.length - z.1) (0, zp.1, zp.2, [] ++ putL [Stm.h s, Stm.c s, ((List.length (Stm.ls s) : Nat) : Int)]) ⟨Nat.zero_le _, hzp, by simp [putL, numsL]⟩ ⟨rfl, rfl, rfl, rfl, rfl, trivial⟩ rfl (fun z hI => ?_)
  obtain ⟨i, ⟨A1, c1⟩, p1, b1⟩ := z
  dsimp only at hI ⊢
  obtain ⟨hi, hp, hb1⟩ := hI
  refine CX.seq ?_
  refine CX.region ?_
  refine RX.cons rfl rfl (op_w (yw_lss rfl rfl rfl) rfl rfl ?_)
  refine RX.nil (XX.next (V' := [(4, _), (5, _), (23, _), (24, _), (25, _), (26, _)]) ⟨rfl, rfl, rfl, rfl, rfl, rfl, trivial⟩ ?_)
  refine CX.seq ?_
  refine CX.condD (p := ((i : Nat) : Int) < ((List.length (Stm.ls s) : Nat) : Int)) rfl (fun c26 => ?_) (fun c26 => ?_)
  ·obtain ⟨x0, hx0⟩ := get_some (l := s.ls) (k := i) (by omega)
   have hA : ∃ b j, A = some ⟨b, j, none⟩ := hr.some (k := 0) (by simp; omega)
   obtain ⟨hx1, hx2, hx3, hx4, _⟩ := hall x0 (List.mem_of_getElem? hx0)
   have hl1 := putL_le [Stm.h s, Stm.c s, ((List.length (Stm.ls s) : Nat) : Int)]
   have hl2 := putL_le (numsL (s.ls.take i))
   rw [numsL_length, List.length_take] at hl2
   have hl3 : b1.length = (putL [Stm.h s, Stm.c s, ((List.length (Stm.ls s) : Nat) : Int)]).length + (putL (numsL (s.ls.take i))).length := by rw [hb1, List.length_append]
   simp only [List.length_cons, List.length_nil] at hl1
   refine CX.skip (XX.next (V' := [(4, _), (5, _), (23, _), (24, _), (25, _)]) ⟨rfl, rfl, rfl, rfl, rfl, trivial⟩ ?_)
   refine CX.seq ?_
   refine CX.block ?_
   refine CX.seq ?_
   refine CX.region ?_
   refine RX.cons rfl rfl (op_w (yw_index (k := i) rfl slt_23 rfl rfl (by omega) (by omega) hA) rfl rfl ?_)
   refine RX.cons rfl rfl (op_yld (y_elem rfl rfl agg_77 hr (by simp) (map_get hx0)) rfl rfl ?_)
   refine RX.cons rfl rfl (op_alloc rfl rfl rfl zero_77 fun gl => ?_)
   refine RX.cons rfl rfl (op_storeAll (i := 0) rfl rfl rfl rfl szt_77 rfl (plain_of rfl) rfl rfl ?_)
   refine RX.nil (XX.next (V' := [(4, _), (5, _), (7, _), (23, _), (24, _), (25, _)]) ⟨rfl, rfl, rfl, rfl, rfl, rfl, trivial⟩ ?_)
   refine CX.region ?_
   refine RX.cons rfl rfl (op_w (yw_move rfl rfl) rfl rfl ?_)
   refine RX.cons rfl rfl (op_w (yw_field0 rfl fld_77_0 rfl) rfl rfl ?_)
   refine RX.cons rfl rfl (op_yld (y_load (i := 0) rfl rfl one_3 rfl rfl) rfl rfl ?_)
   refine RX.cons rfl rfl (op_w (yw_fieldAddr rfl fld_77_1 rfl) rfl rfl ?_)
   refine RX.cons rfl rfl (op_yld (y_load (i := 0) rfl rfl one_3 rfl rfl) rfl rfl ?_)
   refine RX.cons rfl rfl (op_w (yw_fieldAddr rfl fld_77_2 rfl) rfl rfl ?_)
   refine RX.cons rfl rfl (op_yld (y_load (i := 0) rfl rfl one_3 rfl rfl) rfl rfl ?_)
   refine RX.cons rfl rfl (op_buildSlice rfl rfl rfl slb_43 rfl rfl (by intro v hv; simp only [List.mem_cons, List.not_mem_nil, or_false] at hv; rcases hv with rfl | rfl | rfl <;> exact ⟨rfl, (plain_of rfl)⟩) (by decide) fun g9 => ?_)
   refine RX.cons rfl rfl (op_callP [.row A1 c1 5 1 (List.map u8c b1), .blk gb (.cells (#[p1, .slice A1 (List.length (b1 : List UInt8)) c1]) 92 (0, 0))] [.row (some ⟨g9, 0, none⟩) 3 3 1 (List.map iC ([Ln.p x0, Ln.b x0, Ln.a x0])), .blk gl (.cells (lnC x0) 77 (0, 0)), .blk gs (.cells (#[.int .i64 (Stm.h s), .int .i64 (Stm.c s), .slice A (List.length (Stm.ls s)) cap]) 25 (0, 0))] rfl rfl rfl rfl rfl ent_52 ((perm_pick 2 rfl).trans (List.Perm.cons _ ((perm_pick 2 rfl).trans (List.Perm.cons _ (List.Perm.refl _))))) (σ := (Option Addr × Nat) × Value) (val := fun _ => .tuple #[]) (LL := fun z => [.row z.1.1 z.1.2 5 1 (List.map u8c (b1 ++ putL ([Ln.p x0, Ln.b x0, Ln.a x0]))), .blk gb (.cells #[z.2, .slice z.1.1 (List.length ((b1 ++ putL ([Ln.p x0, Ln.b x0, Ln.a x0])) : List UInt8)) z.1.2] 92 (0, 0))]) (post := fun z => z.2 = .pointer none ∨ z.2 = .pointer (some ⟨gb, 0, none⟩)) (fun w hw hs => w_put (gb := gb) (A := A1) (cap := c1) b1 ([Ln.p x0, Ln.b x0, Ln.a x0]) (Ent.rd (hw.ents _ (List.mem_of_getElem? (i := 2) rfl))) (SL.apart hw 0 rfl (by simp [Ent.blocks, ab])) (by intro n hn; simp only [List.mem_cons, List.not_mem_nil, or_false] at hn; rcases hn with rfl | rfl | rfl <;> omega) (by simp) (by omega) hp hs) (fun zq hzq => ?_))
   refine RX.nil (XX.inBlock (V' := [(4, _), (5, _), (23, _), (24, _), (25, _)]) ⟨rfl, rfl, rfl, rfl, rfl, trivial⟩ ?_)
   refine XX.next (V' := [(4, _), (5, _), (23, _), (24, _), (25, _)]) ⟨rfl, rfl, rfl, rfl, rfl, trivial⟩ ?_
   refine CX.region ?_
   refine RX.cons rfl rfl (op_w (yw_add rfl rfl rfl (by omega) (by omega)) rfl rfl ?_)
   refine RX.cons rfl rfl (op_w (yw_move rfl rfl) rfl rfl ?_)
   refine RX.nil (XX.againP ([.row (some ⟨g9, 0, none⟩) 3 3 1 (List.map iC ([Ln.p x0, Ln.b x0, Ln.a x0])), .blk gl (.cells (lnC x0) 77 (0, 0))]) (i + 1, zq.1, zq.2, b1 ++ putL [Ln.p x0, Ln.b x0, Ln.a x0]) (by dsimp only; omega) ⟨by dsimp only; omega, hzq, by dsimp only; rw [hb1, numsL_succ hx0, putL_append, List.append_assoc]⟩ ⟨rfl, rfl, rfl, rfl, rfl, trivial⟩ ((perm_pick 0 rfl).trans (List.Perm.cons _ ((perm_pick 0 rfl).trans (List.Perm.cons _ ((perm_pick 2 rfl).trans (List.Perm.cons _ (List.Perm.refl _))))))))
  ·have hbe : b1 = encL s := by rw [hb1, List.take_of_length_le (by omega)]; rfl
   have hne : b1 ≠ [] := by
     intro e
     have := encI_pos s.h.toNat
     have h2 := congrArg List.length (hbe.symm.trans e)
     simp only [encL, putL, List.flatMap_cons, List.length_append, List.length_nil] at h2
     omega
   refine CX.exit ?_
   refine XX.then_exit ?_
   refine XX.then_exit ?_
   refine XX.block_exit ?_
   refine XX.next (V' := [(4, _)]) ⟨rfl, trivial⟩ ?_
   refine CX.seq ?_
   refine CX.region ?_
   refine RX.cons rfl rfl (op_callP [.row A1 c1 5 1 (List.map u8c b1), .blk gb (.cells (#[p1, .slice A1 (List.length (b1 : List UInt8)) c1]) 92 (0, 0))] [.blk gs (.cells (#[.int .i64 (Stm.h s), .int .i64 (Stm.c s), .slice A (List.length (Stm.ls s)) cap]) 25 (0, 0))] rfl rfl rfl rfl rfl ent_55 ((perm_pick 0 rfl).trans (List.Perm.cons _ ((perm_pick 0 rfl).trans (List.Perm.cons _ (List.Perm.refl _))))) (σ := Unit) (val := fun _ => .string ⟨List.toArray b1⟩) (LL := fun _ => [.blk gb (.cells #[p1, .slice A1 (List.length (b1 : List UInt8)) c1] 92 (0, 0))]) (post := fun _ => True) (fun w hw hs => (w_str b1 (fun h => absurd h hne) hs).mono fun e w' h => ⟨(), trivial, h⟩) (fun _ _ => ?_))
   refine RX.cons rfl rfl (op_w (yw_assign rfl rfl) rfl rfl ?_)
   refine RX.cons rfl rfl (op_w (yw_assign rfl rfl) rfl rfl ?_)
   refine RX.nil (XX.next (V' := [(2, .string (⟨List.toArray b1⟩)), (3, .int .i64 0)]) ⟨rfl, rfl, trivial⟩ ?_)
   refine CX.ret ?_
   exact ret_tmp2 rfl rfl rfl fun w1 hw => ⟨by rw [encR_ok hok, ← hbe], hw.sub (List.nil_sublist _)⟩

end Go.Proofs.YtnadipjlhlbfoaaGreatDoor
namespace Go.Proofs.YtnadipjlhlbfoaaGreatDoor
set_option linter.all false
open Go Go.RowKit
def packB : List Ent → List Nat
  | [] => []
  | e :: es => e.blocks ++ packB es
theorem packB_eq (es : List Ent) : packB es = es.flatMap Ent.blocks := by
  induction es with
  | nil => rfl
  | cons e es ih => rw [List.flatMap_cons, ← ih]; rfl
/-- Entries packed into one. -/
def pack (es : List Ent) : Ent :=
  .gen (es.flatMap Ent.blocks) (fun w => ∀ e ∈ es, e.sat w)
    (fun w h b hb => by
      obtain ⟨e, he, hbe⟩ := List.mem_flatMap.1 hb
      exact Ent.lt (h e he) hbe)
    (fun w w' h hk e he => Ent.keep (h e he) (fun b hb => hk b (List.mem_flatMap.2 ⟨e, he, hb⟩)))
theorem pack_blocks (es : List Ent) : (pack es).blocks = es.flatMap Ent.blocks := rfl
section
variable {P : Program} {w0 : World} {O : List Nat} {n : Nat} {D : List Deferred} {o : Oper} {V : List (Nat × Value)} {L : List Ent} {T : List (Nat × Value) → List Ent → Prop} {Q : Exit → Act → World → Prop} {c : Code} {r : Option Nat}
theorem SL.pack {w : World} {es : List Ent} (h : SL w0 O w (es ++ L)) : SL w0 O w (pack es :: L) := by
  refine ⟨h.os, h.tape, h.output, h.size, h.same, ?_, ?_, ?_⟩
  · intro p hp
    rcases List.mem_cons.1 hp with rfl | hp
    · exact fun e he => h.ents e (List.mem_append_left _ he)
    · exact h.ents p (List.mem_append_right _ hp)
  · have := h.nodup
    rw [List.flatMap_append] at this
    rw [List.flatMap_cons, pack_blocks]
    exact this
  · intro p hp b hb
    rcases List.mem_cons.1 hp with rfl | hp
    · rw [pack_blocks] at hb
      obtain ⟨e, he, hbe⟩ := List.mem_flatMap.1 hb
      exact h.own e (List.mem_append_left _ he) b hbe
    · exact h.own p (List.mem_append_right _ hp) b hb
theorem SL.unpack {w : World} {es : List Ent} (h : SL w0 O w (Go.Proofs.YtnadipjlhlbfoaaGreatDoor.pack es :: L)) : SL w0 O w (es ++ L) := by
  refine ⟨h.os, h.tape, h.output, h.size, h.same, ?_, ?_, ?_⟩
  · intro p hp
    rcases List.mem_append.1 hp with hp | hp
    · exact h.ents (Go.Proofs.YtnadipjlhlbfoaaGreatDoor.pack es) List.mem_cons_self p hp
    · exact h.ents p (List.mem_cons_of_mem _ hp)
  · have := h.nodup
    rw [List.flatMap_cons, pack_blocks] at this
    rw [List.flatMap_append]
    exact this
  · intro p hp b hb
    rcases List.mem_append.1 hp with hp | hp
    · exact h.own (Go.Proofs.YtnadipjlhlbfoaaGreatDoor.pack es) List.mem_cons_self b (List.mem_flatMap.2 ⟨p, hp, hb⟩)
    · exact h.own p (List.mem_cons_of_mem _ hp) b hb
/-- An entry more in a pack. -/
theorem SL.packMore {w : World} {es : List Ent} {e : Ent} (h : SL w0 O w (e :: Go.Proofs.YtnadipjlhlbfoaaGreatDoor.pack es :: L)) : SL w0 O w (Go.Proofs.YtnadipjlhlbfoaaGreatDoor.pack (es ++ [e]) :: L) := by
  have h1 : SL w0 O w (Go.Proofs.YtnadipjlhlbfoaaGreatDoor.pack es :: e :: L) := h.perm (List.Perm.swap _ _ _)
  have h2 := h1.unpack
  have h3 : SL w0 O w ((es ++ [e]) ++ L) := by rw [List.append_assoc]; exact h2
  exact h3.pack
theorem SL.packNil {w : World} (h : SL w0 O w L) : SL w0 O w (Go.Proofs.YtnadipjlhlbfoaaGreatDoor.pack [] :: L) := SL.pack (es := []) h
theorem SL.packRd {w : World} (h : SL w0 O w L) {i : Nat} {es : List Ent} (hL : L[i]? = some (Go.Proofs.YtnadipjlhlbfoaaGreatDoor.pack es)) {A : Option Addr} {cap : Nat} {e : TypeId} {sz : Nat} {xs : List (Array Value)} (he : Ent.row A cap e sz xs ∈ es) : Rd w A sz xs :=
  Ent.rd ((h.ents _ (List.mem_of_getElem? hL) : ∀ e ∈ es, e.sat w) _ he)
theorem CX.packNil (h : CX P r Q w0 O n D c V (pack [] :: L)) : CX P r Q w0 O n D c V L := fun a w ha hw => h a w ha hw.packNil
/-- Entry i goes into the pack j. -/
theorem CX.packMore {L' : List Ent} {e : Ent} {es : List Ent} (hL : L.Perm (e :: pack es :: L')) (h : CX P r Q w0 O n D c V (pack (es ++ [e]) :: L')) : CX P r Q w0 O n D c V L := fun a w ha hw => h a w ha (SL.packMore (hw.perm hL))
theorem CX.packMoreE {L' : List Ent} {e : Ent} {es es' : List Ent} (he : es' = es ++ [e]) (hL : L.Perm (e :: pack es :: L')) (h : CX P r Q w0 O n D c V (pack es' :: L')) : CX P r Q w0 O n D c V L := by
  subst he
  exact CX.packMore hL h
end
end Go.Proofs.YtnadipjlhlbfoaaGreatDoor
namespace Go.Proofs.YtnadipjlhlbfoaaGreatDoor
set_option linter.all false
open Go Go.RowKit
theorem made_flat {z : Array Value} {sz : Nat} (hz : z.size = sz) (h0 : 0 < sz) : ∀ n : Nat, (madeCells z (n * sz)).toList = flat (List.replicate n z) := by
  intro n
  apply List.ext_getElem?
  intro q
  have hlen : (flat (List.replicate n z)).length = n * sz := by
    rw [flat_length (sz := sz) (fun c hc => by rw [(List.mem_replicate.1 hc).2]; exact hz), List.length_replicate]
  by_cases hq : q < n * sz
  · have hk : q / sz < n := Nat.div_lt_of_lt_mul (by rw [Nat.mul_comm]; exact hq)
    have hr : q % sz < sz := Nat.mod_lt _ h0
    have hqe : q = q / sz * sz + q % sz := by rw [Nat.mul_comm]; exact (Nat.div_add_mod q sz).symm
    have h1 := flat_get (xs := List.replicate n z) (sz := sz) (k := q / sz) (j := q % sz) (c := z) (fun c hc => by rw [(List.mem_replicate.1 hc).2]; exact hz) (by rw [List.getElem?_replicate, if_pos hk]) hr
    rw [← hqe] at h1
    rw [h1]
    have h2 : q < (madeCells z (n * sz)).size := by rw [size_madeCells]; exact hq
    rw [Array.getElem?_toList, Array.getElem?_eq_getElem h2]
    simp [madeCells, hz]
    rw [Array.getElem?_eq_getElem (by omega), getElem!_pos z _ (by omega)]
  · rw [List.getElem?_eq_none (l := (madeCells z (n * sz)).toList) (by rw [Array.length_toList, size_madeCells]; omega), List.getElem?_eq_none (by rw [hlen]; omega)]
section
variable {P : Program} {w0 : World} {O : List Nat} {n : Nat} {D : List Deferred} {o : Oper} {V : List (Nat × Value)} {L : List Ent} {T : List (Nat × Value) → List Ent → Prop}
theorem op_makeSlice {t e : TypeId} {x y : Operand} {d sz bytes m : Nat} {z : Value} {q1 q2 : Int} (ho : o.op = .makeSlice t x y) (hd : o.dst = some d) (hdn : Nat.blt d n = true) (ht : SlB P t e sz bytes z) (hx : ev V x = some (.int .i64 q1)) (hy : ev V y = some (.int .i64 q2)) (h1 : q1 = (m : Int)) (h2 : q2 = (m : Int)) (hp : ∀ u ∈ z.cells.toList, u.oneCell' = true)
    (hb : bytes * m ≤ 281474976710656) (hm : m ≤ 281474976710656)
    (hT : ∀ g, T ((d, .slice (some ⟨g, 0, none⟩) m m) :: V) (.row (some ⟨g, 0, none⟩) m e sz (List.replicate m z.cells) :: L)) : OpS P w0 O n D o V L T := by
  intro a w ha hw
  subst h1; subst h2
  obtain ⟨i, hi, hz, hsz, hbb⟩ := ht.info
  have hr0 := run_make (P := P) w t e i z ht.under hi hz .i64 .i64 (m : Int) (m : Int) (by omega) (by omega) (by rw [hbb, ← Int.natCast_mul]; omega) (by omega)
  rw [hsz] at hr0
  simp only [Int.toNat_natCast] at hr0
  have hr : (execOp a.eval o).run P w = .ok (.value (.slice (some ⟨w.heap.size, 0, none⟩) m m)) (w.alloc (.cells (madeCells z.cells (m * sz)) e)) := by
    simp only [execOp, ho, ha.eval hx, ha.eval hy, Sem.run_bind, hr0, Result.andThen_ok, Sem.run_pure]
  unfold Does
  rw [hr, hd]
  refine ⟨_, _, hT w.heap.size, ha.put hdn _, ?_⟩
  have hall := hw.alloc (.cells (madeCells z.cells (m * sz)) e)
  have hfl := made_flat ht.zs ht.pos m
  have := hall.set (A := []) (R := L) (w' := w.alloc (.cells (madeCells z.cells (m * sz)) e)) (p := .blk w.heap.size (.cells (madeCells z.cells (m * sz)) e)) (p' := .row (some ⟨w.heap.size, 0, none⟩) m e sz (List.replicate m z.cells)) rfl rfl rfl rfl (Nat.le_refl _)
    ⟨⟨by rw [flat_length (sz := sz) (fun c hc => by rw [(List.mem_replicate.1 hc).2]; exact ht.zs)], .inr ⟨w.heap.size, m, _, by simp, Nat.zero_le _, heap_alloc_new w _, by simp, by unfold maxLen; omega, by rw [size_madeCells], by rw [List.length_replicate, hfl]; exact List.take_of_length_le (by rw [flat_length (sz := sz) (fun c hc => by rw [(List.mem_replicate.1 hc).2]; exact ht.zs), List.length_replicate]; exact Nat.le_refl _)⟩⟩, fun c hc => by rw [(List.mem_replicate.1 hc).2]; exact ⟨ht.zs, hp⟩⟩
    (by simp [Ent.blocks]) (fun b hb => .inl (by simpa [Ent.blocks] using hb)) (fun _ _ _ => rfl)
  simpa using this
theorem run_copy_rd {w : World} {t ty e : TypeId} {sz bytes : Nat} {z : Value} (ht : SlB P t e sz bytes z) {g cap : Nat} {ds : List (Array Value)} (hrow : (Ent.row (some ⟨g, 0, none⟩) cap e sz ds).sat w) {B : Option Addr} {c : Nat} {xs : List (Array Value)} (hB : Rd w B sz xs) (hl : xs.length = ds.length) :
    ∃ w', (Builtin.copy_ #[t, t] ty #[.slice (some ⟨g, 0, none⟩) ds.length cap, .slice B xs.length c]).run P w = .ok (.int .i64 ((xs.length : Nat) : Int)) w' ∧ (Ent.row (some ⟨g, 0, none⟩) cap e sz xs).sat w' ∧ w.grownBy w' (some g) := by
  obtain ⟨i, hi, hz, hsz, hbb⟩ := ht.info
  obtain ⟨⟨hd1, hd2⟩, hds⟩ := hrow
  rcases hd2 with ⟨hv, _⟩ | ⟨g', cp, cur, hv, hbg, hg, hnc, hcm, hcs, htake⟩
  · cases hv
  injection hv with h1 h2 h3
  injection h1 with h1
  injection h1 with h1
  subst h1; subst h3
  rcases xs with _ | ⟨x, xs⟩
  · obtain rfl := List.eq_nil_of_length_eq_zero hl.symm
    refine ⟨w, ?_, ⟨⟨hd1, .inr ⟨g, cap, cur, rfl, hbg, hg, hnc, hcm, hcs, htake⟩⟩, hds⟩, World.grownBy.refl w _⟩
    cases B with
    | none => simp [Builtin.copy_, run_underlying ht.under, Builtin.lenOf, Builtin.firstCells, sizeOf, typeInfo, hi, storeCells, goInt]
    | some b => simp [Builtin.copy_, run_underlying ht.under, Builtin.lenOf, Builtin.firstCells, sizeOf, typeInfo, hi, storeCells, goInt, loadCells, loadCellsFrom]
  · have hy := fun k c hk => hB.at_ k c hk
    obtain ⟨_, ⟨b, j, rfl⟩, _, _⟩ := hy 0 x (by simp)
    have hxs : ∀ c ∈ (x :: xs), c.size = sz ∧ ∀ u ∈ c.toList, u.oneCell' = true := by
      intro c hc
      obtain ⟨k, hk⟩ := List.mem_iff_getElem?.1 hc
      exact ⟨(hy k c hk).1, (hy k c hk).2.2.2.1⟩
    have hfl := flat_length (fun c hc => (hxs c hc).1)
    have hsrc : ∀ q u, (flat (x :: xs))[q]? = some u → w.cell? ((⟨b, j, none⟩ : Addr).add q) = some u := by
      intro q u hq
      have hqlt : q < (x :: xs).length * sz := by
        have := (List.getElem?_eq_some_iff.1 hq).1
        omega
      have hk : q / sz < (x :: xs).length := Nat.div_lt_of_lt_mul (by rw [Nat.mul_comm]; exact hqlt)
      have hr : q % sz < sz := Nat.mod_lt _ ht.pos
      have hqe : q = q / sz * sz + q % sz := by rw [Nat.mul_comm]; exact (Nat.div_add_mod q sz).symm
      have hget := flat_get (fun c hc => (hxs c hc).1) (List.getElem?_eq_getElem hk) hr
      rw [← hqe] at hget
      obtain ⟨_, _, _, _, hc⟩ := hy (q / sz) _ (List.getElem?_eq_getElem hk)
      have h1 := hc (q % sz) hr
      rw [add_none]
      rw [show ab (some ⟨b, j, none⟩) = b from rfl, show ao (some ⟨b, j, none⟩) = j from rfl, Nat.add_assoc, ← hqe] at h1
      rw [h1, ← hget, hq]
    have hle : (x :: xs).length * sz ≤ cap * sz := Nat.mul_le_mul_right _ (by rw [hl]; exact hnc)
    have hf := run_firstCells_some (P := P) w i.size (x :: xs).length ⟨b, j, none⟩ (x :: xs).length c (flat (x :: xs)) (by rw [hsz]; exact hfl) hsrc
    have hst := run_storeCells_at P g 0 e (flat (x :: xs)) 0 cur w hg (by rw [hcs, hfl]; omega) (fun u hu => by obtain ⟨c, hc, hcu⟩ := mem_flat.1 hu; exact (hxs c hc).2 u hcu)
    simp only [Nat.add_zero] at hst
    refine ⟨w.setRow g (cur.toList.take 0 ++ flat (x :: xs) ++ cur.toList.drop (0 + (flat (x :: xs)).length)).toArray, ?_, ⟨⟨hfl, .inr ⟨g, cap, _, rfl, hbg, setRow_heap w g cur _ e _ hg, by rw [hl]; exact hnc, hcm, ?_, ?_⟩⟩, hxs⟩, ⟨rfl, rfl, rfl, by simp, fun k _ hk => setRow_other w g k _ (fun e => hk (by simp [e]))⟩⟩
    · have hmin : Nat.min (x :: xs).length ds.length = (x :: xs).length := by rw [hl]; exact Nat.min_self _
      simp at hmin hf hst
      have hmin' : Nat.min (xs.length + 1) ds.length = xs.length + 1 := hmin
      simp [Builtin.copy_, run_underlying ht.under, Builtin.lenOf, sizeOf, typeInfo, hi, hmin', hf, hst, goInt]
    · simp only [List.size_toArray, List.length_append, List.length_take, List.length_drop, Array.length_toList, hfl, hcs]
      omega
    · simp only [Nat.zero_add, List.take_zero, List.nil_append]
      rw [← hfl]
      exact List.take_left
/-- copy of all of a slice into one of one's own of the same length. -/
theorem op_copyRd {α : Type} (enc : α → Array Value) {x y : Operand} {t e : TypeId} {d g i m cap c sz bytes : Nat} {z : Value} {ds : List (Array Value)} {B : Option Addr} {xs : List α} (ho : o.op = .call { callee := .builtin .copy, args := #[x, y], argTypes := #[t, t] }) (hd : o.dst = some d) (hdn : Nat.blt d n = true) (ht : SlB P t e sz bytes z)
    (hx : ev V x = some (.slice (some ⟨g, 0, none⟩) m cap)) (hL : L[i]? = some (.row (some ⟨g, 0, none⟩) cap e sz ds)) (hm : ds.length = m) (hy : ev V y = some (.slice B m c)) (hr : ∀ w, SL w0 O w L → Rd w B sz (xs.map enc)) (hl : xs.length = m)
    (hT : T ((d, .int .i64 ((m : Nat) : Int)) :: V) (L.set i (.row (some ⟨g, 0, none⟩) cap e sz (xs.map enc)))) : OpS P w0 O n D o V L T := by
  intro a w ha hw
  subst hm
  have hl' : (xs.map enc).length = ds.length := by rw [List.length_map, hl]
  obtain ⟨w', h1, h2, h3⟩ := run_copy_rd (P := P) (w := w) (ty := o.type) (c := c) ht (hw.ents _ (List.mem_of_getElem? hL)) (hr w hw) hl'
  rw [hl'] at h1
  have hr' : (execOp a.eval o).run P w = .ok (.value (.int .i64 ((ds.length : Nat) : Int))) w' := by
    simp only [execOp, ho, resolve, invoke, builtin, Sem.run_bind, Sem.run_pure, Result.andThen_ok, List.map_toArray, List.map_cons, List.map_nil, ha.eval hx, ha.eval hy, h1]
  unfold Does
  rw [hr', hd]
  refine ⟨_, _, hT, ha.put hdn _, hw.setI hL h3.os h3.tape h3.output h3.size h2 row_blocks_nodup (fun b hb => .inl hb) (fun k hk hkb => h3.block k hk (fun e => hkb ?_))⟩
  injection e with e
  simp [Ent.blocks, e]
end
end Go.Proofs.YtnadipjlhlbfoaaGreatDoor
namespace Go.Proofs.YtnadipjlhlbfoaaGreatDoor
set_option linter.all false
open Go Go.RowKit
set_option maxRecDepth 100000
/-- A statement among others: where its lines lie, and it. -/
abbrev SX := (Option Addr × Nat) × Stm
abbrev stC (x : SX) : Array Value := #[.int .i64 x.2.h, .int .i64 x.2.c, .slice x.1.1 x.2.ls.length x.1.2]
/-- The lines of statements. -/
def lns (X : List SX) : List Ent := X.map fun x => .row x.1.1 x.1.2 77 3 (x.2.ls.map lnC)
theorem lns_snoc (X : List SX) (x : SX) : lns (X ++ [x]) = lns X ++ [.row x.1.1 x.1.2 77 3 (x.2.ls.map lnC)] := by simp [lns]
def zero32 : ByteArray := ⟨(List.replicate 32 0).toArray⟩
theorem zero32_cells : List.replicate 32 (Value.cells (.int .u8 0)) = (List.replicate 32 (0 : UInt8)).map u8c := by rw [List.map_replicate]; rfl
set_option maxRecDepth 100000 in
theorem w_new {w : World} :
    Calls Tryz.prog 5 #[] w (fun e w' => ∃ g : Nat, True ∧ e = .returned (.pointer (some ⟨g, 0, none⟩)) ∧ SL w [] w' [.blk g (.cells #[.slice none 0 0, .slice none 0 0, .string zero32] 58 (0, 0))]) := by
 refine calls_of_CX (O := []) (L := []) (args := []) Tryz.func5 rfl (by simp [Tryz.ntmps5]) (SL.refl w) ?_
 refine CX.sub (V' := []) trivial ?_
 refine CX.seq ?_
 refine CX.region ?_
 refine RX.cons rfl rfl (op_w (yw_assign rfl rfl) rfl rfl ?_)
 refine RX.nil (XX.next (V' := []) trivial ?_)
 refine CX.seq ?_
 refine CX.region ?_
 refine RX.cons rfl rfl (op_makeSlice (m := 32) rfl rfl rfl slb_54 rfl rfl rfl rfl (plain_of rfl) (by decide) (by decide) fun gz => ?_)
 refine RX.know1 0 (q := .row (some ⟨gz, 0, none⟩) 32 5 1 (List.map u8c (List.replicate 32 (0 : UInt8)))) rfl (congrArg (Ent.row (some ⟨gz, 0, none⟩) 32 5 1) zero32_cells) ?_
 refine RX.cons rfl rfl (op_w (yw_assign rfl rfl) rfl rfl ?_)
 refine RX.nil (XX.next (V' := [(1, _)]) ⟨rfl, trivial⟩ ?_)
 refine CX.seq ?_
 refine CX.region ?_
 refine RX.cons rfl rfl (op_w (yw_move rfl rfl) rfl rfl ?_)
 refine RX.cons rfl rfl (op_yld (y_bytesRow (i := 0) (l := (List.replicate 32 (0 : UInt8))) rfl rfl Tryz.underlying54 Tryz.underlying5 Tryz.underlying9 rfl (by decide)) rfl rfl ?_)
 refine RX.cons rfl rfl (op_w (yw_build (v := .agg (#[.slice none 0 0, .slice none 0 0, .string (⟨List.toArray (List.replicate 32 (0 : UInt8))⟩)])) rfl rfl (fun _ => by kernel_rfl)) rfl rfl ?_)
 refine RX.cons rfl rfl (op_w (yw_build (v := .agg (#[.slice none 0 0, .slice none 0 0, .string (⟨List.toArray (List.replicate 32 (0 : UInt8))⟩)])) rfl rfl (fun _ => by kernel_rfl)) rfl rfl ?_)
 refine RX.cons rfl rfl (op_box rfl rfl rfl rfl fun gx => ?_)
 refine RX.cons rfl rfl (op_w (yw_assign rfl rfl) rfl rfl ?_)
 refine RX.nil (XX.next (V' := [(0, .pointer (some ⟨gx, 0, none⟩))]) ⟨rfl, trivial⟩ ?_)
 refine CX.ret ?_
 exact ret_tmp rfl rfl fun w1 hw => ⟨gx, trivial, rfl, hw.sub (List.Sublist.cons_cons _ (List.nil_sublist _))⟩

end Go.Proofs.YtnadipjlhlbfoaaGreatDoor
namespace Go.Proofs.YtnadipjlhlbfoaaGreatDoor
set_option linter.all false
open Go Go.RowKit
set_option maxRecDepth 100000
theorem zero_25 : Zero Tryz.prog 25 (.agg (#[.int .i64 0, .int .i64 0, .slice none 0 0])) := ⟨(Tryz.prog.info? 25).get!, by kernel_rfl, by kernel_rfl⟩
theorem slb_23 : SlB Tryz.prog 23 77 3 24 (.agg (#[.int .i64 0, .int .i64 0, .int .i64 0])) := ⟨Tryz.underlying23, ⟨(Tryz.prog.info? 77).get!, by kernel_rfl, by kernel_rfl, by kernel_rfl, by kernel_rfl⟩, by decide, by decide⟩
theorem szt_23 : SzT Tryz.prog 23 1 := ⟨(Tryz.prog.info? 23).get!, by kernel_rfl, by kernel_rfl⟩
theorem szt_25 : SzT Tryz.prog 25 3 := ⟨(Tryz.prog.info? 25).get!, by kernel_rfl, by kernel_rfl⟩
set_option maxRecDepth 100000 in
theorem w_own {w : World} {A : Option Addr} {cap : Nat} (s : Stm) (hr : Rd w A 3 (s.ls.map lnC)) (hl : s.ls.length ≤ 1000000) :
    Calls Tryz.prog 56 #[.agg (#[.int .i64 (Stm.h s), .int .i64 (Stm.c s), .slice A (List.length (Stm.ls s)) cap])] w (fun e w' => ∃ g : Nat, True ∧ e = .returned (.agg (stC ((some ⟨g, 0, none⟩, s.ls.length), s))) ∧ SL w [] w' [.row (some ⟨g, 0, none⟩) s.ls.length 77 3 (List.map lnC s.ls)]) := by
 refine calls_of_CX (O := []) (L := []) (args := [.agg (#[.int .i64 (Stm.h s), .int .i64 (Stm.c s), .slice A (List.length (Stm.ls s)) cap])]) Tryz.func56 rfl (by simp [Tryz.ntmps56]) (SL.refl w) ?_
 refine CX.sub (V' := [(0, .agg (#[.int .i64 (Stm.h s), .int .i64 (Stm.c s), .slice A (List.length (Stm.ls s)) cap]))]) ⟨rfl, trivial⟩ ?_
 refine CX.seq ?_
 refine CX.region ?_
 refine RX.cons rfl rfl (op_box rfl rfl rfl rfl fun gs => ?_)
 refine RX.cons rfl rfl (op_alloc rfl rfl rfl zero_25 fun gr => ?_)
 refine RX.nil (XX.next (V' := [(1, _), (2, .pointer (some ⟨gr, 0, none⟩))]) ⟨rfl, rfl, trivial⟩ ?_)
 refine CX.seq ?_
 refine CX.region ?_
 refine RX.cons rfl rfl (op_w (yw_fieldAddr rfl fld_25_2 rfl) rfl rfl ?_)
 refine RX.cons rfl rfl (op_yld (y_load (i := 1) rfl rfl one_23 rfl rfl) rfl rfl ?_)
 refine RX.cons rfl rfl (op_w (yw_lenS rfl Tryz.underlying23 rfl) rfl rfl ?_)
 refine RX.cons rfl rfl (op_makeSlice (m := s.ls.length) rfl rfl rfl slb_23 rfl rfl (by omega) (by omega) (plain_of rfl) (by omega) (by omega) fun gl => ?_)
 refine RX.cons rfl rfl (op_w (yw_assign rfl rfl) rfl rfl ?_)
 refine RX.nil (XX.next (V' := [(1, _), (2, .pointer (some ⟨gr, 0, none⟩)), (3, _)]) ⟨rfl, rfl, rfl, trivial⟩ ?_)
 refine CX.seq ?_
 refine CX.region ?_
 refine RX.cons rfl rfl (op_w (yw_move rfl rfl) rfl rfl ?_)
 refine RX.cons rfl rfl (op_w (yw_fieldAddr rfl fld_25_2 rfl) rfl rfl ?_)
 refine RX.cons rfl rfl (op_yld (y_load (i := 2) rfl rfl one_23 rfl rfl) rfl rfl ?_)
 refine RX.cons rfl rfl (op_copyRd lnC (i := 0) (m := s.ls.length) (xs := s.ls) rfl rfl rfl slb_23 rfl rfl (by simp) rfl (fun w hw => hw.rd hr (by simp)) rfl ?_)
 refine RX.nil (XX.next (V' := [(1, _), (2, .pointer (some ⟨gr, 0, none⟩)), (3, _)]) ⟨rfl, rfl, rfl, trivial⟩ ?_)
 refine CX.seq ?_
 refine CX.region ?_
 refine RX.cons rfl rfl (op_w (yw_move rfl rfl) rfl rfl ?_)
 refine RX.cons rfl rfl (op_w (yw_fieldAddr rfl fld_25_2 rfl) rfl rfl ?_)
 refine RX.cons rfl rfl (op_store1 (i := 2) (cs' := #[.int .i64 (Stm.h s), .int .i64 (Stm.c s), .slice (some ⟨gl, 0, none⟩) s.ls.length s.ls.length]) rfl rfl rfl rfl szt_23 rfl rfl rfl rfl ?_)
 refine RX.nil (XX.next (V' := [(1, _), (2, .pointer (some ⟨gr, 0, none⟩))]) ⟨rfl, rfl, trivial⟩ ?_)
 refine CX.seq ?_
 refine CX.region ?_
 refine RX.cons rfl rfl (op_yld (y_loadA (i := 2) rfl rfl agg_25 rfl rfl) rfl rfl ?_)
 refine RX.cons rfl rfl (op_storeAll (i := 1) rfl rfl rfl rfl szt_25 rfl (plain_of rfl) rfl rfl ?_)
 refine RX.nil (XX.next (V' := [(2, .pointer (some ⟨gr, 0, none⟩))]) ⟨rfl, trivial⟩ ?_)
 refine CX.ret ?_
 exact ret_cell (i := 1) rfl rfl agg_25 rfl rfl fun w1 hw => ⟨gl, trivial, rfl, hw.pick ((perm_pick 0 rfl).trans (List.Perm.cons _ (List.Perm.refl _)))⟩

end Go.Proofs.YtnadipjlhlbfoaaGreatDoor
namespace Go.Proofs.YtnadipjlhlbfoaaGreatDoor
set_option linter.all false
open Go Go.RowKit
set_option maxRecDepth 100000
theorem slt_33 : SlT Tryz.prog 33 25 3 := ⟨(Tryz.prog.info? 25).get!, Tryz.underlying33, by kernel_rfl, by kernel_rfl⟩
theorem ent_56 : ∀ args w, (callFunc 56 args).run Tryz.prog w = .ok (.enter 56 args) w := enters_of Tryz.func56 (by kernel_rfl) rfl
theorem slb_33 : SlB Tryz.prog 33 25 3 40 (.agg (#[.int .i64 0, .int .i64 0, .slice none 0 0])) := ⟨Tryz.underlying33, ⟨(Tryz.prog.info? 25).get!, by kernel_rfl, by kernel_rfl, by kernel_rfl, by kernel_rfl⟩, by decide, by decide⟩
set_option maxRecDepth 100000 in
theorem w_cloned {w : World} {A : Option Addr} {cap : Nat} (X : List SX) (hr : Rd w A 3 (X.map stC)) (hX : ∀ x ∈ X, Rd w x.1.1 3 (x.2.ls.map lnC)) (hXl : ∀ x ∈ X, x.2.ls.length ≤ 1000000) (hl : X.length ≤ 1000000) :
    Calls Tryz.prog 25 #[.slice A X.length cap] w (fun e w' => ∃ z : (Option Addr × Nat) × List SX, z.2.map (·.2) = X.map (·.2) ∧ e = .returned (.slice z.1.1 z.2.length z.1.2) ∧ SL w [] w' [.row z.1.1 z.1.2 25 3 (List.map stC z.2), pack (lns z.2)]) := by
 refine calls_of_CX (O := []) (L := []) (args := [.slice A X.length cap]) Tryz.func25 rfl (by simp [Tryz.ntmps25]) (SL.refl w) ?_
 refine CX.sub (V' := [(0, .slice A X.length cap)]) ⟨rfl, trivial⟩ ?_
 refine CX.seq ?_
 refine CX.region ?_
 refine RX.cons rfl rfl (op_w (yw_assign rfl rfl) rfl rfl ?_)
 refine RX.nil (XX.next (V' := [(0, _)]) ⟨rfl, trivial⟩ ?_)
 refine CX.seq ?_
 refine CX.region ?_
 refine RX.cons rfl rfl (op_w (yw_assign rfl rfl) rfl rfl ?_)
 refine RX.nil (XX.next (V' := [(0, _), (3, _)]) ⟨rfl, rfl, trivial⟩ ?_)
 refine CX.seq ?_
 refine CX.region ?_
 refine RX.cons rfl rfl (op_w (yw_assign rfl rfl) rfl rfl ?_)
 refine RX.nil (XX.next (V' := [(0, _), (3, _), (4, _)]) ⟨rfl, rfl, rfl, trivial⟩ ?_)
 refine CX.seq ?_
 refine CX.seq ?_
 refine CX.region ?_
 refine RX.cons rfl rfl (op_w (yw_move rfl rfl) rfl rfl ?_)
 refine RX.cons rfl rfl (op_w (yw_lenS rfl Tryz.underlying33 rfl) rfl rfl ?_)
 refine RX.cons rfl rfl (op_w (yw_move rfl rfl) rfl rfl ?_)
 refine RX.nil (XX.next (V' := [(3, _), (4, _), (7, _), (8, _), (9, _)]) ⟨rfl, rfl, rfl, rfl, rfl, trivial⟩ ?_)
 refine CX.block ?_
 refine CX.packNil ?_
 refine CX.rowNil 25 3 ?_
 refine CX.loop (σ := Nat × (Option Addr × Nat) × List SX) (fun z => [(3, .func (.func 56) #[] #[]), (4, .slice z.2.1.1 (List.length (z.2.2 : List SX)) z.2.1.2), (7, .slice A X.length cap), (8, .int .i64 ((X.length : Nat) : Int)), (9, .int .i64 ((z.1 : Nat) : Int))]) (fun z => [.row z.2.1.1 z.2.1.2 25 3 (List.map stC z.2.2), pack (lns z.2.2)]) (fun z => z.1 ≤ X.length ∧ z.2.2.map (·.2) = (X.take z.1).map (·.2)) (fun z => X.length - z.1) (0, (none, 0), []) ⟨Nat.zero_le _, rfl⟩ ⟨rfl, rfl, rfl, rfl, rfl, trivial⟩ rfl (fun z hI => ?_)
 obtain ⟨i, ⟨A1, c1⟩, Y⟩ := z
 dsimp only at hI ⊢
 obtain ⟨hi, hY⟩ := hI
 have hYl : Y.length = i := by have := congrArg List.length hY; simp at this; omega
 refine CX.seq ?_
 refine CX.region ?_
 refine RX.cons rfl rfl (op_w (yw_lss rfl rfl rfl) rfl rfl ?_)
 refine RX.nil (XX.next (V' := [(3, _), (4, _), (7, _), (8, _), (9, _), (10, _)]) ⟨rfl, rfl, rfl, rfl, rfl, rfl, trivial⟩ ?_)
 refine CX.seq ?_
 refine CX.condD (p := ((i : Nat) : Int) < ((X.length : Nat) : Int)) rfl (fun c10 => ?_) (fun c10 => ?_)
 ·obtain ⟨x0, hx0⟩ := get_some (l := X) (k := i) (by omega)
  have hx0m := List.mem_of_getElem? hx0
  have hA : ∃ b j, A = some ⟨b, j, none⟩ := hr.some (k := 0) (by simp; omega)
  refine CX.skip (XX.next (V' := [(3, _), (4, _), (7, _), (8, _), (9, _)]) ⟨rfl, rfl, rfl, rfl, rfl, trivial⟩ ?_)
  refine CX.seq ?_
  refine CX.block ?_
  refine CX.seq ?_
  refine CX.region ?_
  refine RX.cons rfl rfl (op_w (yw_index (k := i) rfl slt_33 rfl rfl (by omega) (by omega) hA) rfl rfl ?_)
  refine RX.cons rfl rfl (op_yld (y_elem rfl rfl agg_25 hr (by simp) (map_get hx0)) rfl rfl ?_)
  refine RX.cons rfl rfl (op_alloc rfl rfl rfl zero_25 fun gl => ?_)
  refine RX.cons rfl rfl (op_storeAll (i := 0) rfl rfl rfl rfl szt_25 rfl (plain_of rfl) rfl rfl ?_)
  refine RX.nil (XX.next (V' := [(3, _), (4, _), (6, _), (7, _), (8, _), (9, _)]) ⟨rfl, rfl, rfl, rfl, rfl, rfl, trivial⟩ ?_)
  refine CX.region ?_
  refine RX.cons rfl rfl (op_w (yw_move rfl rfl) rfl rfl ?_)
  refine RX.cons rfl rfl (op_w (yw_move rfl rfl) rfl rfl ?_)
  refine RX.cons rfl rfl (op_yld (y_loadA (i := 0) rfl rfl agg_25 rfl rfl) rfl rfl ?_)
  refine RX.cons rfl rfl (op_callE rfl rfl rfl rfl rfl ent_56 (fun w hw => w_own x0.2 (hw.rd (hX x0 hx0m) (by simp)) (hXl x0 hx0m)) (fun zo _ => ?_))
  refine RX.cons rfl rfl (op_buildSlice rfl rfl rfl slb_33 rfl rfl (by intro v hv; simp only [List.mem_cons, List.not_mem_nil, or_false] at hv; subst hv; exact ⟨rfl, (plain_of rfl)⟩) (by decide) fun g4 => ?_)
  refine RX.cons rfl rfl (op_appendM stC (i := 3) (j := 0) (xs := Y) ([(((some ⟨zo, 0, none⟩, (Stm.ls x0.2).length), x0.2) : SX)]) rfl rfl rfl slb_33 rfl rfl rfl rfl rfl rfl (by simp only [List.length_singleton]; omega) (by simp only [List.length_singleton]; omega) fun A2 c2 => ?_)
  refine RX.cons rfl rfl (op_w (yw_assign rfl rfl) rfl rfl ?_)
  refine RX.nil (XX.inBlock (V' := [(3, _), (4, _), (7, _), (8, _), (9, _)]) ⟨rfl, rfl, rfl, rfl, rfl, trivial⟩ ?_)
  refine XX.next (V' := [(3, _), (4, _), (7, _), (8, _), (9, _)]) ⟨rfl, rfl, rfl, rfl, rfl, trivial⟩ ?_
  refine CX.packMoreE (es' := lns (Y ++ [(((some ⟨zo, 0, none⟩, (Stm.ls x0.2).length), x0.2) : SX)])) (L' := [.row (some ⟨g4, 0, none⟩) 1 25 3 (List.map stC ([(((some ⟨zo, 0, none⟩, (Stm.ls x0.2).length), x0.2) : SX)])), .blk gl (.cells (stC x0) 25 (0, 0)), .row A2 c2 25 3 (List.map stC (Y ++ [(((some ⟨zo, 0, none⟩, (Stm.ls x0.2).length), x0.2) : SX)]))]) (lns_snoc _ _) ((perm_pick 1 rfl).trans (List.Perm.cons _ ((perm_pick 3 rfl).trans (List.Perm.cons _ (List.Perm.refl _))))) ?_
  refine CX.region ?_
  refine RX.cons rfl rfl (op_w (yw_add rfl rfl rfl (by omega) (by omega)) rfl rfl ?_)
  refine RX.cons rfl rfl (op_w (yw_move rfl rfl) rfl rfl ?_)
  refine RX.nil (XX.againP ([.row (some ⟨g4, 0, none⟩) 1 25 3 (List.map stC ([(((some ⟨zo, 0, none⟩, (Stm.ls x0.2).length), x0.2) : SX)])), .blk gl (.cells (stC x0) 25 (0, 0))]) (i + 1, (A2, c2), Y ++ [(((some ⟨zo, 0, none⟩, (Stm.ls x0.2).length), x0.2) : SX)]) (by dsimp only; omega) ⟨by dsimp only; omega, by dsimp only; rw [List.map_append, hY, take_succ hx0, List.map_append]; rfl⟩ ⟨rfl, rfl, rfl, rfl, rfl, trivial⟩ ((perm_pick 3 rfl).trans (List.Perm.cons _ ((perm_pick 0 rfl).trans (List.Perm.cons _ (List.Perm.refl _))))))
 ·rw [List.take_of_length_le (by omega)] at hY
  refine CX.exit ?_
  refine XX.then_exit ?_
  refine XX.then_exit ?_
  refine XX.block_exit ?_
  refine XX.next (V' := [(4, _)]) ⟨rfl, trivial⟩ ?_
  refine CX.seq ?_
  refine CX.region ?_
  refine RX.cons rfl rfl (op_w (yw_move rfl rfl) rfl rfl ?_)
  refine RX.cons rfl rfl (op_w (yw_assign rfl rfl) rfl rfl ?_)
  refine RX.nil (XX.next (V' := [(2, .slice A1 (List.length (Y : List SX)) c1)]) ⟨rfl, trivial⟩ ?_)
  refine CX.ret ?_
  exact ret_tmp rfl rfl fun w1 hw => ⟨((A1, c1), Y), hY, rfl, hw⟩

end Go.Proofs.YtnadipjlhlbfoaaGreatDoor
namespace Go.Proofs.YtnadipjlhlbfoaaGreatDoor
set_option linter.all false
open Go Go.RowKit
def saltB : ByteArray := { data := #[115, 97, 108, 116] }
def entB (hd enc : ByteArray) : ByteArray := sum (saltB ++ hd) ++ enc
/-- The head behind encodings. -/
def headF (hd : ByteArray) (encs : List ByteArray) : ByteArray := encs.foldl (fun h e => chainH sum h e) hd
/-- The entries of encodings behind a head. -/
def entsF : ByteArray → List ByteArray → List ByteArray
  | _, [] => []
  | hd, e :: r => entB (chainH sum hd e) e :: entsF (chainH sum hd e) r
theorem headF_snoc (hd : ByteArray) (encs : List ByteArray) (e : ByteArray) : headF hd (encs ++ [e]) = chainH sum (headF hd encs) e := by simp [headF]
theorem entsF_snoc : ∀ (encs : List ByteArray) (hd e : ByteArray), entsF hd (encs ++ [e]) = entsF hd encs ++ [entB (chainH sum (headF hd encs) e) e]
  | [], _, _ => rfl
  | x :: r, hd, e => by
    rw [List.cons_append, entsF, entsF_snoc r, entsF]
    rfl
theorem entsF_append (hd : ByteArray) (a b : List ByteArray) : entsF hd (a ++ b) = entsF hd a ++ entsF (headF hd a) b := by
  induction a generalizing hd with
  | nil => rfl
  | cons x r ih => rw [List.cons_append, entsF, ih, entsF]; rfl
theorem entsF_length (hd : ByteArray) (l : List ByteArray) : (entsF hd l).length = l.length := by
  induction l generalizing hd with
  | nil => rfl
  | cons x r ih => rw [entsF, List.length_cons, ih, List.length_cons]
theorem headF_append (hd : ByteArray) (a b : List ByteArray) : headF hd (a ++ b) = headF (headF hd a) b := by simp [headF]
theorem encS_size (s : Stm) : (encS s).size ≤ 30 + 30 * s.ls.length := by
  have h1 := putL_le [s.h, s.c, (s.ls.length : Int)]
  have h2 := putL_le (numsL s.ls)
  rw [numsL_length] at h2
  have : (encS s).size = (encL s).length := by simp [encS, ByteArray.size]
  rw [this, encL, List.length_append]
  simp at h1
  omega
/-- Block 0 is none of the call's own. -/
theorem SL.no0 {w0 w : World} {O : List Nat} {M R : List Ent} (h : SL w0 O w (M ++ R)) (h0 : 0 ∉ O) (hG : Rounds w0) : 0 ∉ M.flatMap Ent.blocks := by
  intro hm
  obtain ⟨p, hp, hb⟩ := List.mem_flatMap.1 hm
  have := World.block_lt_of_cell? w0 _ (hG 0 _ rfl)
  rcases h.own p (List.mem_append_left _ hp) 0 hb with h1 | h1
  · exact h0 h1
  · simp at this; omega
/-- What lay ahead of the call lies there still, if there is any of it. -/
theorem rdN {w0 w : World} {O : List Nat} {L : List Ent} {α : Type} {f : α → Array Value} {A : Option Addr} {sz : Nat} {X : List α} (h : SL w0 O w L) (hr : Rd w0 A sz (X.map f)) (hO : X ≠ [] → ab A ∉ O) : Rd w A sz (X.map f) := by
  rcases X with _ | ⟨x, X⟩
  · exact Rd.nil w A sz
  · exact h.rd hr (hO (by simp))
/-- What lay ahead of the call is none of its own. -/
theorem rdOff {w0 w : World} {L : List Ent} {α : Type} {f : α → Array Value} {A : Option Addr} {sz : Nat} {X : List α} {M : List Ent} (h : SL w0 [] w L) (hM : M ⊆ L) (hr : Rd w0 A sz (X.map f)) : X ≠ [] → ab A ∉ M.flatMap Ent.blocks := by
  intro hX
  rcases X with _ | ⟨x, X⟩
  · exact absurd rfl hX
  · exact h.fresh hM (hr.at_ 0 _ rfl).2.2.1
end Go.Proofs.YtnadipjlhlbfoaaGreatDoor
namespace Go.Proofs.YtnadipjlhlbfoaaGreatDoor
set_option linter.all false
open Go Go.RowKit
set_option maxRecDepth 100000
theorem fld_56_2 : Fld Tryz.prog 56 2 2 := ⟨_, _, (Tryz.prog.info? 9).get!, Tryz.underlying56, rfl, rfl, by kernel_rfl, by decide +kernel⟩
theorem ent_57 : ∀ args w, (callFunc 57 args).run Tryz.prog w = .ok (.enter 57 args) w := enters_of Tryz.func57 (by kernel_rfl) rfl
theorem fld_56_0 : Fld Tryz.prog 56 0 0 := ⟨_, _, (Tryz.prog.info? 33).get!, Tryz.underlying56, rfl, rfl, by kernel_rfl, by decide +kernel⟩
theorem one_33 : One Tryz.prog 33 := ⟨_, Tryz.underlying33, rfl⟩
theorem szt_33 : SzT Tryz.prog 33 1 := ⟨(Tryz.prog.info? 33).get!, by kernel_rfl, by kernel_rfl⟩
theorem fld_56_1 : Fld Tryz.prog 56 1 1 := ⟨_, _, (Tryz.prog.info? 26).get!, Tryz.underlying56, rfl, rfl, by kernel_rfl, by decide +kernel⟩
theorem szt_26 : SzT Tryz.prog 26 1 := ⟨(Tryz.prog.info? 26).get!, by kernel_rfl, by kernel_rfl⟩
attribute [local irreducible] sum
set_option maxRecDepth 100000 in
theorem w_grow {w : World} {gx c1 c2 : Nat} {A1 A2 : Option Addr} (X : List SX) (es : List ByteArray) (hd : ByteArray) (y : SX) (enc : ByteArray) (hG : Rounds w) (hg0 : 0 ∉ (List.flatMap Ent.blocks [.blk gx (.cells (#[.slice A1 (List.length (X : List SX)) c1, .slice A2 (List.length (es : List ByteArray)) c2, .string hd]) 58 (0, 0)), .row A1 c1 25 3 (List.map stC X), .row A2 c2 9 1 (List.map strC es)])) (hXl : X.length ≤ 1000000) (hel : es.length ≤ 1000000) (hhd : hd.size ≤ 4294967296) (hen : enc.size ≤ 4294967296) (hs : SL w (List.flatMap Ent.blocks [.blk gx (.cells (#[.slice A1 (List.length (X : List SX)) c1, .slice A2 (List.length (es : List ByteArray)) c2, .string hd]) 58 (0, 0)), .row A1 c1 25 3 (List.map stC X), .row A2 c2 9 1 (List.map strC es)]) w [.blk gx (.cells (#[.slice A1 (List.length (X : List SX)) c1, .slice A2 (List.length (es : List ByteArray)) c2, .string hd]) 58 (0, 0)), .row A1 c1 25 3 (List.map stC X), .row A2 c2 9 1 (List.map strC es)]) :
    Calls Tryz.prog 26 #[.pointer (some ⟨gx, 0, none⟩), .agg (stC y), .string enc] w (fun e w' => ∃ z : (Option Addr × Nat) × (Option Addr × Nat), True ∧ e = .returned (.tuple #[]) ∧ SL w (List.flatMap Ent.blocks [.blk gx (.cells (#[.slice A1 (List.length (X : List SX)) c1, .slice A2 (List.length (es : List ByteArray)) c2, .string hd]) 58 (0, 0)), .row A1 c1 25 3 (List.map stC X), .row A2 c2 9 1 (List.map strC es)]) w' [.blk gx (.cells (#[.slice z.1.1 (List.length ((X ++ [y]) : List SX)) z.1.2, .slice z.2.1 (List.length ((es ++ [entB (chainH sum hd enc) enc]) : List ByteArray)) z.2.2, .string (chainH sum hd enc)]) 58 (0, 0)), .row z.1.1 z.1.2 25 3 (List.map stC (X ++ [y])), .row z.2.1 z.2.2 9 1 (List.map strC (es ++ [entB (chainH sum hd enc) enc]))]) := by
 refine calls_of_CX (O := (List.flatMap Ent.blocks [.blk gx (.cells (#[.slice A1 (List.length (X : List SX)) c1, .slice A2 (List.length (es : List ByteArray)) c2, .string hd]) 58 (0, 0)), .row A1 c1 25 3 (List.map stC X), .row A2 c2 9 1 (List.map strC es)])) (L := [.blk gx (.cells (#[.slice A1 (List.length (X : List SX)) c1, .slice A2 (List.length (es : List ByteArray)) c2, .string hd]) 58 (0, 0)), .row A1 c1 25 3 (List.map stC X), .row A2 c2 9 1 (List.map strC es)]) (args := [.pointer (some ⟨gx, 0, none⟩), .agg (stC y), .string enc]) Tryz.func26 rfl (by simp [Tryz.ntmps26]) hs ?_
 refine CX.sub (V' := [(0, .pointer (some ⟨gx, 0, none⟩)), (1, .agg (stC y)), (2, .string enc)]) ⟨rfl, rfl, rfl, trivial⟩ ?_
 refine CX.seq ?_
 refine CX.region ?_
 refine RX.cons rfl rfl (op_box rfl rfl rfl rfl fun gs => ?_)
 refine RX.nil (XX.next (V' := [(0, _), (2, _), (4, _)]) ⟨rfl, rfl, rfl, trivial⟩ ?_)
 refine CX.seq ?_
 refine CX.region ?_
 refine RX.cons rfl rfl (op_w (yw_move rfl rfl) rfl rfl ?_)
 refine RX.cons rfl rfl (op_w (yw_move rfl rfl) rfl rfl ?_)
 refine RX.cons rfl rfl (op_w (yw_nilCheck rfl rfl) rfl rfl ?_)
 refine RX.cons rfl rfl (op_w (yw_fieldAddr rfl fld_56_2 rfl) rfl rfl ?_)
 refine RX.cons rfl rfl (op_yld (y_load (i := 1) rfl rfl one_9 rfl rfl) rfl rfl ?_)
 refine RX.cons rfl rfl (op_w (yw_move rfl rfl) rfl rfl ?_)
 refine RX.cons rfl rfl (op_callV (v := .string (chainH sum hd enc)) rfl rfl rfl rfl rfl ent_57 (fun w hw => w_chain hd enc (hG.keep hw hg0) (by omega)) ?_)
 refine RX.cons rfl rfl (op_w (yw_nilCheck rfl rfl) rfl rfl ?_)
 refine RX.cons rfl rfl (op_w (yw_fieldAddr rfl fld_56_2 rfl) rfl rfl ?_)
 refine RX.cons rfl rfl (op_store1 (i := 1) (cs' := #[.slice A1 (List.length (X : List SX)) c1, .slice A2 (List.length (es : List ByteArray)) c2, .string (chainH sum hd enc)]) rfl rfl rfl rfl szt_9 rfl rfl rfl rfl ?_)
 refine RX.nil (XX.next (V' := [(0, _), (2, _), (4, _)]) ⟨rfl, rfl, rfl, trivial⟩ ?_)
 refine CX.seq ?_
 refine CX.draw 7 [(0, 1, 32768), (0, 1, 65536), (2, 65536, 131072), (4, 131072, 262144), (8, 262144, 524288), (0, 16, 1048576), (32, 1048576, 2097152), (80, 2621440, 4194304), (255, 32768, 8388608), (511, 8388608, 16777216), (767, 20971520, 0)] (by kernel_rfl) (by kernel_rfl) (by kernel_rfl) ?_
 refine DX.takeW 0 1 (by kernel_rfl) rfl rfl rfl rfl rfl (yw_move rfl rfl) ?_
 refine DX.takeW 1 3 (by kernel_rfl) rfl rfl rfl rfl rfl (yw_move rfl rfl) ?_
 refine DX.takeW 2 7 (by kernel_rfl) rfl rfl rfl rfl rfl (yw_nilCheck rfl rfl) ?_
 refine DX.takeW 3 15 (by kernel_rfl) rfl rfl rfl rfl rfl (yw_field0 rfl fld_56_0 rfl) ?_
 refine DX.take 4 31 (by kernel_rfl) rfl rfl rfl rfl rfl (List.Sublist.refl _) (y_load (i := 1) rfl rfl one_33 rfl rfl) ?_
 refine DX.take 5 63 (by kernel_rfl) rfl rfl rfl rfl rfl (List.Sublist.refl _) (y_loadA (i := 0) rfl rfl agg_25 rfl rfl) ?_
 refine DX.step 6 127 (by kernel_rfl) rfl rfl rfl (op_buildSlice rfl rfl rfl slb_33 rfl rfl (by intro v hv; simp only [List.mem_cons, List.not_mem_nil, or_false] at hv; subst hv; exact ⟨rfl, (plain_of rfl)⟩) (by decide) fun g6 => (DXs.mk (List.Sublist.cons _ (List.Sublist.refl _)) ?_))
 refine DX.stepT 7 255 (by kernel_rfl) rfl rfl rfl rfl (op_appendM stC (i := 3) (j := 0) (xs := X) ([y]) rfl rfl rfl slb_33 rfl rfl rfl rfl rfl rfl (by simp only [List.length_singleton]; omega) (by simp only [List.length_singleton]; omega) fun B1 d1 => ?_)
 refine DX.takeW 8 511 (by kernel_rfl) rfl rfl rfl rfl rfl (yw_nilCheck rfl rfl) ?_
 refine DX.takeW 9 1023 (by kernel_rfl) rfl rfl rfl rfl rfl (yw_field0 rfl fld_56_0 rfl) ?_
 refine DX.stepT 10 2047 (by kernel_rfl) rfl rfl rfl rfl (op_store1 (i := 2) (cs' := #[.slice B1 ((X ++ [y]).length) d1, .slice A2 (List.length (es : List ByteArray)) c2, .string (chainH sum hd enc)]) rfl rfl rfl rfl szt_33 rfl rfl rfl rfl ?_)
 refine DX.done (by kernel_rfl) (XX.next (V' := [(0, _), (2, _)]) ⟨rfl, rfl, trivial⟩ ?_)
 refine CX.draw 14 [(0, 1, 33554432), (0, 1, 67108864), (2, 67108864, 134217728), (4, 134217728, 268435456), (8, 268435456, 536870912), (0, 1, 1073741824), (32, 1073741824, 2147483648), (64, 2147483648, 4294967296), (128, 4294967296, 8589934592), (256, 8589934592, 17179869184), (512, 17179869184, 34359738368), (0, 4, 68719476736), (3072, 103079215104, 137438953472), (4096, 137438953472, 274877906944), (9232, 275414777856, 549755813888), (32767, 33554432, 1099511627776), (65535, 1099511627776, 2199023255552), (98303, 2748779069440, 0)] (by kernel_rfl) (by kernel_rfl) (by kernel_rfl) ?_
 refine DX.takeW 0 1 (by kernel_rfl) rfl rfl rfl rfl rfl (yw_move rfl rfl) ?_
 refine DX.takeW 1 3 (by kernel_rfl) rfl rfl rfl rfl rfl (yw_move rfl rfl) ?_
 refine DX.takeW 2 7 (by kernel_rfl) rfl rfl rfl rfl rfl (yw_nilCheck rfl rfl) ?_
 refine DX.takeW 3 15 (by kernel_rfl) rfl rfl rfl rfl rfl (yw_fieldAddr rfl fld_56_1 rfl) ?_
 refine DX.take 4 31 (by kernel_rfl) rfl rfl rfl rfl rfl (List.Sublist.refl _) (y_load (i := 2) rfl rfl one_26 rfl rfl) ?_
 refine DX.takeW 5 63 (by kernel_rfl) rfl rfl rfl rfl rfl (yw_move rfl rfl) ?_
 refine DX.takeW 6 127 (by kernel_rfl) rfl rfl rfl rfl rfl (yw_nilCheck rfl rfl) ?_
 refine DX.takeW 7 255 (by kernel_rfl) rfl rfl rfl rfl rfl (yw_fieldAddr rfl fld_56_2 rfl) ?_
 refine DX.take 8 511 (by kernel_rfl) rfl rfl rfl rfl rfl (List.Sublist.refl _) (y_load (i := 2) rfl rfl one_9 rfl rfl) ?_
 refine DX.takeW 9 1023 (by kernel_rfl) rfl rfl rfl rfl rfl (yw_stradd rfl rfl rfl (by have := sum_size (mark 2 (hd ++ enc)); show 4 + (chainH sum hd enc).size ≤ _; rw [show (chainH sum hd enc).size = 32 from sum_size _]; decide)) ?_
 refine DX.know (t := 34) (u := .string (saltB ++ chainH sum hd enc)) rfl rfl ?_
 refine DX.takeW 11 3071 (by kernel_rfl) rfl rfl rfl rfl rfl (yw_move rfl rfl) ?_
 refine DX.step 10 4095 (by kernel_rfl) rfl rfl rfl (op_callV (v := .string (sum (saltB ++ chainH sum hd enc))) rfl rfl rfl rfl rfl ent_43 (fun w hw => w_sum (saltB ++ chainH sum hd enc) (hG.keep hw hg0) (by rw [ByteArray.size_append, show (chainH sum hd enc).size = 32 from sum_size _]; decide)) (DXs.mk (List.Sublist.refl _) ?_))
 refine DX.takeW 12 8191 (by kernel_rfl) rfl rfl rfl rfl rfl (yw_stradd rfl rfl rfl (by rw [sum_size]; omega)) ?_
 refine DX.step 13 16383 (by kernel_rfl) rfl rfl rfl (op_buildSlice rfl rfl rfl slb_26 rfl rfl (by intro v hv; simp only [List.mem_cons, List.not_mem_nil, or_false] at hv; subst hv; exact ⟨rfl, (plain_of rfl)⟩) (by decide) fun g7 => (DXs.mk (List.Sublist.cons _ (List.Sublist.refl _)) ?_))
 refine DX.stepT 14 32767 (by kernel_rfl) rfl rfl rfl rfl (op_appendM strC (i := 5) (j := 0) (xs := es) ([entB (chainH sum hd enc) enc]) rfl rfl rfl slb_26 rfl rfl rfl rfl rfl rfl (by simp only [List.length_singleton]; omega) (by simp only [List.length_singleton]; omega) fun B2 d2 => ?_)
 refine DX.takeW 15 65535 (by kernel_rfl) rfl rfl rfl rfl rfl (yw_nilCheck rfl rfl) ?_
 refine DX.takeW 16 131071 (by kernel_rfl) rfl rfl rfl rfl rfl (yw_fieldAddr rfl fld_56_1 rfl) ?_
 refine DX.stepT 17 262143 (by kernel_rfl) rfl rfl rfl rfl (op_store1 (i := 3) (cs' := #[.slice B1 ((X ++ [y]).length) d1, .slice B2 ((es ++ [entB (chainH sum hd enc) enc]).length) d2, .string (chainH sum hd enc)]) rfl rfl rfl rfl szt_26 rfl rfl rfl rfl ?_)
 refine DX.done (by kernel_rfl) ?_
 exact end_none rfl fun w1 hw => ⟨((B1, d1), (B2, d2)), trivial, rfl, hw.pick ((perm_pick 3 rfl).trans (List.Perm.cons _ ((perm_pick 3 rfl).trans (List.Perm.cons _ ((perm_pick 3 rfl).trans (List.Perm.cons _ (List.Perm.refl _)))))))⟩

end Go.Proofs.YtnadipjlhlbfoaaGreatDoor
namespace Go.Proofs.YtnadipjlhlbfoaaGreatDoor
set_option linter.all false
open Go Go.RowKit
set_option maxRecDepth 100000
theorem ptrt_30 : PtrT Tryz.prog 30 58 := ⟨(Tryz.prog.info? 58).get!, Tryz.underlying30, by kernel_rfl, by decide +kernel⟩
theorem fld_58_0 : Fld Tryz.prog 58 0 0 := ⟨_, _, (Tryz.prog.info? 56).get!, Tryz.underlying58, rfl, rfl, by kernel_rfl, by decide +kernel⟩
set_option maxRecDepth 100000 in
theorem w_has {w : World} {gx c1 m : Nat} {A1 : Option Addr} (i : Int) (h0 : w.cell? ⟨gx, 0, none⟩ = some (.slice A1 m c1)) :
    Calls Tryz.prog 32 #[.pointer (some ⟨gx, 0, none⟩), .int .i64 i] w (fun e w' => e = .returned (.bool (decide (0 ≤ i) && decide (i < ((m : Nat) : Int)))) ∧ SL w [] w' []) := by
 refine calls_of_CX (O := []) (L := []) (args := [.pointer (some ⟨gx, 0, none⟩), .int .i64 i]) Tryz.func32 rfl (by simp [Tryz.ntmps32]) (SL.refl w) ?_
 refine CX.sub (V' := [(0, .pointer (some ⟨gx, 0, none⟩)), (1, .int .i64 i)]) ⟨rfl, rfl, trivial⟩ ?_
 refine CX.seq ?_
 refine CX.region ?_
 refine RX.cons rfl rfl (op_w (yw_assign rfl rfl) rfl rfl ?_)
 refine RX.nil (XX.next (V' := [(0, _), (1, _)]) ⟨rfl, rfl, trivial⟩ ?_)
 refine CX.seq ?_
 refine CX.region ?_
 refine RX.cons rfl rfl (op_w (yw_move rfl rfl) rfl rfl ?_)
 refine RX.cons rfl rfl (op_w (yw_geq rfl rfl rfl) rfl rfl ?_)
 refine RX.cons rfl rfl (op_w (yw_move rfl rfl) rfl rfl ?_)
 refine RX.splitD (t := 7) (p := 0 ≤ i) rfl (fun d7 => ?_) (fun d7 => ?_)
 ·refine RX.consG rfl rfl rfl rfl rfl (op_w (yw_move rfl rfl) rfl rfl ?_)
  refine RX.consG rfl rfl rfl rfl rfl (op_w (yw_move rfl rfl) rfl rfl ?_)
  refine RX.consG rfl rfl rfl rfl rfl (op_w (yw_nilCheck rfl rfl) rfl rfl ?_)
  refine RX.consG rfl rfl rfl rfl rfl (op_w (yw_field0 rfl fld_56_0 rfl) rfl rfl ?_)
  refine RX.consG rfl rfl rfl rfl rfl (op_yld (y_loadG (v := .slice A1 m c1) rfl rfl one_33 h0 (by simp)) rfl rfl ?_)
  refine RX.consG rfl rfl rfl rfl rfl (op_w (yw_lenS rfl Tryz.underlying33 rfl) rfl rfl ?_)
  refine RX.consG rfl rfl rfl rfl rfl (op_w (yw_lss rfl rfl rfl) rfl rfl ?_)
  refine RX.cons rfl rfl (op_w (yw_pickT rfl rfl rfl) rfl rfl ?_)
  refine RX.cons rfl rfl (op_w (yw_assign rfl rfl) rfl rfl ?_)
  refine RX.nil (XX.next (V' := [(4, .bool (decide (i < ((m : Nat) : Int))))]) ⟨rfl, trivial⟩ ?_)
  refine CX.ret ?_
  exact ret_tmp rfl rfl fun w1 hw => ⟨by rw [decide_eq_true d7, Bool.true_and], hw.sub (List.nil_sublist _)⟩
 ·refine RX.skip rfl rfl rfl rfl rfl rfl rfl ?_
  refine RX.skip rfl rfl rfl rfl rfl rfl rfl ?_
  refine RX.skip rfl rfl rfl rfl rfl rfl rfl ?_
  refine RX.skip rfl rfl rfl rfl rfl rfl rfl ?_
  refine RX.skip rfl rfl rfl rfl rfl rfl rfl ?_
  refine RX.skip rfl rfl rfl rfl rfl rfl rfl ?_
  refine RX.skip rfl rfl rfl rfl rfl rfl rfl ?_
  refine RX.cons rfl rfl (op_w (yw_pickF rfl rfl rfl) rfl rfl ?_)
  refine RX.cons rfl rfl (op_w (yw_assign rfl rfl) rfl rfl ?_)
  refine RX.nil (XX.next (V' := [(4, .bool false)]) ⟨rfl, trivial⟩ ?_)
  refine CX.ret ?_
  exact ret_tmp rfl rfl fun w1 hw => ⟨by rw [decide_eq_false d7, Bool.false_and], hw.sub (List.nil_sublist _)⟩

set_option maxRecDepth 100000 in
theorem w_logRoot {w : World} {gx c1 c2 : Nat} {A1 A2 : Option Addr} (X : List SX) (es : List ByteArray) (hd : ByteArray) (h0 : w.cell? ⟨gx, 0, none⟩ = some (.slice A1 X.length c1)) (h1 : w.cell? ⟨gx, 1, none⟩ = some (.slice A2 es.length c2)) (hG : Rounds w) (hr : Rd w A2 1 (es.map strC)) (hl : es.length ≤ 1000000) (hsz : ∀ s ∈ es, s.size ≤ 4294967296) :
    Calls Tryz.prog 9 #[.pointer (some ⟨gx, 0, none⟩)] w (fun e w' => e = .returned (.string (root sum es)) ∧ SL w [] w' []) := by
 refine calls_of_CX (O := []) (L := []) (args := [.pointer (some ⟨gx, 0, none⟩)]) Tryz.func9 rfl (by simp [Tryz.ntmps9]) (SL.refl w) ?_
 refine CX.sub (V' := [(0, .pointer (some ⟨gx, 0, none⟩))]) ⟨rfl, trivial⟩ ?_
 refine CX.seq ?_
 refine CX.region ?_
 refine RX.cons rfl rfl (op_w (yw_assign rfl rfl) rfl rfl ?_)
 refine RX.nil (XX.next (V' := [(0, _)]) ⟨rfl, trivial⟩ ?_)
 refine CX.seq ?_
 refine CX.seq ?_
 refine CX.region ?_
 refine RX.cons rfl rfl (op_w (yw_move rfl rfl) rfl rfl ?_)
 refine RX.cons rfl rfl (op_w (yw_ptrSome rfl ptrt_30 rfl rfl) rfl rfl ?_)
 refine RX.nil (XX.next (V' := [(0, _), (4, _)]) ⟨rfl, rfl, trivial⟩ ?_)
 refine CX.condF rfl ?_
 refine CX.skip (XX.next (V' := [(0, _)]) ⟨rfl, trivial⟩ ?_)
 refine CX.seq ?_
 refine CX.region ?_
 refine RX.cons rfl rfl (op_w (yw_move rfl rfl) rfl rfl ?_)
 refine RX.cons rfl rfl (op_w (yw_nilCheck rfl rfl) rfl rfl ?_)
 refine RX.cons rfl rfl (op_w (yw_field0 rfl fld_58_0 rfl) rfl rfl ?_)
 refine RX.cons rfl rfl (op_w (yw_fieldAddr rfl fld_56_1 rfl) rfl rfl ?_)
 refine RX.cons rfl rfl (op_yld (y_loadG (v := .slice A2 es.length c2) rfl rfl one_26 h1 (by simp)) rfl rfl ?_)
 refine RX.cons rfl rfl (op_callV (v := .string (root sum es)) rfl rfl rfl rfl rfl ent_21 (fun w hw => w_root es (hG.keep hw (by simp)) (hw.rd hr (by simp)) (by omega) hsz) ?_)
 refine RX.cons rfl rfl (op_w (yw_assign rfl rfl) rfl rfl ?_)
 refine RX.nil (XX.next (V' := [(2, .string (root sum es))]) ⟨rfl, trivial⟩ ?_)
 refine CX.ret ?_
 exact ret_tmp rfl rfl fun w1 hw => ⟨rfl, hw.sub (List.nil_sublist _)⟩

set_option maxRecDepth 100000 in
theorem w_logRoot0 {w : World} :
    Calls Tryz.prog 9 #[.pointer none] w (fun e w' => e = .returned (.string .empty) ∧ SL w [] w' []) := by
 refine calls_of_CX (O := []) (L := []) (args := [.pointer none]) Tryz.func9 rfl (by simp [Tryz.ntmps9]) (SL.refl w) ?_
 refine CX.sub (V' := [(0, .pointer none)]) ⟨rfl, trivial⟩ ?_
 refine CX.seq ?_
 refine CX.region ?_
 refine RX.cons rfl rfl (op_w (yw_assign rfl rfl) rfl rfl ?_)
 refine RX.nil (XX.next (V' := [(0, _)]) ⟨rfl, trivial⟩ ?_)
 refine CX.seq ?_
 refine CX.seq ?_
 refine CX.region ?_
 refine RX.cons rfl rfl (op_w (yw_move rfl rfl) rfl rfl ?_)
 refine RX.cons rfl rfl (op_w (yw_ptrNil rfl ptrt_30 rfl rfl) rfl rfl ?_)
 refine RX.nil (XX.next (V' := [(0, _), (4, _)]) ⟨rfl, rfl, trivial⟩ ?_)
 refine CX.condT rfl ?_
 refine CX.seq ?_
 refine CX.region ?_
 refine RX.cons rfl rfl (op_w (yw_assign rfl rfl) rfl rfl ?_)
 refine RX.nil (XX.next (V' := [(2, .string .empty)]) ⟨rfl, trivial⟩ ?_)
 refine CX.ret ?_
 refine XX.then_ret ?_
 exact ret_tmp rfl rfl fun w1 hw => ⟨rfl, hw.sub (List.nil_sublist _)⟩

end Go.Proofs.YtnadipjlhlbfoaaGreatDoor
namespace Go.Proofs.YtnadipjlhlbfoaaGreatDoor
set_option linter.all false
open Go Go.RowKit
set_option maxRecDepth 100000
theorem ent_25 : ∀ args w, (callFunc 25 args).run Tryz.prog w = .ok (.enter 25 args) w := enters_of Tryz.func25 (by kernel_rfl) rfl
set_option maxRecDepth 100000 in
theorem w_stmts {w : World} {gx c1 c2 : Nat} {A1 A2 : Option Addr} (X : List SX) (es : List ByteArray) (hd : ByteArray) (h0 : w.cell? ⟨gx, 0, none⟩ = some (.slice A1 X.length c1)) (h1 : w.cell? ⟨gx, 1, none⟩ = some (.slice A2 es.length c2)) (hr : Rd w A1 3 (X.map stC)) (hX : ∀ x ∈ X, Rd w x.1.1 3 (x.2.ls.map lnC)) (hXl : ∀ x ∈ X, x.2.ls.length ≤ 1000000) (hl : X.length ≤ 1000000) :
    Calls Tryz.prog 12 #[.pointer (some ⟨gx, 0, none⟩)] w (fun e w' => ∃ z : (Option Addr × Nat) × List SX, z.2.map (·.2) = X.map (·.2) ∧ e = .returned (.slice z.1.1 z.2.length z.1.2) ∧ SL w [] w' [.row z.1.1 z.1.2 25 3 (List.map stC z.2), pack (lns z.2)]) := by
 refine calls_of_CX (O := []) (L := []) (args := [.pointer (some ⟨gx, 0, none⟩)]) Tryz.func12 rfl (by simp [Tryz.ntmps12]) (SL.refl w) ?_
 refine CX.sub (V' := [(0, .pointer (some ⟨gx, 0, none⟩))]) ⟨rfl, trivial⟩ ?_
 refine CX.seq ?_
 refine CX.region ?_
 refine RX.cons rfl rfl (op_w (yw_assign rfl rfl) rfl rfl ?_)
 refine RX.nil (XX.next (V' := [(0, _)]) ⟨rfl, trivial⟩ ?_)
 refine CX.seq ?_
 refine CX.seq ?_
 refine CX.region ?_
 refine RX.cons rfl rfl (op_w (yw_move rfl rfl) rfl rfl ?_)
 refine RX.cons rfl rfl (op_w (yw_ptrSome rfl ptrt_30 rfl rfl) rfl rfl ?_)
 refine RX.nil (XX.next (V' := [(0, _), (4, _)]) ⟨rfl, rfl, trivial⟩ ?_)
 refine CX.condF rfl ?_
 refine CX.skip (XX.next (V' := [(0, _)]) ⟨rfl, trivial⟩ ?_)
 refine CX.seq ?_
 refine CX.region ?_
 refine RX.cons rfl rfl (op_w (yw_move rfl rfl) rfl rfl ?_)
 refine RX.cons rfl rfl (op_w (yw_nilCheck rfl rfl) rfl rfl ?_)
 refine RX.cons rfl rfl (op_w (yw_field0 rfl fld_58_0 rfl) rfl rfl ?_)
 refine RX.cons rfl rfl (op_w (yw_field0 rfl fld_56_0 rfl) rfl rfl ?_)
 refine RX.cons rfl rfl (op_yld (y_loadG (v := .slice A1 X.length c1) rfl rfl one_33 h0 (by simp)) rfl rfl ?_)
 refine RX.cons rfl rfl (op_callE rfl rfl rfl rfl rfl ent_25 (fun w hw => w_cloned X (hw.rd hr (by simp)) (fun x hx => hw.rd (hX x hx) (by simp)) hXl hl) (fun zc hzc => ?_))
 refine RX.cons rfl rfl (op_w (yw_assign rfl rfl) rfl rfl ?_)
 refine RX.nil (XX.next (V' := [(2, .slice zc.1.1 zc.2.length zc.1.2)]) ⟨rfl, trivial⟩ ?_)
 refine CX.ret ?_
 exact ret_tmp rfl rfl fun w1 hw => ⟨zc, hzc, rfl, hw⟩

set_option maxRecDepth 100000 in
theorem w_stmts0 {w : World} :
    Calls Tryz.prog 12 #[.pointer none] w (fun e w' => e = .returned (.slice none 0 0) ∧ SL w [] w' []) := by
 refine calls_of_CX (O := []) (L := []) (args := [.pointer none]) Tryz.func12 rfl (by simp [Tryz.ntmps12]) (SL.refl w) ?_
 refine CX.sub (V' := [(0, .pointer none)]) ⟨rfl, trivial⟩ ?_
 refine CX.seq ?_
 refine CX.region ?_
 refine RX.cons rfl rfl (op_w (yw_assign rfl rfl) rfl rfl ?_)
 refine RX.nil (XX.next (V' := [(0, _)]) ⟨rfl, trivial⟩ ?_)
 refine CX.seq ?_
 refine CX.seq ?_
 refine CX.region ?_
 refine RX.cons rfl rfl (op_w (yw_move rfl rfl) rfl rfl ?_)
 refine RX.cons rfl rfl (op_w (yw_ptrNil rfl ptrt_30 rfl rfl) rfl rfl ?_)
 refine RX.nil (XX.next (V' := [(0, _), (4, _)]) ⟨rfl, rfl, trivial⟩ ?_)
 refine CX.condT rfl ?_
 refine CX.seq ?_
 refine CX.region ?_
 refine RX.cons rfl rfl (op_w (yw_assign rfl rfl) rfl rfl ?_)
 refine RX.nil (XX.next (V' := [(2, .slice none 0 0)]) ⟨rfl, trivial⟩ ?_)
 refine CX.ret ?_
 refine XX.then_ret ?_
 exact ret_tmp rfl rfl fun w1 hw => ⟨rfl, hw.sub (List.nil_sublist _)⟩

set_option maxRecDepth 100000 in
theorem w_logExt0 {w : World} (m : Int) :
    Calls Tryz.prog 16 #[.pointer none, .int .i64 m] w (fun e w' => e = .returned (.tuple #[.slice none 0 0, .int .i64 1]) ∧ SL w [] w' []) := by
 refine calls_of_CX (O := []) (L := []) (args := [.pointer none, .int .i64 m]) Tryz.func16 rfl (by simp [Tryz.ntmps16]) (SL.refl w) ?_
 refine CX.sub (V' := [(0, .pointer none), (1, .int .i64 m)]) ⟨rfl, rfl, trivial⟩ ?_
 refine CX.seq ?_
 refine CX.region ?_
 refine RX.cons rfl rfl (op_w (yw_assign rfl rfl) rfl rfl ?_)
 refine RX.cons rfl rfl (op_w (yw_assign rfl rfl) rfl rfl ?_)
 refine RX.nil (XX.next (V' := [(0, _), (1, _)]) ⟨rfl, rfl, trivial⟩ ?_)
 refine CX.seq ?_
 refine CX.seq ?_
 refine CX.region ?_
 refine RX.cons rfl rfl (op_w (yw_move rfl rfl) rfl rfl ?_)
 refine RX.cons rfl rfl (op_w (yw_ptrNil rfl ptrt_30 rfl rfl) rfl rfl ?_)
 refine RX.nil (XX.next (V' := [(0, _), (1, _), (7, _)]) ⟨rfl, rfl, rfl, trivial⟩ ?_)
 refine CX.condT rfl ?_
 refine CX.seq ?_
 refine CX.region ?_
 refine RX.cons rfl rfl (op_w (yw_assign rfl rfl) rfl rfl ?_)
 refine RX.cons rfl rfl (op_w (yw_assign rfl rfl) rfl rfl ?_)
 refine RX.nil (XX.next (V' := [(4, .slice none 0 0), (5, .int .i64 1)]) ⟨rfl, rfl, trivial⟩ ?_)
 refine CX.ret ?_
 refine XX.then_ret ?_
 exact ret_tmp2 rfl rfl rfl fun w1 hw => ⟨rfl, hw.sub (List.nil_sublist _)⟩

end Go.Proofs.YtnadipjlhlbfoaaGreatDoor
namespace Go.Proofs.YtnadipjlhlbfoaaGreatDoor
set_option linter.all false
open Go Go.RowKit
set_option maxRecDepth 100000
theorem ent_24 : ∀ args w, (callFunc 24 args).run Tryz.prog w = .ok (.enter 24 args) w := enters_of Tryz.func24 (by kernel_rfl) rfl
set_option maxRecDepth 100000 in
theorem w_append0 {w : World} (v : Value) :
    Calls Tryz.prog 7 #[.pointer none, v] w (fun e w' => e = .returned (.int .i64 1) ∧ SL w [] w' []) := by
 refine calls_of_CX (O := []) (L := []) (args := [.pointer none, v]) Tryz.func7 rfl (by simp [Tryz.ntmps7]) (SL.refl w) ?_
 refine CX.sub (V' := [(0, .pointer none), (1, v)]) ⟨rfl, rfl, trivial⟩ ?_
 refine CX.seq ?_
 refine CX.region ?_
 refine RX.cons rfl rfl (op_w (yw_assign rfl rfl) rfl rfl ?_)
 refine RX.nil (XX.next (V' := [(0, _), (1, _)]) ⟨rfl, rfl, trivial⟩ ?_)
 refine CX.seq ?_
 refine CX.seq ?_
 refine CX.region ?_
 refine RX.cons rfl rfl (op_w (yw_move rfl rfl) rfl rfl ?_)
 refine RX.cons rfl rfl (op_w (yw_ptrNil rfl ptrt_30 rfl rfl) rfl rfl ?_)
 refine RX.nil (XX.next (V' := [(0, _), (1, _), (13, _)]) ⟨rfl, rfl, rfl, trivial⟩ ?_)
 refine CX.condT rfl ?_
 refine CX.seq ?_
 refine CX.region ?_
 refine RX.cons rfl rfl (op_w (yw_assign rfl rfl) rfl rfl ?_)
 refine RX.nil (XX.next (V' := [(4, .int .i64 1)]) ⟨rfl, trivial⟩ ?_)
 refine CX.ret ?_
 refine XX.then_ret ?_
 exact ret_tmp rfl rfl fun w1 hw => ⟨rfl, hw.sub (List.nil_sublist _)⟩

set_option maxRecDepth 100000 in
theorem w_appendBad {w : World} {A : Option Addr} {cap gx c1 c2 : Nat} {A1 A2 : Option Addr} (X0 : List SX) (es0 : List ByteArray) (hd0 : ByteArray) (X : List SX) (hr : Rd w A 3 (X.map stC)) (hX : ∀ x ∈ X, Rd w x.1.1 3 (x.2.ls.map lnC)) (hAO : X ≠ [] → ab A ∉ (List.flatMap Ent.blocks [.blk gx (.cells (#[.slice A1 (List.length (X0 : List SX)) c1, .slice A2 (List.length (es0 : List ByteArray)) c2, .string hd0]) 58 (0, 0)), .row A1 c1 25 3 (List.map stC X0), .row A2 c2 9 1 (List.map strC es0)])) (hXO : ∀ x ∈ X, x.2.ls ≠ [] → ab x.1.1 ∉ (List.flatMap Ent.blocks [.blk gx (.cells (#[.slice A1 (List.length (X0 : List SX)) c1, .slice A2 (List.length (es0 : List ByteArray)) c2, .string hd0]) 58 (0, 0)), .row A1 c1 25 3 (List.map stC X0), .row A2 c2 9 1 (List.map strC es0)])) (hXl : ∀ x ∈ X, x.2.ls.length ≤ 1000000) (hl : X.length ≤ 1000000) (hs : SL w (List.flatMap Ent.blocks [.blk gx (.cells (#[.slice A1 (List.length (X0 : List SX)) c1, .slice A2 (List.length (es0 : List ByteArray)) c2, .string hd0]) 58 (0, 0)), .row A1 c1 25 3 (List.map stC X0), .row A2 c2 9 1 (List.map strC es0)]) w [.blk gx (.cells (#[.slice A1 (List.length (X0 : List SX)) c1, .slice A2 (List.length (es0 : List ByteArray)) c2, .string hd0]) 58 (0, 0)), .row A1 c1 25 3 (List.map stC X0), .row A2 c2 9 1 (List.map strC es0)]) (hbad : ¬ ∀ x ∈ X, okS x.2 = true) :
    Calls Tryz.prog 7 #[.pointer (some ⟨gx, 0, none⟩), .slice A X.length cap] w (fun e w' => e = .returned (.int .i64 240) ∧ SL w (List.flatMap Ent.blocks [.blk gx (.cells (#[.slice A1 (List.length (X0 : List SX)) c1, .slice A2 (List.length (es0 : List ByteArray)) c2, .string hd0]) 58 (0, 0)), .row A1 c1 25 3 (List.map stC X0), .row A2 c2 9 1 (List.map strC es0)]) w' [.blk gx (.cells (#[.slice A1 (List.length (X0 : List SX)) c1, .slice A2 (List.length (es0 : List ByteArray)) c2, .string hd0]) 58 (0, 0)), .row A1 c1 25 3 (List.map stC X0), .row A2 c2 9 1 (List.map strC es0)]) := by
 refine calls_of_CX (O := (List.flatMap Ent.blocks [.blk gx (.cells (#[.slice A1 (List.length (X0 : List SX)) c1, .slice A2 (List.length (es0 : List ByteArray)) c2, .string hd0]) 58 (0, 0)), .row A1 c1 25 3 (List.map stC X0), .row A2 c2 9 1 (List.map strC es0)])) (L := [.blk gx (.cells (#[.slice A1 (List.length (X0 : List SX)) c1, .slice A2 (List.length (es0 : List ByteArray)) c2, .string hd0]) 58 (0, 0)), .row A1 c1 25 3 (List.map stC X0), .row A2 c2 9 1 (List.map strC es0)]) (args := [.pointer (some ⟨gx, 0, none⟩), .slice A X.length cap]) Tryz.func7 rfl (by simp [Tryz.ntmps7]) hs ?_
 refine CX.sub (V' := [(0, .pointer (some ⟨gx, 0, none⟩)), (1, .slice A X.length cap)]) ⟨rfl, rfl, trivial⟩ ?_
 refine CX.seq ?_
 refine CX.region ?_
 refine RX.cons rfl rfl (op_w (yw_assign rfl rfl) rfl rfl ?_)
 refine RX.nil (XX.next (V' := [(0, _), (1, _)]) ⟨rfl, rfl, trivial⟩ ?_)
 refine CX.seq ?_
 refine CX.seq ?_
 refine CX.region ?_
 refine RX.cons rfl rfl (op_w (yw_move rfl rfl) rfl rfl ?_)
 refine RX.cons rfl rfl (op_w (yw_ptrSome rfl ptrt_30 rfl rfl) rfl rfl ?_)
 refine RX.nil (XX.next (V' := [(0, _), (1, _), (13, _)]) ⟨rfl, rfl, rfl, trivial⟩ ?_)
 refine CX.condF rfl ?_
 refine CX.skip (XX.next (V' := [(0, _), (1, _)]) ⟨rfl, rfl, trivial⟩ ?_)
 refine CX.seq ?_
 refine CX.region ?_
 refine RX.cons rfl rfl (op_w (yw_assign rfl rfl) rfl rfl ?_)
 refine RX.nil (XX.next (V' := [(0, _), (1, _), (5, _)]) ⟨rfl, rfl, rfl, trivial⟩ ?_)
 refine CX.seq ?_
 refine CX.seq ?_
 refine CX.region ?_
 refine RX.cons rfl rfl (op_w (yw_move rfl rfl) rfl rfl ?_)
 refine RX.cons rfl rfl (op_w (yw_lenS rfl Tryz.underlying33 rfl) rfl rfl ?_)
 refine RX.cons rfl rfl (op_w (yw_move rfl rfl) rfl rfl ?_)
 refine RX.nil (XX.next (V' := [(0, _), (1, _), (5, _), (14, _), (15, _), (16, _)]) ⟨rfl, rfl, rfl, rfl, rfl, rfl, trivial⟩ ?_)
 refine CX.block ?_
 refine CX.rowNil 9 1 ?_
 refine CX.loop (σ := Nat × (Option Addr × Nat) × List ByteArray) (fun z => [(0, .pointer (some ⟨gx, 0, none⟩)), (1, .slice A X.length cap), (5, .slice z.2.1.1 (List.length (z.2.2 : List ByteArray)) z.2.1.2), (14, .slice A X.length cap), (15, .int .i64 ((X.length : Nat) : Int)), (16, .int .i64 ((z.1 : Nat) : Int))]) (fun z => [.row z.2.1.1 z.2.1.2 9 1 (List.map strC z.2.2), .blk gx (.cells (#[.slice A1 (List.length (X0 : List SX)) c1, .slice A2 (List.length (es0 : List ByteArray)) c2, .string hd0]) 58 (0, 0)), .row A1 c1 25 3 (List.map stC X0), .row A2 c2 9 1 (List.map strC es0)]) (fun z => z.1 ≤ X.length ∧ (∀ x ∈ X.take z.1, okS x.2 = true) ∧ z.2.2.length = z.1) (fun z => X.length - z.1) (0, (none, 0), []) ⟨Nat.zero_le _, by simp, rfl⟩ ⟨rfl, rfl, rfl, rfl, rfl, rfl, trivial⟩ rfl (fun z hI => ?_)
 obtain ⟨i, ⟨B1, d1⟩, encs⟩ := z
 dsimp only at hI ⊢
 obtain ⟨hi, hall, hel⟩ := hI
 refine CX.seq ?_
 refine CX.region ?_
 refine RX.cons rfl rfl (op_w (yw_lss rfl rfl rfl) rfl rfl ?_)
 refine RX.nil (XX.next (V' := [(0, _), (1, _), (5, _), (14, _), (15, _), (16, _), (17, _)]) ⟨rfl, rfl, rfl, rfl, rfl, rfl, rfl, trivial⟩ ?_)
 refine CX.seq ?_
 refine CX.condD (p := ((i : Nat) : Int) < ((X.length : Nat) : Int)) rfl (fun c17 => ?_) (fun c17 => ?_)
 ·obtain ⟨x0, hx0⟩ := get_some (l := X) (k := i) (by omega)
  have hx0m := List.mem_of_getElem? hx0
  have hA : ∃ b j, A = some ⟨b, j, none⟩ := hr.some (k := 0) (by simp; omega)
  refine CX.skip (XX.next (V' := [(0, _), (1, _), (5, _), (14, _), (15, _), (16, _)]) ⟨rfl, rfl, rfl, rfl, rfl, rfl, trivial⟩ ?_)
  refine CX.seq ?_
  refine CX.block ?_
  refine CX.seq ?_
  refine CX.region ?_
  refine RX.cons rfl rfl (op_w (yw_index (k := i) rfl slt_33 rfl rfl (by omega) (by omega) hA) rfl rfl ?_)
  refine RX.cons rfl rfl (op_yld (y_elem rfl rfl agg_25 hr (hAO (List.ne_nil_of_mem hx0m)) (map_get hx0)) rfl rfl ?_)
  refine RX.cons rfl rfl (op_alloc rfl rfl rfl zero_25 fun gl => ?_)
  refine RX.cons rfl rfl (op_storeAll (i := 0) rfl rfl rfl rfl szt_25 rfl (plain_of rfl) rfl rfl ?_)
  refine RX.nil (XX.next (V' := [(0, _), (1, _), (5, _), (7, _), (14, _), (15, _), (16, _)]) ⟨rfl, rfl, rfl, rfl, rfl, rfl, rfl, trivial⟩ ?_)
  refine CX.seq ?_
  by_cases hok : okS x0.2 = true
  ·refine CX.region ?_
   refine RX.cons rfl rfl (op_yld (y_loadA (i := 0) rfl rfl agg_25 rfl rfl) rfl rfl ?_)
   refine RX.cons rfl rfl (op_callV (v := .tuple #[.string (⟨(encL x0.2).toArray⟩), .int .i64 0]) rfl rfl rfl rfl rfl ent_24 (fun w hw => by have h := w_encode (cap := x0.1.2) x0.2 (rdN hw (hX x0 hx0m) (hXO x0 hx0m)) (hXl x0 hx0m); rw [encR_ok hok] at h; exact h) ?_)
   refine RX.cons rfl rfl (op_w (yw_move rfl rfl) rfl rfl ?_)
   refine RX.cons rfl rfl (op_w (yw_extract rfl rfl rfl) rfl rfl ?_)
   refine RX.cons rfl rfl (op_w (yw_extract rfl rfl rfl) rfl rfl ?_)
   refine RX.cons rfl rfl (op_w (yw_assign rfl rfl) rfl rfl ?_)
   refine RX.cons rfl rfl (op_w (yw_assign rfl rfl) rfl rfl ?_)
   refine RX.nil (XX.next (V' := [(0, _), (1, _), (5, _), (8, _), (9, _), (14, _), (15, _), (16, _)]) ⟨rfl, rfl, rfl, rfl, rfl, rfl, rfl, rfl, trivial⟩ ?_)
   refine CX.seq ?_
   refine CX.seq ?_
   refine CX.region ?_
   refine RX.cons rfl rfl (op_w (yw_move rfl rfl) rfl rfl ?_)
   refine RX.cons rfl rfl (op_w (yw_neq rfl rfl rfl) rfl rfl ?_)
   refine RX.know (t := 26) (u := .bool false) rfl rfl ?_
   refine RX.nil (XX.next (V' := [(0, _), (1, _), (5, _), (8, _), (14, _), (15, _), (16, _), (26, _)]) ⟨rfl, rfl, rfl, rfl, rfl, rfl, rfl, rfl, trivial⟩ ?_)
   refine CX.condF rfl ?_
   refine CX.skip (XX.next (V' := [(0, _), (1, _), (5, _), (8, _), (14, _), (15, _), (16, _)]) ⟨rfl, rfl, rfl, rfl, rfl, rfl, rfl, trivial⟩ ?_)
   refine CX.region ?_
   refine RX.cons rfl rfl (op_w (yw_move rfl rfl) rfl rfl ?_)
   refine RX.cons rfl rfl (op_w (yw_move rfl rfl) rfl rfl ?_)
   refine RX.cons rfl rfl (op_buildSlice rfl rfl rfl slb_26 rfl rfl (by intro v hv; simp only [List.mem_cons, List.not_mem_nil, or_false] at hv; subst hv; exact ⟨rfl, (plain_of rfl)⟩) (by decide) fun g7 => ?_)
   refine RX.cons rfl rfl (op_appendM strC (i := 2) (j := 0) (xs := encs) ([encS x0.2]) rfl rfl rfl slb_26 rfl rfl rfl rfl rfl rfl (by simp only [List.length_singleton]; omega) (by simp only [List.length_singleton]; omega) fun B2 d2 => ?_)
   refine RX.cons rfl rfl (op_w (yw_assign rfl rfl) rfl rfl ?_)
   refine RX.nil (XX.inBlock (V' := [(0, _), (1, _), (5, _), (14, _), (15, _), (16, _)]) ⟨rfl, rfl, rfl, rfl, rfl, rfl, trivial⟩ ?_)
   refine XX.next (V' := [(0, _), (1, _), (5, _), (14, _), (15, _), (16, _)]) ⟨rfl, rfl, rfl, rfl, rfl, rfl, trivial⟩ ?_
   refine CX.region ?_
   refine RX.cons rfl rfl (op_w (yw_add rfl rfl rfl (by omega) (by omega)) rfl rfl ?_)
   refine RX.cons rfl rfl (op_w (yw_move rfl rfl) rfl rfl ?_)
   refine RX.nil (XX.againP ([.row (some ⟨g7, 0, none⟩) 1 9 1 (List.map strC ([encS x0.2])), .blk gl (.cells (stC x0) 25 (0, 0))]) (i + 1, (B2, d2), encs ++ [encS x0.2]) (by dsimp only; omega) ⟨by dsimp only; omega, fun y hy => all_snocG (p := fun x : SX => okS x.2) hx0 hok hall y hy, by simp [hel]⟩ ⟨rfl, rfl, rfl, rfl, rfl, rfl, trivial⟩ ((perm_pick 2 rfl).trans (List.Perm.cons _ ((perm_pick 2 rfl).trans (List.Perm.cons _ ((perm_pick 2 rfl).trans (List.Perm.cons _ ((perm_pick 2 rfl).trans (List.Perm.cons _ (List.Perm.refl _))))))))))
  ·refine CX.region ?_
   refine RX.cons rfl rfl (op_yld (y_loadA (i := 0) rfl rfl agg_25 rfl rfl) rfl rfl ?_)
   refine RX.cons rfl rfl (op_callV (v := .tuple #[.string .empty, .int .i64 190]) rfl rfl rfl rfl rfl ent_24 (fun w hw => by have h := w_encode (cap := x0.1.2) x0.2 (rdN hw (hX x0 hx0m) (hXO x0 hx0m)) (hXl x0 hx0m); rw [encR_bad (by simpa using hok)] at h; exact h) ?_)
   refine RX.cons rfl rfl (op_w (yw_move rfl rfl) rfl rfl ?_)
   refine RX.cons rfl rfl (op_w (yw_extract rfl rfl rfl) rfl rfl ?_)
   refine RX.cons rfl rfl (op_w (yw_extract rfl rfl rfl) rfl rfl ?_)
   refine RX.cons rfl rfl (op_w (yw_assign rfl rfl) rfl rfl ?_)
   refine RX.cons rfl rfl (op_w (yw_assign rfl rfl) rfl rfl ?_)
   refine RX.nil (XX.next (V' := [(0, _), (1, _), (5, _), (8, _), (9, _), (14, _), (15, _), (16, _)]) ⟨rfl, rfl, rfl, rfl, rfl, rfl, rfl, rfl, trivial⟩ ?_)
   refine CX.seq ?_
   refine CX.seq ?_
   refine CX.region ?_
   refine RX.cons rfl rfl (op_w (yw_move rfl rfl) rfl rfl ?_)
   refine RX.cons rfl rfl (op_w (yw_neq rfl rfl rfl) rfl rfl ?_)
   refine RX.know (t := 26) (u := .bool true) rfl rfl ?_
   refine RX.nil (XX.next (V' := [(0, _), (1, _), (5, _), (8, _), (14, _), (15, _), (16, _), (26, _)]) ⟨rfl, rfl, rfl, rfl, rfl, rfl, rfl, rfl, trivial⟩ ?_)
   refine CX.condT rfl ?_
   refine CX.seq ?_
   refine CX.region ?_
   refine RX.cons rfl rfl (op_w (yw_assign rfl rfl) rfl rfl ?_)
   refine RX.nil (XX.next (V' := [(4, .int .i64 240)]) ⟨rfl, trivial⟩ ?_)
   refine CX.ret ?_
   refine XX.then_ret ?_
   refine XX.block_ret ?_
   refine XX.then_ret ?_
   refine XX.then_ret ?_
   refine XX.block_ret ?_
   refine XX.then_ret ?_
   exact ret_tmp rfl rfl fun w1 hw => ⟨rfl, hw.pick ((perm_pick 2 rfl).trans (List.Perm.cons _ ((perm_pick 2 rfl).trans (List.Perm.cons _ ((perm_pick 2 rfl).trans (List.Perm.cons _ (List.Perm.refl _)))))))⟩
 ·exact absurd (fun x hx => hall x (by rw [List.take_of_length_le (by omega)]; exact hx)) hbad

end Go.Proofs.YtnadipjlhlbfoaaGreatDoor
