/- Walks, printed by a program. -/
import Derived.Test.YtmndhiaaolfepaaDoorWalkO
import Derived.Test.YtmndhiaaolfepaaDoorDefs4
namespace Go.Proofs.YtmndhiaaolfepaaDoor
set_option linter.all false
open Go Go.RowKit
set_option maxRecDepth 100000
theorem ent_21 : ∀ args w, (callFunc 21 args).run Tryd.prog w = .ok (.enter 21 args) w := enters_of Tryd.func21 (by kernel_rfl) rfl
theorem ent_30 : ∀ args w, (callFunc 30 args).run Tryd.prog w = .ok (.enter 30 args) w := enters_of Tryd.func30 (by kernel_rfl) rfl
theorem ent_23 : ∀ args w, (callFunc 23 args).run Tryd.prog w = .ok (.enter 23 args) w := enters_of Tryd.func23 (by kernel_rfl) rfl
theorem ent_22 : ∀ args w, (callFunc 22 args).run Tryd.prog w = .ok (.enter 22 args) w := enters_of Tryd.func22 (by kernel_rfl) rfl
set_option maxRecDepth 100000 in
theorem w_clone {w : World} {A : Option Addr} {cap : Nat} (ss : List Strm) (hr : Rd w A 9 (ss.map Strm.cells)) (hn : ss.length ≤ 1000) :
    Calls Tryd.prog 23 #[.slice A ss.length cap] w (fun e w' => ∃ z : Option Addr × Nat, True ∧ e = .returned (.slice z.1 ss.length z.2) ∧ SL w [] w' [.row z.1 z.2 30 9 (List.map Strm.cells ss)]) := by
  refine calls_of_CX (O := []) (L := []) (args := [.slice A ss.length cap]) Tryd.func23 rfl (by simp [Tryd.ntmps23]) (SL.refl w) ?_
  refine CX.sub (V' := [(0, .slice A ss.length cap)]) ⟨rfl, trivial⟩ ?_
  refine CX.seq ?_
  refine CX.region ?_
  refine RX.cons rfl rfl (op_w (yw_assign rfl rfl) rfl rfl ?_)
  refine RX.nil (XX.next (V' := [(0, .slice A ss.length cap)]) ⟨rfl, trivial⟩ ?_)
  refine CX.seq ?_
  refine CX.seq ?_
  refine CX.region ?_
  refine RX.cons rfl rfl (op_w (yw_move rfl rfl) rfl rfl ?_)
  refine RX.cons rfl rfl (op_w (yw_slnil rfl Tryd.underlying23 rfl rfl) rfl rfl ?_)
  refine RX.nil (XX.next (V' := [(0, .slice A ss.length cap), (4, .bool (Option.isNone A))]) ⟨rfl, rfl, trivial⟩ ?_)
  refine CX.cond (b := Option.isNone A) rfl (fun c4 => ?_) (fun c4 => ?_)
  · obtain rfl := rd_none hr c4
    refine CX.rowNil 30 9 ?_
    refine CX.seq ?_
    refine CX.region ?_
    refine RX.cons rfl rfl (op_w (yw_assign rfl rfl) rfl rfl ?_)
    refine RX.nil (XX.next (V' := [(2, .slice none 0 0)]) ⟨rfl, trivial⟩ ?_)
    refine CX.ret ?_
    refine XX.then_ret ?_
    exact ret_tmp rfl rfl fun w1 hw => ⟨(none, 0), trivial, rfl, hw⟩
  · refine CX.skip (XX.next (V' := [(0, .slice A ss.length cap)]) ⟨rfl, trivial⟩ ?_)
    refine CX.seq ?_
    refine CX.region ?_
    refine RX.cons rfl rfl (op_buildSlice rfl rfl rfl slb_23 rfl rfl (by intro v hv; simp at hv) (by decide) fun g => ?_)
    refine RX.cons rfl rfl (op_w (yw_move rfl rfl) rfl rfl ?_)
    refine RX.cons rfl rfl (op_appendM0 Strm.cells (i := 0) (xs := ([] : List Strm)) ss rfl rfl rfl slb_23 rfl rfl rfl rfl hr (by simp) (by simp; omega) (by simp; omega) fun A' c' => ?_)
    refine RX.cons rfl rfl (op_w (yw_assign rfl rfl) rfl rfl ?_)
    refine RX.nil (XX.next (V' := [(2, .slice A' ((([] : List Strm) ++ ss).length) c')]) ⟨rfl, trivial⟩ ?_)
    refine CX.ret ?_
    exact ret_tmp rfl rfl fun w1 hw => ⟨(A', c'), trivial, rfl, hw⟩

set_option maxRecDepth 100000 in
theorem w_indexFunc {w : World} {A : Option Addr} {cap g : Nat} (ss : List Strm) (p : Int) (hr : Rd w A 9 (ss.map Strm.cells)) (hn : ss.length ≤ 1000) (hg : w.cell? ⟨g, 0, none⟩ = some (.int .i64 p)) :
    Calls Tryd.prog 30 #[.slice A ss.length cap, .func (.func 21) #[] #[.pointer (some ⟨g, 0, none⟩)]] w (fun e w' => ∃ r : Int, IdxOk p ss r ∧ e = .returned (.int .i64 r) ∧ SL w [] w' []) := by
  refine calls_of_CX (O := []) (L := []) (args := [.slice A ss.length cap, .func (.func 21) #[] #[.pointer (some ⟨g, 0, none⟩)]]) Tryd.func30 rfl (by simp [Tryd.ntmps30]) (SL.refl w) ?_
  refine CX.sub (V' := [(0, .slice A ss.length cap), (1, .func (.func 21) #[] #[.pointer (some ⟨g, 0, none⟩)])]) ⟨rfl, rfl, trivial⟩ ?_
  refine CX.seq ?_
  refine CX.region ?_
  refine RX.cons rfl rfl (op_w (yw_assign rfl rfl) rfl rfl ?_)
  refine RX.nil (XX.next (V' := [(0, .slice A ss.length cap), (1, .func (.func 21) #[] #[.pointer (some ⟨g, 0, none⟩)])]) ⟨rfl, rfl, trivial⟩ ?_)
  refine CX.seq ?_
  refine CX.seq ?_
  refine CX.region ?_
  refine RX.cons rfl rfl (op_w (yw_move rfl rfl) rfl rfl ?_)
  refine RX.cons rfl rfl (op_w (yw_lenS rfl Tryd.underlying23 rfl) rfl rfl ?_)
  refine RX.cons rfl rfl (op_w (yw_move rfl rfl) rfl rfl ?_)
  refine RX.nil (XX.next (V' := [(0, .slice A ss.length cap), (1, .func (.func 21) #[] #[.pointer (some ⟨g, 0, none⟩)]), (7, .int .i64 ((ss.length : Nat) : Int)), (8, .int .i64 0)]) ⟨rfl, rfl, rfl, rfl, trivial⟩ ?_)
  refine CX.block ?_
  refine CX.loop (σ := Nat) (fun i => [(0, .slice A ss.length cap), (1, .func (.func 21) #[] #[.pointer (some ⟨g, 0, none⟩)]), (7, .int .i64 ((ss.length : Nat) : Int)), (8, .int .i64 ((i : Nat) : Int))]) (fun i => []) (fun i => i ≤ ss.length ∧ ∀ s ∈ ss.take i, inPeriod p s = true) (fun i => ss.length - i) 0 ⟨Nat.zero_le _, by simp⟩ ⟨rfl, rfl, rfl, rfl, trivial⟩ rfl (fun i hI => ?_)
  obtain ⟨hi, hall⟩ := hI
  refine CX.seq ?_
  refine CX.region ?_
  refine RX.cons rfl rfl (op_w (yw_lss rfl rfl rfl) rfl rfl ?_)
  refine RX.nil (XX.next (V' := [(0, .slice A ss.length cap), (1, .func (.func 21) #[] #[.pointer (some ⟨g, 0, none⟩)]), (7, .int .i64 ((ss.length : Nat) : Int)), (8, .int .i64 ((i : Nat) : Int)), (9, .bool (decide (((i : Nat) : Int) < ((ss.length : Nat) : Int))))]) ⟨rfl, rfl, rfl, rfl, rfl, trivial⟩ ?_)
  refine CX.seq ?_
  refine CX.condD (p := ((i : Nat) : Int) < ((ss.length : Nat) : Int)) rfl (fun c9 => ?_) (fun c9 => ?_)
  · obtain ⟨s, hs⟩ := get_some (l := ss) (k := i) (by omega)
    refine CX.skip (XX.next (V' := [(0, .slice A ss.length cap), (1, .func (.func 21) #[] #[.pointer (some ⟨g, 0, none⟩)]), (7, .int .i64 ((ss.length : Nat) : Int)), (8, .int .i64 ((i : Nat) : Int))]) ⟨rfl, rfl, rfl, rfl, trivial⟩ ?_)
    refine CX.seq ?_
    refine CX.block ?_
    refine CX.seq ?_
    refine CX.region ?_
    refine RX.cons rfl rfl (op_w (yw_move rfl rfl) rfl rfl ?_)
    refine RX.cons rfl rfl (op_w (yw_assign rfl rfl) rfl rfl ?_)
    refine RX.nil (XX.next (V' := [(0, .slice A ss.length cap), (1, .func (.func 21) #[] #[.pointer (some ⟨g, 0, none⟩)]), (5, .int .i64 ((i : Nat) : Int)), (7, .int .i64 ((ss.length : Nat) : Int)), (8, .int .i64 ((i : Nat) : Int))]) ⟨rfl, rfl, rfl, rfl, rfl, trivial⟩ ?_)
    refine CX.seq ?_
    refine CX.region ?_
    refine RX.cons rfl rfl (op_w (yw_move rfl rfl) rfl rfl ?_)
    refine RX.cons rfl rfl (op_w (yw_move rfl rfl) rfl rfl ?_)
    refine RX.cons rfl rfl (op_w (yw_move rfl rfl) rfl rfl ?_)
    refine RX.cons rfl rfl (op_w (yw_index (k := i) rfl slt_23 rfl rfl (by omega) (by omega) (hr.some (k := i) (by simp; omega))) rfl rfl ?_)
    refine RX.cons rfl rfl (op_yld (y_elem rfl rfl agg_30 hr (by simp) (map_get hs)) rfl rfl ?_)
    refine RX.cons rfl rfl (op_callV (v := .bool (decide (s.period ≠ p))) rfl rfl rfl rfl rfl ent_21 (fun w hw => w_period1 s p (hw.keepC hg (by simp))) ?_)
    refine RX.nil (XX.next (V' := [(0, .slice A ss.length cap), (1, .func (.func 21) #[] #[.pointer (some ⟨g, 0, none⟩)]), (5, .int .i64 ((i : Nat) : Int)), (7, .int .i64 ((ss.length : Nat) : Int)), (8, .int .i64 ((i : Nat) : Int)), (16, .bool (decide (s.period ≠ p)))]) ⟨rfl, rfl, rfl, rfl, rfl, rfl, trivial⟩ ?_)
    refine CX.condD (p := s.period ≠ p) rfl (fun c16 => ?_) (fun c16 => ?_)
    · refine CX.seq ?_
      refine CX.region ?_
      refine RX.cons rfl rfl (op_w (yw_move rfl rfl) rfl rfl ?_)
      refine RX.cons rfl rfl (op_w (yw_assign rfl rfl) rfl rfl ?_)
      refine RX.nil (XX.next (V' := [(4, .int .i64 ((i : Nat) : Int))]) ⟨rfl, trivial⟩ ?_)
      refine CX.ret ?_
      refine XX.block_ret ?_
      refine XX.then_ret ?_
      refine XX.then_ret ?_
      refine XX.block_ret ?_
      refine XX.then_ret ?_
      exact ret_tmp rfl rfl fun w1 hw => ⟨_, .inr ⟨i, s, rfl, hs, by simpa [inPeriod] using c16, hall⟩, rfl, hw.sub (List.nil_sublist _)⟩
    · refine CX.skip (XX.inBlock (V' := [(0, .slice A ss.length cap), (1, .func (.func 21) #[] #[.pointer (some ⟨g, 0, none⟩)]), (7, .int .i64 ((ss.length : Nat) : Int)), (8, .int .i64 ((i : Nat) : Int))]) ⟨rfl, rfl, rfl, rfl, trivial⟩ ?_)
      refine XX.next (V' := [(0, .slice A ss.length cap), (1, .func (.func 21) #[] #[.pointer (some ⟨g, 0, none⟩)]), (7, .int .i64 ((ss.length : Nat) : Int)), (8, .int .i64 ((i : Nat) : Int))]) ⟨rfl, rfl, rfl, rfl, trivial⟩ ?_
      refine CX.region ?_
      refine RX.cons rfl rfl (op_w (yw_add rfl rfl rfl (by omega) (by omega)) rfl rfl ?_)
      refine RX.cons rfl rfl (op_w (yw_move rfl rfl) rfl rfl ?_)
      refine RX.nil (XX.againP ([]) (i + 1) (by omega) ⟨by omega, fun s' hs' => by rw [take_succ hs] at hs'; rcases List.mem_append.1 hs' with h | h; exact hall s' h; rw [List.mem_singleton.1 h]; simpa [inPeriod] using c16⟩ ⟨rfl, rfl, rfl, rfl, trivial⟩ (List.Perm.refl _))
  · obtain rfl : i = ss.length := by omega
    rw [List.take_length] at hall
    refine CX.exit ?_
    refine XX.then_exit ?_
    refine XX.then_exit ?_
    refine XX.block_exit ?_
    refine XX.next (V' := []) trivial ?_
    refine CX.seq ?_
    refine CX.region ?_
    refine RX.cons rfl rfl (op_w (yw_assign rfl rfl) rfl rfl ?_)
    refine RX.nil (XX.next (V' := [(4, .int .i64 (-1))]) ⟨rfl, trivial⟩ ?_)
    refine CX.ret ?_
    exact ret_tmp rfl rfl fun w1 hw => ⟨_, .inl ⟨rfl, hall⟩, rfl, hw.sub (List.nil_sublist _)⟩

set_option maxRecDepth 100000 in
theorem w_deleteFunc {w : World} {A : Option Addr} {cap g : Nat} (ss : List Strm) (p : Int) (hn : ss.length ≤ 1000) (hg : w.cell? ⟨g, 0, none⟩ = some (.int .i64 p)) (hgO : g ∉ rowO A) (hs : SL w (rowO A) w [.row A cap 30 9 (List.map Strm.cells ss)]) :
    Calls Tryd.prog 22 #[.slice A ss.length cap, .func (.func 21) #[] #[.pointer (some ⟨g, 0, none⟩)]] w (fun e w' => e = .returned (.slice A (ss.filter (inPeriod p)).length cap) ∧ SL w (rowO A) w' [.row A cap 30 9 (List.map Strm.cells (ss.filter (inPeriod p)))]) := by
  have hcap : ss.length ≤ cap := by simpa using Ent.capLe (hs.ents _ List.mem_cons_self)
  refine calls_of_CX (O := (rowO A)) (L := [.row A cap 30 9 (List.map Strm.cells ss)]) (args := [.slice A ss.length cap, .func (.func 21) #[] #[.pointer (some ⟨g, 0, none⟩)]]) Tryd.func22 rfl (by simp [Tryd.ntmps22]) hs ?_
  refine CX.sub (V' := [(0, .slice A ss.length cap), (1, .func (.func 21) #[] #[.pointer (some ⟨g, 0, none⟩)])]) ⟨rfl, rfl, trivial⟩ ?_
  refine CX.seq ?_
  refine CX.region ?_
  refine RX.cons rfl rfl (op_w (yw_assign rfl rfl) rfl rfl ?_)
  refine RX.nil (XX.next (V' := [(0, .slice A ss.length cap), (1, .func (.func 21) #[] #[.pointer (some ⟨g, 0, none⟩)])]) ⟨rfl, rfl, trivial⟩ ?_)
  refine CX.seq ?_
  refine CX.region ?_
  refine RX.cons rfl rfl (op_w (yw_move rfl rfl) rfl rfl ?_)
  refine RX.cons rfl rfl (op_w (yw_move rfl rfl) rfl rfl ?_)
  refine RX.cons rfl rfl (op_callE rfl rfl rfl rfl rfl ent_30 (fun w hw => w_indexFunc ss p (Ent.rd (hw.ents _ List.mem_cons_self)) hn (hw.keepC hg hgO)) (fun r30 h30 => ?_))
  refine RX.cons rfl rfl (op_w (yw_assign rfl rfl) rfl rfl ?_)
  refine RX.nil (XX.next (V' := [(0, .slice A ss.length cap), (1, .func (.func 21) #[] #[.pointer (some ⟨g, 0, none⟩)]), (5, .int .i64 r30)]) ⟨rfl, rfl, rfl, trivial⟩ ?_)
  refine CX.seq ?_
  refine CX.seq ?_
  refine CX.region ?_
  refine RX.cons rfl rfl (op_w (yw_move rfl rfl) rfl rfl ?_)
  refine RX.cons rfl rfl (op_w (yw_eql rfl rfl rfl) rfl rfl ?_)
  refine RX.nil (XX.next (V' := [(0, .slice A ss.length cap), (1, .func (.func 21) #[] #[.pointer (some ⟨g, 0, none⟩)]), (5, .int .i64 r30), (12, .bool (decide (r30 = (-1))))]) ⟨rfl, rfl, rfl, rfl, trivial⟩ ?_)
  refine CX.condD (p := r30 = (-1)) rfl (fun c12 => ?_) (fun c12 => ?_)
  · refine CX.seq ?_
    refine CX.region ?_
    refine RX.cons rfl rfl (op_w (yw_move rfl rfl) rfl rfl ?_)
    refine RX.cons rfl rfl (op_w (yw_assign rfl rfl) rfl rfl ?_)
    refine RX.nil (XX.next (V' := [(4, .slice A ss.length cap)]) ⟨rfl, trivial⟩ ?_)
    refine CX.ret ?_
    refine XX.then_ret ?_
    exact ret_tmp rfl rfl fun w1 hw => by rw [filter_all_in (idx_none h30 c12)]; exact ⟨rfl, hw⟩
  · obtain ⟨i0, s0, rfl, hs0, hp0, hall0⟩ := idx_some h30 c12
    have hi0 : i0 < ss.length := (List.getElem?_eq_some_iff.1 hs0).1
    refine CX.skip (XX.next (V' := [(0, .slice A ss.length cap), (1, .func (.func 21) #[] #[.pointer (some ⟨g, 0, none⟩)]), (5, .int .i64 ((i0 : Nat) : Int))]) ⟨rfl, rfl, rfl, trivial⟩ ?_)
    refine CX.seq ?_
    refine CX.seq ?_
    refine CX.region ?_
    refine RX.cons rfl rfl (op_w (yw_move rfl rfl) rfl rfl ?_)
    refine RX.cons rfl rfl (op_w (yw_add rfl rfl rfl (by omega) (by omega)) rfl rfl ?_)
    refine RX.know (t := 15) (u := .int .i64 ((i0 + 1 : Nat) : Int)) rfl (congrArg (Value.int .i64) (by omega)) ?_
    refine RX.cons rfl rfl (op_w (yw_assign rfl rfl) rfl rfl ?_)
    refine RX.nil (XX.next (V' := [(0, .slice A ss.length cap), (1, .func (.func 21) #[] #[.pointer (some ⟨g, 0, none⟩)]), (5, .int .i64 ((i0 : Nat) : Int)), (6, .int .i64 ((i0 + 1 : Nat) : Int))]) ⟨rfl, rfl, rfl, rfl, trivial⟩ ?_)
    refine CX.block ?_
    refine CX.loop (σ := Nat × Nat × List Strm) (fun z => [(0, .slice A ss.length cap), (1, .func (.func 21) #[] #[.pointer (some ⟨g, 0, none⟩)]), (5, .int .i64 ((z.1 : Nat) : Int)), (6, .int .i64 ((z.2.1 : Nat) : Int))]) (fun z => [.row A cap 30 9 (List.map Strm.cells z.2.2)]) (fun z => z.2.2.length = ss.length ∧ z.1 < z.2.1 ∧ z.2.1 ≤ ss.length ∧ z.2.2.take z.1 = (ss.take z.2.1).filter (inPeriod p) ∧ z.2.2.drop z.2.1 = ss.drop z.2.1) (fun z => ss.length - z.2.1) (i0, i0 + 1, ss) ⟨rfl, Nat.lt_succ_self _, hi0, start_del hs0 hp0 hall0, rfl⟩ ⟨rfl, rfl, rfl, rfl, trivial⟩ rfl (fun z hI => ?_)
    obtain ⟨i, j, zs⟩ := z
    dsimp only at hI ⊢
    obtain ⟨hzl, hij, hj, hti, hdj⟩ := hI
    refine CX.seq ?_
    refine CX.seq ?_
    refine CX.region ?_
    refine RX.cons rfl rfl (op_w (yw_move rfl rfl) rfl rfl ?_)
    refine RX.cons rfl rfl (op_w (yw_move rfl rfl) rfl rfl ?_)
    refine RX.cons rfl rfl (op_w (yw_lenS rfl Tryd.underlying23 rfl) rfl rfl ?_)
    refine RX.cons rfl rfl (op_w (yw_lss rfl rfl rfl) rfl rfl ?_)
    refine RX.nil (XX.next (V' := [(0, .slice A ss.length cap), (1, .func (.func 21) #[] #[.pointer (some ⟨g, 0, none⟩)]), (5, .int .i64 ((i : Nat) : Int)), (6, .int .i64 ((j : Nat) : Int)), (19, .bool (decide (((j : Nat) : Int) < ((ss.length : Nat) : Int))))]) ⟨rfl, rfl, rfl, rfl, rfl, trivial⟩ ?_)
    refine CX.condD (p := ((j : Nat) : Int) < ((ss.length : Nat) : Int)) rfl (fun c19 => ?_) (fun c19 => ?_)
    · obtain ⟨s, hs⟩ := get_some (l := ss) (k := j) (by omega)
      have hzs : zs[j]? = some s := by have := congrArg (·[0]?) hdj; simpa [hs] using this
      refine CX.rowSome 0 rfl (by simp; omega) (fun hA => ?_)
      refine CX.skip (XX.next (V' := [(0, .slice A ss.length cap), (1, .func (.func 21) #[] #[.pointer (some ⟨g, 0, none⟩)]), (5, .int .i64 ((i : Nat) : Int)), (6, .int .i64 ((j : Nat) : Int))]) ⟨rfl, rfl, rfl, rfl, trivial⟩ ?_)
      refine CX.seq ?_
      refine CX.block ?_
      refine CX.seq ?_
      refine CX.region ?_
      refine RX.cons rfl rfl (op_w (yw_move rfl rfl) rfl rfl ?_)
      refine RX.cons rfl rfl (op_w (yw_move rfl rfl) rfl rfl ?_)
      refine RX.cons rfl rfl (op_w (yw_index (k := j) rfl slt_23 rfl rfl (by omega) (by omega) hA) rfl rfl ?_)
      refine RX.cons rfl rfl (op_yld (y_rowElem (i := 0) rfl rfl agg_30 rfl (map_get hzs)) rfl rfl ?_)
      refine RX.cons rfl rfl (op_alloc rfl rfl rfl zero_30 fun g1 => ?_)
      refine RX.cons rfl rfl (op_storeAll (i := 0) rfl rfl rfl rfl szt_30 rfl (plain_of rfl) rfl rfl ?_)
      refine RX.nil (XX.next (V' := [(0, .slice A ss.length cap), (1, .func (.func 21) #[] #[.pointer (some ⟨g, 0, none⟩)]), (5, .int .i64 ((i : Nat) : Int)), (6, .int .i64 ((j : Nat) : Int)), (7, .pointer (some ⟨g1, 0, none⟩))]) ⟨rfl, rfl, rfl, rfl, rfl, trivial⟩ ?_)
      refine CX.seq ?_
      refine CX.region ?_
      refine RX.cons rfl rfl (op_w (yw_move rfl rfl) rfl rfl ?_)
      refine RX.cons rfl rfl (op_yld (y_loadA (i := 0) rfl rfl agg_30 rfl rfl) rfl rfl ?_)
      refine RX.cons rfl rfl (op_callV (v := .bool (decide (s.period ≠ p))) rfl rfl rfl rfl rfl ent_21 (fun w hw => w_period1 s p (hw.keepC hg hgO)) ?_)
      refine RX.cons rfl rfl (op_w (yw_notD rfl rfl) rfl rfl ?_)
      refine RX.nil (XX.next (V' := [(0, .slice A ss.length cap), (1, .func (.func 21) #[] #[.pointer (some ⟨g, 0, none⟩)]), (5, .int .i64 ((i : Nat) : Int)), (6, .int .i64 ((j : Nat) : Int)), (7, .pointer (some ⟨g1, 0, none⟩)), (29, .bool (decide (¬ (s.period ≠ p))))]) ⟨rfl, rfl, rfl, rfl, rfl, rfl, trivial⟩ ?_)
      refine CX.condD (p := ¬ (s.period ≠ p)) rfl (fun c29 => ?_) (fun c29 => ?_)
      · refine CX.seq ?_
        refine CX.region ?_
        refine RX.cons rfl rfl (op_w (yw_move rfl rfl) rfl rfl ?_)
        refine RX.cons rfl rfl (op_w (yw_move rfl rfl) rfl rfl ?_)
        refine RX.cons rfl rfl (op_yld (y_loadA (i := 0) rfl rfl agg_30 rfl rfl) rfl rfl ?_)
        refine RX.cons rfl rfl (op_w (yw_index (k := i) rfl slt_23 rfl rfl (by omega) (by omega) hA) rfl rfl ?_)
        refine RX.cons rfl rfl (op_storeElemE (i := 1) (k := i) (ys := List.map Strm.cells (zs.set i s)) rfl rfl rfl rfl szt_30 rfl (plain_of rfl) rfl (by simp; omega) (List.map_set).symm ?_)
        refine RX.nil (XX.next (V' := [(0, .slice A ss.length cap), (1, .func (.func 21) #[] #[.pointer (some ⟨g, 0, none⟩)]), (5, .int .i64 ((i : Nat) : Int)), (6, .int .i64 ((j : Nat) : Int))]) ⟨rfl, rfl, rfl, rfl, trivial⟩ ?_)
        refine CX.region ?_
        refine RX.cons rfl rfl (op_w (yw_move rfl rfl) rfl rfl ?_)
        refine RX.cons rfl rfl (op_w (yw_add rfl rfl rfl (by omega) (by omega)) rfl rfl ?_)
        refine RX.know (t := 35) (u := .int .i64 ((i + 1 : Nat) : Int)) rfl (congrArg (Value.int .i64) (by omega)) ?_
        refine RX.cons rfl rfl (op_w (yw_assign rfl rfl) rfl rfl ?_)
        refine RX.nil (XX.inBlock (V' := [(0, .slice A ss.length cap), (1, .func (.func 21) #[] #[.pointer (some ⟨g, 0, none⟩)]), (5, .int .i64 ((i + 1 : Nat) : Int)), (6, .int .i64 ((j : Nat) : Int))]) ⟨rfl, rfl, rfl, rfl, trivial⟩ ?_)
        refine XX.next (V' := [(0, .slice A ss.length cap), (1, .func (.func 21) #[] #[.pointer (some ⟨g, 0, none⟩)]), (5, .int .i64 ((i + 1 : Nat) : Int)), (6, .int .i64 ((j : Nat) : Int))]) ⟨rfl, rfl, rfl, rfl, trivial⟩ ?_
        refine CX.region ?_
        refine RX.cons rfl rfl (op_w (yw_move rfl rfl) rfl rfl ?_)
        refine RX.cons rfl rfl (op_w (yw_add rfl rfl rfl (by omega) (by omega)) rfl rfl ?_)
        refine RX.know (t := 21) (u := .int .i64 ((j + 1 : Nat) : Int)) rfl (congrArg (Value.int .i64) (by omega)) ?_
        refine RX.cons rfl rfl (op_w (yw_assign rfl rfl) rfl rfl ?_)
        refine RX.nil (XX.againP ([.blk g1 (.cells (Strm.cells s) 30 (0, 0))]) (i + 1, j + 1, zs.set i s) (by dsimp only; omega) ⟨by simp [hzl], by dsimp only; omega, by dsimp only; omega, del_yes hs hti (by omega) (by simpa [inPeriod] using c29), del_drop hdj (by omega)⟩ ⟨rfl, rfl, rfl, rfl, trivial⟩ ((perm_pick 1 rfl).trans (List.Perm.cons _ (List.Perm.refl _))))
      · refine CX.skip (XX.inBlock (V' := [(0, .slice A ss.length cap), (1, .func (.func 21) #[] #[.pointer (some ⟨g, 0, none⟩)]), (5, .int .i64 ((i : Nat) : Int)), (6, .int .i64 ((j : Nat) : Int))]) ⟨rfl, rfl, rfl, rfl, trivial⟩ ?_)
        refine XX.next (V' := [(0, .slice A ss.length cap), (1, .func (.func 21) #[] #[.pointer (some ⟨g, 0, none⟩)]), (5, .int .i64 ((i : Nat) : Int)), (6, .int .i64 ((j : Nat) : Int))]) ⟨rfl, rfl, rfl, rfl, trivial⟩ ?_
        refine CX.region ?_
        refine RX.cons rfl rfl (op_w (yw_move rfl rfl) rfl rfl ?_)
        refine RX.cons rfl rfl (op_w (yw_add rfl rfl rfl (by omega) (by omega)) rfl rfl ?_)
        refine RX.know (t := 21) (u := .int .i64 ((j + 1 : Nat) : Int)) rfl (congrArg (Value.int .i64) (by omega)) ?_
        refine RX.cons rfl rfl (op_w (yw_assign rfl rfl) rfl rfl ?_)
        refine RX.nil (XX.againP ([.blk g1 (.cells (Strm.cells s) 30 (0, 0))]) (i, j + 1, zs) (by dsimp only; omega) ⟨hzl, by dsimp only; omega, by dsimp only; omega, del_no hs hti (by simpa [inPeriod] using c29), by dsimp only; rw [← List.drop_drop, hdj, List.drop_drop]⟩ ⟨rfl, rfl, rfl, rfl, trivial⟩ ((perm_pick 1 rfl).trans (List.Perm.cons _ (List.Perm.refl _))))
    · obtain rfl : j = ss.length := by omega
      rw [List.take_length] at hti
      refine CX.exit ?_
      refine XX.then_exit ?_
      refine XX.then_exit ?_
      refine XX.block_exit ?_
      refine XX.next (V' := [(0, .slice A ss.length cap), (5, .int .i64 ((i : Nat) : Int))]) ⟨rfl, rfl, trivial⟩ ?_
      refine CX.seq ?_
      refine CX.region ?_
      refine RX.cons rfl rfl (op_w (yw_move rfl rfl) rfl rfl ?_)
      refine RX.cons rfl rfl (op_w (yw_move rfl rfl) rfl rfl ?_)
      refine RX.cons rfl rfl (op_w (yw_sliceFrom (k := i) rfl slt_23 rfl rfl (by omega) (by omega)) rfl rfl ?_)
      refine RX.cons rfl rfl (op_clearTail (i := 0) (k := i) rfl rfl slb_23 (plain_of rfl) rfl rfl (by simp; omega) (by omega) ?_)
      refine RX.nil (XX.next (V' := [(0, .slice A ss.length cap), (5, .int .i64 ((i : Nat) : Int))]) ⟨rfl, rfl, trivial⟩ ?_)
      refine CX.seq ?_
      refine CX.region ?_
      refine RX.cons rfl rfl (op_w (yw_move rfl rfl) rfl rfl ?_)
      refine RX.cons rfl rfl (op_w (yw_move rfl rfl) rfl rfl ?_)
      refine RX.cons rfl rfl (op_w (yw_sliceTo (k := i) rfl slt_23 rfl rfl (by omega) (by omega)) rfl rfl ?_)
      refine RX.cons rfl rfl (op_w (yw_assign rfl rfl) rfl rfl ?_)
      refine RX.nil (XX.next (V' := [(4, .slice A i cap)]) ⟨rfl, trivial⟩ ?_)
      refine CX.ret ?_
      exact ret_tmp rfl rfl fun w1 hw => by rw [← hti]; exact ⟨by rw [List.length_take, Nat.min_eq_left (by omega)], by rw [List.map_take]; exact hw⟩

set_option maxRecDepth 100000 in
theorem w_periodF {w : World} {A : Option Addr} {cap : Nat} (ss : List Strm) (p : Int) (hr : Rd w A 9 (ss.map Strm.cells)) (hn : ss.length ≤ 1000) :
    Calls Tryd.prog 10 #[.slice A ss.length cap, .int .i64 p] w (fun e w' => ∃ z : Option Addr × Nat, True ∧ e = .returned (.slice z.1 (ss.filter (inPeriod p)).length z.2) ∧ SL w [] w' [.row z.1 z.2 30 9 (List.map Strm.cells (ss.filter (inPeriod p)))]) := by
  refine calls_of_CX (O := []) (L := []) (args := [.slice A ss.length cap, .int .i64 p]) Tryd.func10 rfl (by simp [Tryd.ntmps10]) (SL.refl w) ?_
  refine CX.sub (V' := [(0, .slice A ss.length cap), (1, .int .i64 p)]) ⟨rfl, rfl, trivial⟩ ?_
  refine CX.seq ?_
  refine CX.region ?_
  refine RX.cons rfl rfl (op_box rfl rfl rfl rfl fun g3 => ?_)
  refine RX.cons rfl rfl (op_w (yw_assign rfl rfl) rfl rfl ?_)
  refine RX.nil (XX.next (V' := [(0, .slice A ss.length cap), (3, .pointer (some ⟨g3, 0, none⟩))]) ⟨rfl, rfl, trivial⟩ ?_)
  refine CX.seq ?_
  refine CX.region ?_
  refine RX.cons rfl rfl (op_w (yw_makeFunc rfl rfl rfl) rfl rfl ?_)
  refine RX.cons rfl rfl (op_w (yw_assign rfl rfl) rfl rfl ?_)
  refine RX.nil (XX.next (V' := [(0, .slice A ss.length cap), (5, .func (.func 21) #[] #[.pointer (some ⟨g3, 0, none⟩)])]) ⟨rfl, rfl, trivial⟩ ?_)
  refine CX.seq ?_
  refine CX.region ?_
  refine RX.cons rfl rfl (op_w (yw_move rfl rfl) rfl rfl ?_)
  refine RX.cons rfl rfl (op_callE rfl rfl rfl rfl rfl ent_23 (fun w hw => w_clone ss (hw.rd hr (by simp)) hn) (fun x23 _ => ?_))
  refine RX.cons rfl rfl (op_w (yw_move rfl rfl) rfl rfl ?_)
  refine RX.cons rfl rfl (op_callP [.row x23.1 x23.2 30 9 (List.map Strm.cells ss)] [.blk g3 (.cells (#[.int .i64 p]) 3 (0, 0))] rfl rfl rfl rfl rfl ent_22 ((perm_pick 0 rfl).trans (List.Perm.cons _ (List.Perm.refl _))) (σ := Unit) (val := fun _ => .slice x23.1 (ss.filter (inPeriod p)).length x23.2) (LL := fun _ => [.row x23.1 x23.2 30 9 (List.map Strm.cells (ss.filter (inPeriod p)))]) (post := fun _ => True) (fun w hw hs => (w_deleteFunc ss p hn (hw.cellOf (i := 1) rfl rfl) (hw.apart 0 rfl (by simp [Ent.blocks])) hs).mono fun e w' h => ⟨(), trivial, h⟩) (fun _ _ => ?_))
  refine RX.cons rfl rfl (op_w (yw_assign rfl rfl) rfl rfl ?_)
  refine RX.nil (XX.next (V' := [(4, .slice x23.1 ((ss.filter (inPeriod p)).length) x23.2)]) ⟨rfl, trivial⟩ ?_)
  refine CX.ret ?_
  exact ret_tmp rfl rfl fun w1 hw => ⟨(x23.1, x23.2), trivial, rfl, hw.pick ((perm_pick 0 rfl).trans (List.Perm.cons _ (List.Perm.refl _)))⟩

end Go.Proofs.YtmndhiaaolfepaaDoor
