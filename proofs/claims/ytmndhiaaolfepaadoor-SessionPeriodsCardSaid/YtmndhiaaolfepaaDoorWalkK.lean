/- Walks, printed by a program. -/
import Derived.Test.YtmndhiaaolfepaaDoorWalkJ
namespace Go.Proofs.YtmndhiaaolfepaaDoor
set_option linter.all false
open Go Go.RowKit
set_option maxRecDepth 100000
theorem ent_40 : ∀ args w, (callFunc 40 args).run Tryd.prog w = .ok (.enter 40 args) w := enters_of Tryd.func40 (by kernel_rfl) rfl
theorem ent_28 : ∀ args w, (callFunc 28 args).run Tryd.prog w = .ok (.enter 28 args) w := enters_of Tryd.func28 (by kernel_rfl) rfl
theorem slt_22 : SlT Tryd.prog 22 33 18 := ⟨(Tryd.prog.info? 33).get!, Tryd.underlying22, by kernel_rfl, by kernel_rfl⟩
theorem slb_49 : SlB Tryd.prog 49 54 18 152 (.agg (#[.int .i64 0, .int .i64 0, .int .i64 0, .int .i64 0, .int .i64 0, .int .i64 0, .int .i64 0, .int .i64 0, .int .i64 0, .int .i64 0, .int .i64 0, .int .i64 0, .int .i64 0, .int .i64 0, .int .i64 0, .int .i64 0, .int .i64 0, .string .empty])) := ⟨Tryd.underlying49, ⟨(Tryd.prog.info? 54).get!, by kernel_rfl, by kernel_rfl, by kernel_rfl, by kernel_rfl⟩, by decide, by decide⟩
theorem ent_34 : ∀ args w, (callFunc 34 args).run Tryd.prog w = .ok (.enter 34 args) w := enters_of Tryd.func34 (by kernel_rfl) rfl
set_option maxRecDepth 100000 in
theorem w_isPlay {w : World} (f : Fct) :
    Calls Tryd.prog 28 #[.agg (Fct.cells f)] w (fun e w' => e = .returned (.bool f.valid) ∧ SL w [] w' []) := by
  refine calls_of_CX (O := []) (L := []) (args := [.agg (Fct.cells f)]) Tryd.func28 rfl (by simp [Tryd.ntmps28]) (SL.refl w) ?_
  refine CX.sub (V' := [(0, .agg (Fct.cells f))]) ⟨rfl, trivial⟩ ?_
  refine CX.seq ?_
  refine CX.region ?_
  refine RX.cons rfl rfl (op_box rfl rfl rfl rfl fun g1 => ?_)
  refine RX.cons rfl rfl (op_w (yw_assign rfl rfl) rfl rfl ?_)
  refine RX.nil (XX.next (V' := [(1, .pointer (some ⟨g1, 0, none⟩))]) ⟨rfl, trivial⟩ ?_)
  refine CX.seq ?_
  refine CX.region ?_
  refine RX.cons rfl rfl (op_w (yw_field0 rfl fld_33_0 rfl) rfl rfl ?_)
  refine RX.cons rfl rfl (op_yld (y_load (i := 0) rfl rfl one_3 rfl rfl) rfl rfl ?_)
  refine RX.cons rfl rfl (op_w (yw_eql rfl rfl rfl) rfl rfl ?_)
  refine RX.cons rfl rfl (op_w (yw_move rfl rfl) rfl rfl ?_)
  refine RX.splitD (t := 6) (p := f.kind = 1) rfl (fun d6 => ?_) (fun d6 => ?_)
  · refine RX.consG rfl rfl rfl rfl rfl (op_yld (y_loadA (i := 0) rfl rfl agg_33 rfl rfl) rfl rfl ?_)
    refine RX.consG rfl rfl rfl rfl rfl (op_callV (v := .bool (Fct.valid f)) rfl rfl rfl rfl rfl ent_40 (fun w _ => w_valid f d6) ?_)
    refine RX.cons rfl rfl (op_w (yw_pickT rfl rfl rfl) rfl rfl ?_)
    refine RX.cons rfl rfl (op_w (yw_assign rfl rfl) rfl rfl ?_)
    refine RX.nil (XX.next (V' := [(2, .bool (Fct.valid f))]) ⟨rfl, trivial⟩ ?_)
    refine CX.ret ?_
    exact ret_tmp rfl rfl fun w1 hw => ⟨rfl, hw.sub (List.nil_sublist _)⟩
  · refine RX.skip rfl rfl rfl rfl rfl rfl rfl ?_
    refine RX.skip rfl rfl rfl rfl rfl rfl rfl ?_
    refine RX.cons rfl rfl (op_w (yw_pickF rfl rfl rfl) rfl rfl ?_)
    refine RX.cons rfl rfl (op_w (yw_assign rfl rfl) rfl rfl ?_)
    refine RX.nil (XX.next (V' := [(2, .bool false)]) ⟨rfl, trivial⟩ ?_)
    refine CX.ret ?_
    exact ret_tmp rfl rfl fun w1 hw => ⟨by rw [valid_kind d6], hw.sub (List.nil_sublist _)⟩

set_option maxRecDepth 100000 in
theorem w_counts {w : World} (f : Fct) :
    Calls Tryd.prog 18 #[.agg (Fct.cells f)] w (fun e w' => e = .returned (.bool f.counts) ∧ SL w [] w' []) := by
  refine calls_of_CX (O := []) (L := []) (args := [.agg (Fct.cells f)]) Tryd.func18 rfl (by simp [Tryd.ntmps18]) (SL.refl w) ?_
  refine CX.sub (V' := [(0, .agg (Fct.cells f))]) ⟨rfl, trivial⟩ ?_
  refine CX.seq ?_
  refine CX.region ?_
  refine RX.cons rfl rfl (op_box rfl rfl rfl rfl fun g1 => ?_)
  refine RX.cons rfl rfl (op_w (yw_assign rfl rfl) rfl rfl ?_)
  refine RX.nil (XX.next (V' := [(1, .pointer (some ⟨g1, 0, none⟩))]) ⟨rfl, trivial⟩ ?_)
  refine CX.seq ?_
  refine CX.region ?_
  refine RX.cons rfl rfl (op_yld (y_loadA (i := 0) rfl rfl agg_33 rfl rfl) rfl rfl ?_)
  refine RX.cons rfl rfl (op_callV (v := .bool (Fct.valid f)) rfl rfl rfl rfl rfl ent_28 (fun w _ => w_isPlay f) ?_)
  refine RX.cons rfl rfl (op_w (yw_move rfl rfl) rfl rfl ?_)
  refine RX.split (t := 5) (b := Fct.valid f) rfl (fun d5 => ?_) (fun d5 => ?_)
  · refine RX.consG rfl rfl rfl rfl rfl (op_yld (y_loadA (i := 0) rfl rfl agg_33 rfl rfl) rfl rfl ?_)
    refine RX.consG rfl rfl rfl rfl rfl (op_w (yw_build (v := .agg (Fct.cells f)) rfl rfl (fun _ => by kernel_rfl)) rfl rfl ?_)
    refine RX.consG rfl rfl rfl rfl rfl (op_callV (v := .bool (Fct.qual f)) rfl rfl rfl rfl rfl ent_29 (fun w _ => w_qualifies f) ?_)
    refine RX.cons rfl rfl (op_w (yw_pickT rfl rfl rfl) rfl rfl ?_)
    refine RX.cons rfl rfl (op_w (yw_assign rfl rfl) rfl rfl ?_)
    refine RX.nil (XX.next (V' := [(2, .bool (Fct.qual f))]) ⟨rfl, trivial⟩ ?_)
    refine CX.ret ?_
    exact ret_tmp rfl rfl fun w1 hw => ⟨by simp [Fct.counts, *], hw.sub (List.nil_sublist _)⟩
  · refine RX.skip rfl rfl rfl rfl rfl rfl rfl ?_
    refine RX.skip rfl rfl rfl rfl rfl rfl rfl ?_
    refine RX.skip rfl rfl rfl rfl rfl rfl rfl ?_
    refine RX.cons rfl rfl (op_w (yw_pickF rfl rfl rfl) rfl rfl ?_)
    refine RX.cons rfl rfl (op_w (yw_assign rfl rfl) rfl rfl ?_)
    refine RX.nil (XX.next (V' := [(2, .bool false)]) ⟨rfl, trivial⟩ ?_)
    refine CX.ret ?_
    exact ret_tmp rfl rfl fun w1 hw => ⟨by simp [Fct.counts, *], hw.sub (List.nil_sublist _)⟩

set_option maxRecDepth 100000 in
theorem w_ordered {w : World} {A : Option Addr} {cap : Nat} (fs : List Fct) (hr : Rd w A 18 (fs.map Fct.cells)) (hn : fs.length ≤ 1000) :
    Calls Tryd.prog 25 #[.slice A fs.length cap] w (fun e w' => ∃ x : Option Addr × Nat, True ∧ e = .returned (.slice x.1 (ordered fs).length x.2) ∧ SL w [] w' [PRow x.1 x.2 (ordered fs)]) := by
  refine calls_of_CX (O := []) (L := []) (args := [.slice A fs.length cap]) Tryd.func25 rfl (by simp [Tryd.ntmps25]) (SL.refl w) ?_
  refine CX.sub (V' := [(0, .slice A fs.length cap)]) ⟨rfl, trivial⟩ ?_
  refine CX.seq ?_
  refine CX.region ?_
  refine RX.cons rfl rfl (op_w (yw_assign rfl rfl) rfl rfl ?_)
  refine RX.nil (XX.next (V' := [(0, .slice A fs.length cap)]) ⟨rfl, trivial⟩ ?_)
  refine CX.seq ?_
  refine CX.region ?_
  refine RX.cons rfl rfl (op_w (yw_assign rfl rfl) rfl rfl ?_)
  refine RX.nil (XX.next (V' := [(0, .slice A fs.length cap), (3, .slice none 0 0)]) ⟨rfl, rfl, trivial⟩ ?_)
  refine CX.seq ?_
  refine CX.seq ?_
  refine CX.region ?_
  refine RX.cons rfl rfl (op_w (yw_move rfl rfl) rfl rfl ?_)
  refine RX.cons rfl rfl (op_w (yw_lenS rfl Tryd.underlying22 rfl) rfl rfl ?_)
  refine RX.cons rfl rfl (op_w (yw_move rfl rfl) rfl rfl ?_)
  refine RX.nil (XX.next (V' := [(3, .slice none 0 0), (6, .slice A fs.length cap), (7, .int .i64 ((fs.length : Nat) : Int)), (8, .int .i64 0)]) ⟨rfl, rfl, rfl, rfl, trivial⟩ ?_)
  refine CX.block ?_
  refine CX.rowNil 54 18 ?_
  refine CX.loop (σ := Nat × Option Addr × Nat × List Fct) (fun z => [(3, .slice z.2.1 z.2.2.2.length z.2.2.1), (6, .slice A fs.length cap), (7, .int .i64 ((fs.length : Nat) : Int)), (8, .int .i64 ((z.1 : Nat) : Int))]) (fun z => [.row z.2.1 z.2.2.1 54 18 (List.map Fct.cells z.2.2.2)]) (fun z => z.1 ≤ fs.length ∧ z.2.2.2 = (fs.take z.1).filter Fct.valid) (fun z => fs.length - z.1) (0, none, 0, []) ⟨Nat.zero_le _, by simp⟩ ⟨rfl, rfl, rfl, rfl, trivial⟩ rfl (fun z hI => ?_)
  obtain ⟨i, B, c, ys⟩ := z
  dsimp only at hI ⊢
  obtain ⟨hi, hys⟩ := hI
  have hyl : ys.length ≤ i := by rw [hys]; exact Nat.le_trans (List.length_filter_le _ _) (by simp; omega)
  refine CX.seq ?_
  refine CX.region ?_
  refine RX.cons rfl rfl (op_w (yw_lss rfl rfl rfl) rfl rfl ?_)
  refine RX.nil (XX.next (V' := [(3, .slice B ys.length c), (6, .slice A fs.length cap), (7, .int .i64 ((fs.length : Nat) : Int)), (8, .int .i64 ((i : Nat) : Int)), (9, .bool (decide (((i : Nat) : Int) < ((fs.length : Nat) : Int))))]) ⟨rfl, rfl, rfl, rfl, rfl, trivial⟩ ?_)
  refine CX.seq ?_
  refine CX.condD (p := ((i : Nat) : Int) < ((fs.length : Nat) : Int)) rfl (fun c9 => ?_) (fun c9 => ?_)
  · obtain ⟨f, hf⟩ := get_some (l := fs) (k := i) (by omega)
    refine CX.skip (XX.next (V' := [(3, .slice B ys.length c), (6, .slice A fs.length cap), (7, .int .i64 ((fs.length : Nat) : Int)), (8, .int .i64 ((i : Nat) : Int))]) ⟨rfl, rfl, rfl, rfl, trivial⟩ ?_)
    refine CX.seq ?_
    refine CX.block ?_
    refine CX.seq ?_
    refine CX.region ?_
    refine RX.cons rfl rfl (op_w (yw_index (k := i) rfl slt_22 rfl rfl (by omega) (by omega) (hr.some (k := i) (by simp; omega))) rfl rfl ?_)
    refine RX.cons rfl rfl (op_yld (y_elem rfl rfl agg_33 hr (by simp) (map_get hf)) rfl rfl ?_)
    refine RX.cons rfl rfl (op_alloc rfl rfl rfl zero_33 fun g1 => ?_)
    refine RX.cons rfl rfl (op_storeAll (i := 0) rfl rfl rfl rfl szt_33 rfl (plain_of rfl) rfl rfl ?_)
    refine RX.nil (XX.next (V' := [(3, .slice B ys.length c), (5, .pointer (some ⟨g1, 0, none⟩)), (6, .slice A fs.length cap), (7, .int .i64 ((fs.length : Nat) : Int)), (8, .int .i64 ((i : Nat) : Int))]) ⟨rfl, rfl, rfl, rfl, rfl, trivial⟩ ?_)
    refine CX.seq ?_
    refine CX.region ?_
    refine RX.cons rfl rfl (op_yld (y_loadA (i := 0) rfl rfl agg_33 rfl rfl) rfl rfl ?_)
    refine RX.cons rfl rfl (op_callV (v := .bool (Fct.valid f)) rfl rfl rfl rfl rfl ent_28 (fun w _ => w_isPlay f) ?_)
    refine RX.nil (XX.next (V' := [(3, .slice B ys.length c), (5, .pointer (some ⟨g1, 0, none⟩)), (6, .slice A fs.length cap), (7, .int .i64 ((fs.length : Nat) : Int)), (8, .int .i64 ((i : Nat) : Int)), (13, .bool (Fct.valid f))]) ⟨rfl, rfl, rfl, rfl, rfl, rfl, trivial⟩ ?_)
    refine CX.cond (b := Fct.valid f) rfl (fun c13 => ?_) (fun c13 => ?_)
    · refine CX.region ?_
      refine RX.cons rfl rfl (op_w (yw_move rfl rfl) rfl rfl ?_)
      refine RX.cons rfl rfl (op_yld (y_loadA (i := 0) rfl rfl agg_33 rfl rfl) rfl rfl ?_)
      refine RX.cons rfl rfl (op_w (yw_build (v := .agg (Fct.cells f)) rfl rfl (fun _ => by kernel_rfl)) rfl rfl ?_)
      refine RX.cons rfl rfl (op_buildSlice rfl rfl rfl slb_49 rfl rfl (by intro v hv; simp only [List.mem_cons, List.not_mem_nil, or_false] at hv; subst hv; exact ⟨rfl, (plain_of rfl)⟩) (by decide) fun g2 => ?_)
      refine RX.cons rfl rfl (op_appendM Fct.cells (i := 2) (j := 0) (xs := ys) ([f]) rfl rfl rfl slb_49 rfl rfl rfl rfl rfl rfl (by simp; omega) (by simp; omega) fun A' c' => ?_)
      refine RX.cons rfl rfl (op_w (yw_assign rfl rfl) rfl rfl ?_)
      refine RX.nil (XX.inBlock (V' := [(3, .slice A' ((ys ++ [f]).length) c'), (6, .slice A fs.length cap), (7, .int .i64 ((fs.length : Nat) : Int)), (8, .int .i64 ((i : Nat) : Int))]) ⟨rfl, rfl, rfl, rfl, trivial⟩ ?_)
      refine XX.next (V' := [(3, .slice A' ((ys ++ [f]).length) c'), (6, .slice A fs.length cap), (7, .int .i64 ((fs.length : Nat) : Int)), (8, .int .i64 ((i : Nat) : Int))]) ⟨rfl, rfl, rfl, rfl, trivial⟩ ?_
      refine CX.region ?_
      refine RX.cons rfl rfl (op_w (yw_add rfl rfl rfl (by omega) (by omega)) rfl rfl ?_)
      refine RX.cons rfl rfl (op_w (yw_move rfl rfl) rfl rfl ?_)
      refine RX.nil (XX.againP ([.row (some ⟨g2, 0, none⟩) 1 54 18 (List.map Value.cells [.agg (Fct.cells f)]), .blk g1 (.cells (Fct.cells f) 33 (0, 0))]) (i + 1, A', c', ys ++ [f]) (by dsimp only; omega) ⟨by dsimp only; omega, by dsimp only; rw [take_succ hf, List.filter_append, ← hys]; simp [c13]⟩ ⟨rfl, rfl, rfl, rfl, trivial⟩ ((perm_pick 2 rfl).trans (List.Perm.cons _ (List.Perm.refl _))))
    · refine CX.skip (XX.inBlock (V' := [(3, .slice B ys.length c), (6, .slice A fs.length cap), (7, .int .i64 ((fs.length : Nat) : Int)), (8, .int .i64 ((i : Nat) : Int))]) ⟨rfl, rfl, rfl, rfl, trivial⟩ ?_)
      refine XX.next (V' := [(3, .slice B ys.length c), (6, .slice A fs.length cap), (7, .int .i64 ((fs.length : Nat) : Int)), (8, .int .i64 ((i : Nat) : Int))]) ⟨rfl, rfl, rfl, rfl, trivial⟩ ?_
      refine CX.region ?_
      refine RX.cons rfl rfl (op_w (yw_add rfl rfl rfl (by omega) (by omega)) rfl rfl ?_)
      refine RX.cons rfl rfl (op_w (yw_move rfl rfl) rfl rfl ?_)
      refine RX.nil (XX.againP ([.blk g1 (.cells (Fct.cells f) 33 (0, 0))]) (i + 1, B, c, ys) (by dsimp only; omega) ⟨by dsimp only; omega, by dsimp only; rw [take_succ hf, List.filter_append, ← hys]; simp [c13]⟩ ⟨rfl, rfl, rfl, rfl, trivial⟩ ((perm_pick 1 rfl).trans (List.Perm.cons _ (List.Perm.refl _))))
  · obtain rfl : i = fs.length := by omega
    rw [List.take_length] at hys
    refine CX.exit ?_
    refine XX.then_exit ?_
    refine XX.then_exit ?_
    refine XX.block_exit ?_
    refine XX.next (V' := [(3, .slice B ys.length c)]) ⟨rfl, trivial⟩ ?_
    refine CX.seq ?_
    refine CX.region ?_
    refine RX.cons rfl rfl (op_w (yw_move rfl rfl) rfl rfl ?_)
    refine RX.cons rfl rfl (op_callP [.row B c 54 18 (List.map Fct.cells ys)] [] rfl rfl rfl rfl rfl ent_34 ((perm_pick 0 rfl).trans (List.Perm.cons _ (List.Perm.refl _))) (σ := Unit) (val := fun _ => .tuple #[]) (LL := fun _ => [.row B c 54 18 (List.map Fct.cells (Srt.isort before ys))]) (post := fun _ => True) (fun w hw hs => (w_sortStable ys rfl (fun h => Ent.some (hs.ents _ List.mem_cons_self) (by simpa using h)) (by omega) hs).mono fun e w' h => ⟨(), trivial, h⟩) (fun _ _ => ?_))
    refine RX.nil (XX.next (V' := [(3, .slice B ys.length c)]) ⟨rfl, trivial⟩ ?_)
    refine CX.seq ?_
    refine CX.region ?_
    refine RX.cons rfl rfl (op_w (yw_move rfl rfl) rfl rfl ?_)
    refine RX.cons rfl rfl (op_w (yw_assign rfl rfl) rfl rfl ?_)
    refine RX.nil (XX.next (V' := [(2, .slice B ys.length c)]) ⟨rfl, trivial⟩ ?_)
    refine CX.ret ?_
    exact ret_tmp rfl rfl fun w1 hw => ⟨(B, c), trivial, by rw [ordered, ← hys, Srt.isort_length], by rw [ordered, ← hys]; exact hw⟩

end Go.Proofs.YtmndhiaaolfepaaDoor
