/- Walks, printed by a program. -/
import Derived.Test.YtmndhiaaolfepaaDoorWalkM
import Derived.Test.YtmndhiaaolfepaaDoorDefs3
namespace Go.Proofs.YtmndhiaaolfepaaDoor
set_option linter.all false
open Go Go.RowKit
set_option maxRecDepth 100000
theorem slt_23 : SlT Tryd.prog 23 30 9 := ⟨(Tryd.prog.info? 30).get!, Tryd.underlying23, by kernel_rfl, by kernel_rfl⟩
theorem eqg_30 : Tryd.prog.eqGuardType Tryd.prog.depth 30 = false := by kernel_rfl
theorem szt_9 : SzT Tryd.prog 9 1 := ⟨(Tryd.prog.info? 9).get!, by kernel_rfl, by kernel_rfl⟩
theorem slb_22 : SlB Tryd.prog 22 33 18 152 (.agg (#[.int .i64 0, .int .i64 0, .int .i64 0, .int .i64 0, .int .i64 0, .int .i64 0, .int .i64 0, .int .i64 0, .int .i64 0, .int .i64 0, .int .i64 0, .int .i64 0, .int .i64 0, .int .i64 0, .int .i64 0, .int .i64 0, .int .i64 0, .string .empty])) := ⟨Tryd.underlying22, ⟨(Tryd.prog.info? 33).get!, by kernel_rfl, by kernel_rfl, by kernel_rfl, by kernel_rfl⟩, by decide, by decide⟩
set_option maxRecDepth 100000 in
theorem w_same {w : World} {A B : Option Addr} {ca cb : Nat} (us vs : List Strm) (hr : Rd w A 9 (us.map Strm.cells)) (hr' : Rd w B 9 (vs.map Strm.cells)) (hn : us.length ≤ 100000) :
    Calls Tryd.prog 9 #[.slice A us.length ca, .slice B vs.length cb] w (fun e w' => e = .returned (.bool (decide (us = vs))) ∧ SL w [] w' []) := by
  refine calls_of_CX (O := []) (L := []) (args := [.slice A us.length ca, .slice B vs.length cb]) Tryd.func9 rfl (by simp [Tryd.ntmps9]) (SL.refl w) ?_
  refine CX.sub (V' := [(0, .slice A us.length ca), (1, .slice B vs.length cb)]) ⟨rfl, rfl, trivial⟩ ?_
  refine CX.seq ?_
  refine CX.region ?_
  refine RX.cons rfl rfl (op_w (yw_assign rfl rfl) rfl rfl ?_)
  refine RX.nil (XX.next (V' := [(0, .slice A us.length ca), (1, .slice B vs.length cb)]) ⟨rfl, rfl, trivial⟩ ?_)
  refine CX.seq ?_
  refine CX.seq ?_
  refine CX.region ?_
  refine RX.cons rfl rfl (op_w (yw_move rfl rfl) rfl rfl ?_)
  refine RX.cons rfl rfl (op_w (yw_lenS rfl Tryd.underlying23 rfl) rfl rfl ?_)
  refine RX.cons rfl rfl (op_w (yw_move rfl rfl) rfl rfl ?_)
  refine RX.cons rfl rfl (op_w (yw_lenS rfl Tryd.underlying23 rfl) rfl rfl ?_)
  refine RX.cons rfl rfl (op_w (yw_neq rfl rfl rfl) rfl rfl ?_)
  refine RX.nil (XX.next (V' := [(0, .slice A us.length ca), (1, .slice B vs.length cb), (10, .bool (decide (((us.length : Nat) : Int) ≠ ((vs.length : Nat) : Int))))]) ⟨rfl, rfl, rfl, trivial⟩ ?_)
  refine CX.condD (p := ((us.length : Nat) : Int) ≠ ((vs.length : Nat) : Int)) rfl (fun c10 => ?_) (fun c10 => ?_)
  · refine CX.seq ?_
    refine CX.region ?_
    refine RX.cons rfl rfl (op_w (yw_assign rfl rfl) rfl rfl ?_)
    refine RX.nil (XX.next (V' := [(4, .bool false)]) ⟨rfl, trivial⟩ ?_)
    refine CX.ret ?_
    refine XX.then_ret ?_
    exact ret_tmp rfl rfl fun w1 hw => ⟨by rw [decide_eq_false (fun e => c10 (by rw [e]))], hw.sub (List.nil_sublist _)⟩
  · refine CX.skip (XX.next (V' := [(0, .slice A us.length ca), (1, .slice B vs.length cb)]) ⟨rfl, rfl, trivial⟩ ?_)
    refine CX.seq ?_
    refine CX.seq ?_
    refine CX.region ?_
    refine RX.cons rfl rfl (op_w (yw_assign rfl rfl) rfl rfl ?_)
    refine RX.nil (XX.next (V' := [(0, .slice A us.length ca), (1, .slice B vs.length cb), (5, .int .i64 0)]) ⟨rfl, rfl, rfl, trivial⟩ ?_)
    refine CX.block ?_
    refine CX.loop (σ := Nat) (fun i => [(0, .slice A us.length ca), (1, .slice B vs.length cb), (5, .int .i64 ((i : Nat) : Int))]) (fun i => []) (fun i => i ≤ us.length ∧ us.take i = vs.take i) (fun i => us.length - i) 0 ⟨Nat.zero_le _, by simp⟩ ⟨rfl, rfl, rfl, trivial⟩ rfl (fun i hI => ?_)
    obtain ⟨hi, hf⟩ := hI
    refine CX.seq ?_
    refine CX.seq ?_
    refine CX.region ?_
    refine RX.cons rfl rfl (op_w (yw_move rfl rfl) rfl rfl ?_)
    refine RX.cons rfl rfl (op_w (yw_move rfl rfl) rfl rfl ?_)
    refine RX.cons rfl rfl (op_w (yw_lenS rfl Tryd.underlying23 rfl) rfl rfl ?_)
    refine RX.cons rfl rfl (op_w (yw_lss rfl rfl rfl) rfl rfl ?_)
    refine RX.nil (XX.next (V' := [(0, .slice A us.length ca), (1, .slice B vs.length cb), (5, .int .i64 ((i : Nat) : Int)), (14, .bool (decide (((i : Nat) : Int) < ((us.length : Nat) : Int))))]) ⟨rfl, rfl, rfl, rfl, trivial⟩ ?_)
    refine CX.condD (p := ((i : Nat) : Int) < ((us.length : Nat) : Int)) rfl (fun c14 => ?_) (fun c14 => ?_)
    · obtain ⟨x, ha⟩ := get_some (l := us) (k := i) (by omega)
      obtain ⟨y, hb⟩ := get_some (l := vs) (k := i) (by omega)
      refine CX.skip (XX.next (V' := [(0, .slice A us.length ca), (1, .slice B vs.length cb), (5, .int .i64 ((i : Nat) : Int))]) ⟨rfl, rfl, rfl, trivial⟩ ?_)
      refine CX.seq ?_
      refine CX.block ?_
      refine CX.seq ?_
      refine CX.draw 9 (by kernel_rfl) ?_
      refine DX.takeW 0 1 (by kernel_rfl) rfl rfl rfl rfl rfl (yw_move rfl rfl) ?_
      refine DX.takeW 1 3 (by kernel_rfl) rfl rfl rfl rfl rfl (yw_move rfl rfl) ?_
      refine DX.takeW 2 7 (by kernel_rfl) rfl rfl rfl rfl rfl (yw_index (k := i) rfl slt_23 rfl rfl (by omega) (by omega) (hr.some (k := i) (by simp; omega))) ?_
      refine DX.take 3 15 (by kernel_rfl) rfl rfl rfl rfl rfl (List.nil_sublist _) (y_elem rfl rfl agg_30 hr (by simp) (map_get ha)) ?_
      refine DX.takeW 4 31 (by kernel_rfl) rfl rfl rfl rfl rfl (yw_move rfl rfl) ?_
      refine DX.takeW 5 63 (by kernel_rfl) rfl rfl rfl rfl rfl (yw_move rfl rfl) ?_
      refine DX.takeW 6 127 (by kernel_rfl) rfl rfl rfl rfl rfl (yw_index (k := i) rfl slt_23 rfl rfl (by omega) (by omega) (hr'.some (k := i) (by simp; omega))) ?_
      refine DX.take 7 255 (by kernel_rfl) rfl rfl rfl rfl rfl (List.nil_sublist _) (y_elem rfl rfl agg_30 hr' (by simp) (map_get hb)) ?_
      refine DX.takeW 8 511 (by kernel_rfl) rfl rfl rfl rfl rfl (yw_neqAgg (b := Strm.same x y) rfl rfl rfl eqg_30 (fun w => eq_strm x y w)) ?_
      refine DX.done (by kernel_rfl) (XX.next (V' := [(0, .slice A us.length ca), (1, .slice B vs.length cb), (5, .int .i64 ((i : Nat) : Int)), (25, .bool (!(Strm.same x y)))]) ⟨rfl, rfl, rfl, rfl, trivial⟩ ?_)
      refine CX.cond (b := !(Strm.same x y)) rfl (fun c25 => ?_) (fun c25 => ?_)
      · refine CX.seq ?_
        refine CX.region ?_
        refine RX.cons rfl rfl (op_w (yw_assign rfl rfl) rfl rfl ?_)
        refine RX.nil (XX.next (V' := [(4, .bool false)]) ⟨rfl, trivial⟩ ?_)
        refine CX.ret ?_
        refine XX.block_ret ?_
        refine XX.then_ret ?_
        refine XX.then_ret ?_
        refine XX.block_ret ?_
        refine XX.then_ret ?_
        exact ret_tmp rfl rfl fun w1 hw => ⟨by rw [decide_eq_false (differ_at ha hb (fun e => by rw [(Strm.same_iff x y).2 e] at c25; simp at c25))], hw.sub (List.nil_sublist _)⟩
      · refine CX.skip (XX.inBlock (V' := [(0, .slice A us.length ca), (1, .slice B vs.length cb), (5, .int .i64 ((i : Nat) : Int))]) ⟨rfl, rfl, rfl, trivial⟩ ?_)
        refine XX.next (V' := [(0, .slice A us.length ca), (1, .slice B vs.length cb), (5, .int .i64 ((i : Nat) : Int))]) ⟨rfl, rfl, rfl, trivial⟩ ?_
        refine CX.region ?_
        refine RX.cons rfl rfl (op_w (yw_move rfl rfl) rfl rfl ?_)
        refine RX.cons rfl rfl (op_w (yw_add rfl rfl rfl (by omega) (by omega)) rfl rfl ?_)
        refine RX.cons rfl rfl (op_w (yw_assign rfl rfl) rfl rfl ?_)
        refine RX.nil (XX.againP ([]) (i + 1) (by omega) ⟨by omega, same_upto hf ha hb ((Strm.same_iff x y).1 (by simpa using c25))⟩ ⟨rfl, rfl, rfl, trivial⟩ (List.Perm.refl _))
    · refine CX.exit ?_
      refine XX.then_exit ?_
      refine XX.then_exit ?_
      refine XX.block_exit ?_
      refine XX.next (V' := []) trivial ?_
      refine CX.seq ?_
      refine CX.region ?_
      refine RX.cons rfl rfl (op_w (yw_assign rfl rfl) rfl rfl ?_)
      refine RX.nil (XX.next (V' := [(4, .bool true)]) ⟨rfl, trivial⟩ ?_)
      refine CX.ret ?_
      exact ret_tmp rfl rfl fun w1 hw => ⟨by rw [decide_eq_true (by rwa [List.take_of_length_le (by omega), List.take_of_length_le (by omega)] at hf)], hw.sub (List.nil_sublist _)⟩

set_option maxRecDepth 100000 in
theorem w_few {w : World} {A : Option Addr} {cap : Nat} (fs : List Fct) (hr : Rd w A 18 (fs.map Fct.cells)) (hn : fs.length ≤ 9223372036854775807) (hx : ∀ f ∈ fs, f.text.size ≤ 9223372036854775807) :
    Calls Tryd.prog 13 #[.slice A fs.length cap] w (fun e w' => ∃ z : Option Addr × Nat, True ∧ e = .returned (.slice z.1 (fewF fs).length z.2) ∧ SL w [] w' [.row z.1 z.2 33 18 (List.map Fct.cells (fewF fs))]) := by
  refine calls_of_CX (O := []) (L := []) (args := [.slice A fs.length cap]) Tryd.func13 rfl (by simp [Tryd.ntmps13]) (SL.refl w) ?_
  refine CX.sub (V' := [(0, .slice A fs.length cap)]) ⟨rfl, trivial⟩ ?_
  refine CX.seq ?_
  refine CX.region ?_
  refine RX.cons rfl rfl (op_w (yw_assign rfl rfl) rfl rfl ?_)
  refine RX.nil (XX.next (V' := [(0, .slice A fs.length cap)]) ⟨rfl, trivial⟩ ?_)
  refine CX.seq ?_
  refine CX.region ?_
  refine RX.cons rfl rfl (op_w (yw_assign rfl rfl) rfl rfl ?_)
  refine RX.nil (XX.next (V' := [(0, .slice A fs.length cap), (3, .slice none 0 0)]) ⟨rfl, rfl, trivial⟩ ?_)
  refine CX.seq ?_
  refine CX.seq ?_
  refine CX.region ?_
  refine RX.cons rfl rfl (op_w (yw_assign rfl rfl) rfl rfl ?_)
  refine RX.nil (XX.next (V' := [(0, .slice A fs.length cap), (3, .slice none 0 0), (4, .int .i64 0)]) ⟨rfl, rfl, rfl, trivial⟩ ?_)
  refine CX.block ?_
  refine CX.rowNil 33 18 ?_
  refine CX.loop (σ := Nat × Option Addr × Nat × List Fct) (fun z => [(0, .slice A fs.length cap), (3, .slice z.2.1 z.2.2.2.length z.2.2.1), (4, .int .i64 ((z.1 : Nat) : Int))]) (fun z => [.row z.2.1 z.2.2.1 33 18 (List.map Fct.cells z.2.2.2)]) (fun z => z.1 ≤ fs.length ∧ z.1 ≤ 60 ∧ z.2.2.2 = (fs.take z.1).map cutF) (fun z => 60 - z.1) (0, none, 0, []) ⟨Nat.zero_le _, Nat.zero_le _, rfl⟩ ⟨rfl, rfl, rfl, trivial⟩ rfl (fun z hI => ?_)
  obtain ⟨i, B, c, ys⟩ := z
  dsimp only at hI ⊢
  obtain ⟨hi, hi60, hys⟩ := hI
  have hyl : ys.length ≤ i := by rw [hys]; simp; omega
  refine CX.seq ?_
  refine CX.seq ?_
  refine CX.region ?_
  refine RX.cons rfl rfl (op_w (yw_move rfl rfl) rfl rfl ?_)
  refine RX.cons rfl rfl (op_w (yw_move rfl rfl) rfl rfl ?_)
  refine RX.cons rfl rfl (op_w (yw_lenS rfl Tryd.underlying22 rfl) rfl rfl ?_)
  refine RX.cons rfl rfl (op_w (yw_lss rfl rfl rfl) rfl rfl ?_)
  refine RX.cons rfl rfl (op_w (yw_move rfl rfl) rfl rfl ?_)
  refine RX.splitD (t := 10) (p := ((i : Nat) : Int) < ((fs.length : Nat) : Int)) rfl (fun d10 => ?_) (fun d10 => ?_)
  · refine RX.consG rfl rfl rfl rfl rfl (op_w (yw_move rfl rfl) rfl rfl ?_)
    refine RX.consG rfl rfl rfl rfl rfl (op_w (yw_lss rfl rfl rfl) rfl rfl ?_)
    refine RX.cons rfl rfl (op_w (yw_pickT rfl rfl rfl) rfl rfl ?_)
    refine RX.nil (XX.next (V' := [(0, .slice A fs.length cap), (3, .slice B ys.length c), (4, .int .i64 ((i : Nat) : Int)), (13, .bool (decide (((i : Nat) : Int) < 60)))]) ⟨rfl, rfl, rfl, rfl, trivial⟩ ?_)
    refine CX.condD (p := ((i : Nat) : Int) < 60) rfl (fun c13 => ?_) (fun c13 => ?_)
    · obtain ⟨f, hf⟩ := get_some (l := fs) (k := i) (by omega)
      have hfx := hx f (List.mem_of_getElem? hf)
      refine CX.skip (XX.next (V' := [(0, .slice A fs.length cap), (3, .slice B ys.length c), (4, .int .i64 ((i : Nat) : Int))]) ⟨rfl, rfl, rfl, trivial⟩ ?_)
      refine CX.seq ?_
      refine CX.block ?_
      refine CX.seq ?_
      refine CX.region ?_
      refine RX.cons rfl rfl (op_w (yw_move rfl rfl) rfl rfl ?_)
      refine RX.cons rfl rfl (op_w (yw_move rfl rfl) rfl rfl ?_)
      refine RX.cons rfl rfl (op_w (yw_index (k := i) rfl slt_22 rfl rfl (by omega) (by omega) (hr.some (k := i) (by simp; omega))) rfl rfl ?_)
      refine RX.cons rfl rfl (op_yld (y_elem rfl rfl agg_33 hr (by simp) (map_get hf)) rfl rfl ?_)
      refine RX.cons rfl rfl (op_alloc rfl rfl rfl zero_33 fun g5 => ?_)
      refine RX.cons rfl rfl (op_storeAll (i := 0) rfl rfl rfl rfl szt_33 rfl (plain_of rfl) rfl rfl ?_)
      refine RX.nil (XX.next (V' := [(0, .slice A fs.length cap), (3, .slice B ys.length c), (4, .int .i64 ((i : Nat) : Int)), (5, .pointer (some ⟨g5, 0, none⟩))]) ⟨rfl, rfl, rfl, rfl, trivial⟩ ?_)
      refine CX.seq ?_
      refine CX.region ?_
      refine RX.cons rfl rfl (op_w (yw_fieldAddr rfl fld_33_17 rfl) rfl rfl ?_)
      refine RX.cons rfl rfl (op_yld (y_load (i := 0) rfl rfl one_9 rfl rfl) rfl rfl ?_)
      refine RX.cons rfl rfl (op_w (yw_fieldAddr rfl fld_33_17 rfl) rfl rfl ?_)
      refine RX.cons rfl rfl (op_yld (y_load (i := 0) rfl rfl one_9 rfl rfl) rfl rfl ?_)
      refine RX.cons rfl rfl (op_w (yw_lenStr rfl Tryd.underlying9 rfl) rfl rfl ?_)
      refine RX.cons rfl rfl (op_w (yw_min rfl rfl rfl) rfl rfl ?_)
      refine RX.know (t := 25) (u := .int .i64 (((min f.text.size 2010) : Nat) : Int)) rfl (congrArg (Value.int .i64) (by omega)) ?_
      refine RX.cons rfl rfl (op_w (yw_strTo (k := (min f.text.size 2010)) rfl Tryd.underlying9 rfl rfl (by omega) (by omega)) rfl rfl ?_)
      refine RX.cons rfl rfl (op_w (yw_fieldAddr rfl fld_33_17 rfl) rfl rfl ?_)
      refine RX.cons rfl rfl (op_store1 (i := 0) (cs' := #[.int .i64 f.kind, .int .i64 f.id, .int .i64 f.version, .int .i64 f.period, .int .i64 f.second, .int .i64 f.account, .int .i64 f.device, .int .i64 f.recording, .int .i64 f.territory, .int .i64 f.holder, .int .i64 f.role, .int .i64 f.since, .int .i64 f.till, .int .i64 f.amount, .int .i64 f.share, .int .i64 f.currency, .int .i64 f.mark, .string (ByteArray.extract f.text 0 (min f.text.size 2010))]) rfl rfl rfl rfl szt_9 rfl rfl rfl rfl ?_)
      refine RX.know1 0 (q := .blk g5 (.cells (Fct.cells (cutF f)) 33 (0, 0))) rfl rfl ?_
      refine RX.nil (XX.next (V' := [(0, .slice A fs.length cap), (3, .slice B ys.length c), (4, .int .i64 ((i : Nat) : Int)), (5, .pointer (some ⟨g5, 0, none⟩))]) ⟨rfl, rfl, rfl, rfl, trivial⟩ ?_)
      refine CX.region ?_
      refine RX.cons rfl rfl (op_w (yw_move rfl rfl) rfl rfl ?_)
      refine RX.cons rfl rfl (op_yld (y_loadA (i := 0) rfl rfl agg_33 rfl rfl) rfl rfl ?_)
      refine RX.cons rfl rfl (op_buildSlice rfl rfl rfl slb_22 rfl rfl (by intro v hv; simp only [List.mem_cons, List.not_mem_nil, or_false] at hv; subst hv; exact ⟨rfl, (plain_of rfl)⟩) (by decide) fun g1 => ?_)
      refine RX.cons rfl rfl (op_appendM Fct.cells (i := 2) (j := 0) (xs := ys) ([(cutF f)]) rfl rfl rfl slb_22 rfl rfl rfl rfl rfl rfl (by simp; omega) (by simp; omega) fun A' c' => ?_)
      refine RX.cons rfl rfl (op_w (yw_assign rfl rfl) rfl rfl ?_)
      refine RX.nil (XX.inBlock (V' := [(0, .slice A fs.length cap), (3, .slice A' ((ys ++ [(cutF f)]).length) c'), (4, .int .i64 ((i : Nat) : Int))]) ⟨rfl, rfl, rfl, trivial⟩ ?_)
      refine XX.next (V' := [(0, .slice A fs.length cap), (3, .slice A' ((ys ++ [(cutF f)]).length) c'), (4, .int .i64 ((i : Nat) : Int))]) ⟨rfl, rfl, rfl, trivial⟩ ?_
      refine CX.region ?_
      refine RX.cons rfl rfl (op_w (yw_move rfl rfl) rfl rfl ?_)
      refine RX.cons rfl rfl (op_w (yw_add rfl rfl rfl (by omega) (by omega)) rfl rfl ?_)
      refine RX.cons rfl rfl (op_w (yw_assign rfl rfl) rfl rfl ?_)
      refine RX.nil (XX.againP ([.row (some ⟨g1, 0, none⟩) 1 33 18 (List.map Value.cells [.agg (Fct.cells (cutF f))]), .blk g5 (.cells (Fct.cells (cutF f)) 33 (0, 0))]) (i + 1, A', c', ys ++ [cutF f]) (by dsimp only; omega) ⟨by dsimp only; omega, by dsimp only; omega, by dsimp only; rw [take_succ hf, List.map_append, ← hys]; rfl⟩ ⟨rfl, rfl, rfl, trivial⟩ ((perm_pick 2 rfl).trans (List.Perm.cons _ (List.Perm.refl _))))
    · refine CX.exit ?_
      refine XX.then_exit ?_
      refine XX.then_exit ?_
      refine XX.block_exit ?_
      refine XX.next (V' := [(3, .slice B ys.length c)]) ⟨rfl, trivial⟩ ?_
      refine CX.seq ?_
      refine CX.region ?_
      refine RX.cons rfl rfl (op_w (yw_move rfl rfl) rfl rfl ?_)
      refine RX.cons rfl rfl (op_w (yw_assign rfl rfl) rfl rfl ?_)
      refine RX.nil (XX.next (V' := [(2, .slice B ys.length c)]) ⟨rfl, trivial⟩ ?_)
      refine CX.ret ?_
      exact ret_tmp rfl rfl fun w1 hw => by rw [few_done hys (by omega)]; exact ⟨(B, c), trivial, rfl, hw⟩
  · refine RX.skip rfl rfl rfl rfl rfl rfl rfl ?_
    refine RX.skip rfl rfl rfl rfl rfl rfl rfl ?_
    refine RX.cons rfl rfl (op_w (yw_pickF rfl rfl rfl) rfl rfl ?_)
    refine RX.nil (XX.next (V' := [(0, .slice A fs.length cap), (3, .slice B ys.length c), (4, .int .i64 ((i : Nat) : Int)), (13, .bool false)]) ⟨rfl, rfl, rfl, rfl, trivial⟩ ?_)
    refine CX.condF rfl ?_
    refine CX.exit ?_
    refine XX.then_exit ?_
    refine XX.then_exit ?_
    refine XX.block_exit ?_
    refine XX.next (V' := [(3, .slice B ys.length c)]) ⟨rfl, trivial⟩ ?_
    refine CX.seq ?_
    refine CX.region ?_
    refine RX.cons rfl rfl (op_w (yw_move rfl rfl) rfl rfl ?_)
    refine RX.cons rfl rfl (op_w (yw_assign rfl rfl) rfl rfl ?_)
    refine RX.nil (XX.next (V' := [(2, .slice B ys.length c)]) ⟨rfl, trivial⟩ ?_)
    refine CX.ret ?_
    exact ret_tmp rfl rfl fun w1 hw => by rw [few_done hys (by omega)]; exact ⟨(B, c), trivial, rfl, hw⟩

end Go.Proofs.YtmndhiaaolfepaaDoor
