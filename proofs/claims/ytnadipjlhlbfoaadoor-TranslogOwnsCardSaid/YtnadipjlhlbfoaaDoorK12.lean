/- Walks, printed by a program. Walks, printed by a program. The log's laws in plain Lean: what is proved is verified, extensions connect, other roots differ. Digests of the fixed calls, evaluated. Walks, printed by a program. Walks, printed by a program. Two Bools compared. What the arguments of a law are, opened out of their reading; and the law's end: the arguments read as they did. Nothing here knows a program. The statements among the arguments, and the digest's rounds, out of their readings. -/
import Derived.Test.YtnadipjlhlbfoaaDoorK11
import Derived.Test.YtnadipjlhlbfoaaDoorK10
import Derived.Test.YtnadipjlhlbfoaaDoorK2
import Derived.Deep.Slices
import Derived.ReadAgain
import Derived.ProofKit
import Derived.Carry
import Derived.Test.YtnadipjlhlbfoaaDoorRows
import Derived.LaidMore
import Derived.OpenShut
import Derived.DataShut
namespace Go.Proofs.YtnadipjlhlbfoaaDoor
set_option linter.all false
open Go Go.RowKit
set_option maxRecDepth 100000
/-- At most eight lines of a statement; of the first n statements; the valid ones of these. -/
def cutS (s : Stm) : Stm := ⟨s.h, s.c, s.ls.take 8⟩
def cutL (X : List SX) (n : Nat) : List Stm := (X.take n).map fun x => cutS x.2
def valL (X : List SX) (n : Nat) : List Stm := (cutL X n).filter okS
theorem cutL_short (X : List SX) (n : Nat) : ∀ s ∈ cutL X n, s.ls.length ≤ 8 := by
  intro s hs
  obtain ⟨x, _, rfl⟩ := List.mem_map.1 hs
  simp [cutS]; omega
theorem cutL_length (X : List SX) (n : Nat) : (cutL X n).length ≤ n := by simp [cutL]; omega
theorem valL_ok (X : List SX) (n : Nat) : ∀ s ∈ valL X n, okS s = true := fun s hs => (List.mem_filter.1 hs).2
theorem valL_short (X : List SX) (n : Nat) : ∀ s ∈ valL X n, s.ls.length ≤ 8 := fun s hs => cutL_short X n s (List.mem_filter.1 hs).1
theorem valL_length (X : List SX) (n : Nat) : (valL X n).length ≤ n := Nat.le_trans (List.length_filter_le _ _) (cutL_length X n)
/-- Of statements with their places. -/
theorem of_snd {X : List SX} {l : List Stm} {p : Stm → Prop} (h : X.map (·.2) = l) (hl : ∀ s ∈ l, p s) : ∀ x ∈ X, p x.2 := fun x hx => hl _ (by rw [← h]; exact List.mem_map.2 ⟨x, hx, rfl⟩)
theorem len_snd {X : List SX} {l : List Stm} (h : X.map (·.2) = l) : X.length = l.length := by rw [← h, List.length_map]
theorem lns_sub {X Y : List SX} (h : X.Sublist Y) : (lns X).Sublist (lns Y) := h.map _
theorem packSub {w0 w : World} {O : List Nat} {L : List Ent} {es es' : List Ent} (hs : es'.Sublist es) (h : SL w0 O w (pack es :: L)) : SL w0 O w (pack es' :: L) :=
  SL.pack (h.unpack.sub (hs.append (List.Sublist.refl L)))
theorem filter_snoc {X : List SX} {i : Nat} {x : SX} (p : SX → Bool) (h : X[i]? = some x) : (X.take (i + 1)).filter p = (X.take i).filter p ++ if p x then [x] else [] := by
  rw [take_succ h, List.filter_append]
  cases hp : p x <;> simp [hp]
set_option maxRecDepth 100000 in
theorem w_cut {w : World} {A : Option Addr} {cap : Nat} (X : List SX) (hr : Rd w A 3 (X.map stC)) (hX : ∀ x ∈ X, Rd w x.1.1 3 (x.2.ls.map lnC)) (hXc : ∀ x ∈ X, x.2.ls.length ≤ x.1.2) (hX8 : X.length ≤ 9223372036854775807) (hXl : ∀ x ∈ X, x.2.ls.length ≤ 9223372036854775807) (n : Nat) (hn : n ≤ 1000) :
    Calls Tryd.prog 21 #[.slice A X.length cap, .int .i64 ((n : Nat) : Int)] w (fun e w' => ∃ z : (Option Addr × Nat) × List SX, z.2.map (·.2) = cutL X n ∧ e = .returned (.slice z.1.1 z.2.length z.1.2) ∧ SL w [] w' [.row z.1.1 z.1.2 34 3 (List.map stC z.2), pack (lns z.2)]) := by
  refine calls_of_CX (O := []) (L := []) (args := [.slice A X.length cap, .int .i64 ((n : Nat) : Int)]) Tryd.func21 rfl (by simp [Tryd.ntmps21]) (SL.refl w) ?_
  refine CX.sub (V' := [(0, .slice A X.length cap), (1, .int .i64 ((n : Nat) : Int))]) ⟨rfl, rfl, trivial⟩ ?_
  refine CX.seq ?_
  refine CX.region ?_
  refine RX.cons rfl rfl (op_w (yw_assign rfl rfl) rfl rfl ?_)
  refine RX.nil (XX.next (V' := [(0, .slice A X.length cap), (1, .int .i64 ((n : Nat) : Int))]) ⟨rfl, rfl, trivial⟩ ?_)
  refine CX.seq ?_
  refine CX.region ?_
  refine RX.cons rfl rfl (op_w (yw_assign rfl rfl) rfl rfl ?_)
  refine RX.nil (XX.next (V' := [(0, .slice A X.length cap), (1, .int .i64 ((n : Nat) : Int)), (5, .slice none 0 0)]) ⟨rfl, rfl, rfl, trivial⟩ ?_)
  refine CX.seq ?_
  refine CX.seq ?_
  refine CX.region ?_
  refine RX.cons rfl rfl (op_w (yw_assign rfl rfl) rfl rfl ?_)
  refine RX.nil (XX.next (V' := [(0, .slice A X.length cap), (1, .int .i64 ((n : Nat) : Int)), (5, .slice none 0 0), (6, .int .i64 0)]) ⟨rfl, rfl, rfl, rfl, trivial⟩ ?_)
  refine CX.block ?_
  refine CX.packNil ?_
  refine CX.rowNil 34 3 ?_
  refine CX.loop (σ := Nat × (Option Addr × Nat) × List SX) (fun z => [(0, .slice A X.length cap), (1, .int .i64 ((n : Nat) : Int)), (5, .slice z.2.1.1 (List.length (z.2.2 : List SX)) z.2.1.2), (6, .int .i64 ((z.1 : Nat) : Int))]) (fun z => [.row z.2.1.1 z.2.1.2 34 3 (List.map stC z.2.2), pack (lns z.2.2)]) (fun z => z.1 ≤ X.length ∧ z.1 ≤ n ∧ z.2.2.map (·.2) = cutL X z.1) (fun z => X.length - z.1) (0, (none, 0), []) ⟨Nat.zero_le _, Nat.zero_le _, rfl⟩ ⟨rfl, rfl, rfl, rfl, trivial⟩ rfl (fun z hI => ?_)
  obtain ⟨i, ⟨A1, c1⟩, Y⟩ := z
  dsimp only at hI ⊢
  obtain ⟨hi, hin, hY⟩ := hI
  have hYl : Y.length = i := by have := congrArg List.length hY; simp [cutL] at this; omega
  refine CX.seq ?_
  refine CX.seq ?_
  refine CX.region ?_
  refine RX.cons rfl rfl (op_w (yw_move rfl rfl) rfl rfl ?_)
  refine RX.cons rfl rfl (op_w (yw_move rfl rfl) rfl rfl ?_)
  refine RX.cons rfl rfl (op_w (yw_lenS rfl Tryd.underlying22 rfl) rfl rfl ?_)
  refine RX.cons rfl rfl (op_w (yw_lss rfl rfl rfl) rfl rfl ?_)
  refine RX.cons rfl rfl (op_w (yw_move rfl rfl) rfl rfl ?_)
  refine RX.splitD (t := 12) (p := ((i : Nat) : Int) < ((X.length : Nat) : Int)) rfl (fun d12 => ?_) (fun d12 => ?_)
  · refine RX.consG rfl rfl rfl rfl rfl (op_w (yw_move rfl rfl) rfl rfl ?_)
    refine RX.consG rfl rfl rfl rfl rfl (op_w (yw_move rfl rfl) rfl rfl ?_)
    refine RX.consG rfl rfl rfl rfl rfl (op_w (yw_lss rfl rfl rfl) rfl rfl ?_)
    refine RX.cons rfl rfl (op_w (yw_pickT rfl rfl rfl) rfl rfl ?_)
    refine RX.nil (XX.next (V' := [(0, .slice A X.length cap), (1, .int .i64 ((n : Nat) : Int)), (5, .slice A1 (List.length (Y : List SX)) c1), (6, .int .i64 ((i : Nat) : Int)), (16, .bool (decide (((i : Nat) : Int) < ((n : Nat) : Int))))]) ⟨rfl, rfl, rfl, rfl, rfl, trivial⟩ ?_)
    refine CX.condD (p := ((i : Nat) : Int) < ((n : Nat) : Int)) rfl (fun c16 => ?_) (fun c16 => ?_)
    · obtain ⟨x0, hx0⟩ := get_some (l := X) (k := i) (by omega)
      have hx0m := List.mem_of_getElem? hx0
      have hA : ∃ b j, A = some ⟨b, j, none⟩ := hr.some (k := 0) (by simp; omega)
      have hc0 := hXc x0 hx0m
      have hl0 := hXl x0 hx0m
      have hlr : Rd w x0.1.1 3 ((List.take 8 (Stm.ls x0.2)).map lnC) := (hX x0 hx0m).takeM 8
      have htl : (List.take 8 (Stm.ls x0.2)).length ≤ 8 := by simp; omega
      refine CX.skip (XX.next (V' := [(0, .slice A X.length cap), (1, .int .i64 ((n : Nat) : Int)), (5, .slice A1 (List.length (Y : List SX)) c1), (6, .int .i64 ((i : Nat) : Int))]) ⟨rfl, rfl, rfl, rfl, trivial⟩ ?_)
      refine CX.seq ?_
      refine CX.block ?_
      refine CX.seq ?_
      refine CX.region ?_
      refine RX.cons rfl rfl (op_w (yw_move rfl rfl) rfl rfl ?_)
      refine RX.cons rfl rfl (op_w (yw_move rfl rfl) rfl rfl ?_)
      refine RX.cons rfl rfl (op_w (yw_index (k := i) rfl slt_22 rfl rfl (by omega) (by omega) hA) rfl rfl ?_)
      refine RX.cons rfl rfl (op_yld (y_elem rfl rfl agg_34 hr (by simp) (map_get hx0)) rfl rfl ?_)
      refine RX.cons rfl rfl (op_alloc rfl rfl rfl zero_34 fun gl => ?_)
      refine RX.cons rfl rfl (op_storeAll (i := 0) rfl rfl rfl rfl szt_34 rfl (plain_of rfl) rfl rfl ?_)
      refine RX.nil (XX.next (V' := [(0, .slice A X.length cap), (1, .int .i64 ((n : Nat) : Int)), (5, .slice A1 (List.length (Y : List SX)) c1), (6, .int .i64 ((i : Nat) : Int)), (7, .pointer (some ⟨gl, 0, none⟩))]) ⟨rfl, rfl, rfl, rfl, rfl, trivial⟩ ?_)
      refine CX.seq ?_
      refine CX.region ?_
      refine RX.cons rfl rfl (op_buildSlice rfl rfl rfl slb_32 rfl rfl (by intro v hv; simp at hv) (by decide) fun g6 => ?_)
      refine RX.cons rfl rfl (op_w (yw_fieldAddr rfl fld_34_2 rfl) rfl rfl ?_)
      refine RX.cons rfl rfl (op_yld (y_load (i := 1) rfl rfl one_32 rfl rfl) rfl rfl ?_)
      refine RX.cons rfl rfl (op_w (yw_fieldAddr rfl fld_34_2 rfl) rfl rfl ?_)
      refine RX.cons rfl rfl (op_yld (y_load (i := 1) rfl rfl one_32 rfl rfl) rfl rfl ?_)
      refine RX.cons rfl rfl (op_w (yw_lenS rfl Tryd.underlying32 rfl) rfl rfl ?_)
      refine RX.cons rfl rfl (op_w (yw_min rfl rfl rfl) rfl rfl ?_)
      refine RX.know (t := 29) (u := .int .i64 ((min (Stm.ls x0.2).length 8 : Nat) : Int)) rfl (congrArg (Value.int .i64) (by omega)) ?_
      refine RX.cons rfl rfl (op_w (yw_sliceTo (k := (min (Stm.ls x0.2).length 8)) rfl slt_32 rfl rfl (by omega) (by omega)) rfl rfl ?_)
      refine RX.cons rfl rfl (op_appendM0 lnC (i := 0) (xs := []) (List.take 8 (Stm.ls x0.2)) rfl rfl rfl slb_32 rfl rfl rfl (by rw [List.length_take, Nat.min_comm]) hlr (by simp) (by simp only [List.length_nil]; omega) (by simp only [List.length_nil]; omega) fun A2 c2 => ?_)
      refine RX.cons rfl rfl (op_w (yw_fieldAddr rfl fld_34_2 rfl) rfl rfl ?_)
      refine RX.cons rfl rfl (op_store1 (i := 1) (cs' := #[.int .i64 (Stm.h x0.2), .int .i64 (Stm.c x0.2), .slice A2 (([] ++ (List.take 8 (Stm.ls x0.2))).length) c2]) rfl rfl rfl rfl szt_32 rfl rfl rfl rfl ?_)
      refine RX.nil (XX.next (V' := [(0, .slice A X.length cap), (1, .int .i64 ((n : Nat) : Int)), (5, .slice A1 (List.length (Y : List SX)) c1), (6, .int .i64 ((i : Nat) : Int)), (7, .pointer (some ⟨gl, 0, none⟩))]) ⟨rfl, rfl, rfl, rfl, rfl, trivial⟩ ?_)
      refine CX.packMoreE (es' := lns (Y ++ [(((A2, c2), cutS x0.2) : SX)])) (L' := [.blk gl (.cells (#[.int .i64 (Stm.h x0.2), .int .i64 (Stm.c x0.2), .slice A2 (([] ++ (List.take 8 (Stm.ls x0.2))).length) c2]) 34 (0, 0)), .row A1 c1 34 3 (List.map stC Y)]) (lns_snoc _ _) ((perm_pick 0 rfl).trans (List.Perm.cons _ ((perm_pick 2 rfl).trans (List.Perm.cons _ (List.Perm.refl _))))) ?_
      refine CX.region ?_
      refine RX.cons rfl rfl (op_w (yw_move rfl rfl) rfl rfl ?_)
      refine RX.cons rfl rfl (op_yld (y_loadA (i := 1) rfl rfl agg_34 rfl rfl) rfl rfl ?_)
      refine RX.cons rfl rfl (op_buildSlice rfl rfl rfl slb_22 rfl rfl (by intro v hv; simp only [List.mem_cons, List.not_mem_nil, or_false] at hv; subst hv; exact ⟨rfl, (plain_of rfl)⟩) (by decide) fun g7 => ?_)
      refine RX.cons rfl rfl (op_appendM stC (i := 3) (j := 0) (xs := Y) ([(((A2, c2), cutS x0.2) : SX)]) rfl rfl rfl slb_22 rfl rfl rfl rfl rfl rfl (by simp only [List.length_singleton]; omega) (by simp only [List.length_singleton]; omega) fun A3 c3 => ?_)
      refine RX.cons rfl rfl (op_w (yw_assign rfl rfl) rfl rfl ?_)
      refine RX.nil (XX.inBlock (V' := [(0, .slice A X.length cap), (1, .int .i64 ((n : Nat) : Int)), (5, .slice A3 ((Y ++ [(((A2, c2), cutS x0.2) : SX)]).length) c3), (6, .int .i64 ((i : Nat) : Int))]) ⟨rfl, rfl, rfl, rfl, trivial⟩ ?_)
      refine XX.next (V' := [(0, .slice A X.length cap), (1, .int .i64 ((n : Nat) : Int)), (5, .slice A3 ((Y ++ [(((A2, c2), cutS x0.2) : SX)]).length) c3), (6, .int .i64 ((i : Nat) : Int))]) ⟨rfl, rfl, rfl, rfl, trivial⟩ ?_
      refine CX.region ?_
      refine RX.cons rfl rfl (op_w (yw_move rfl rfl) rfl rfl ?_)
      refine RX.cons rfl rfl (op_w (yw_add rfl rfl rfl (by omega) (by omega)) rfl rfl ?_)
      refine RX.cons rfl rfl (op_w (yw_assign rfl rfl) rfl rfl ?_)
      refine RX.nil (XX.againP ([.row (some ⟨g7, 0, none⟩) 1 34 3 (List.map stC ([(((A2, c2), cutS x0.2) : SX)])), .blk gl (.cells (#[.int .i64 (Stm.h x0.2), .int .i64 (Stm.c x0.2), .slice A2 (([] ++ (List.take 8 (Stm.ls x0.2))).length) c2]) 34 (0, 0))]) (i + 1, (A3, c3), Y ++ [(((A2, c2), cutS x0.2) : SX)]) (by dsimp only; omega) ⟨by dsimp only; omega, by dsimp only; omega, by dsimp only; rw [List.map_append, hY, cutL, cutL, take_succ hx0, List.map_append]; rfl⟩ ⟨rfl, rfl, rfl, rfl, trivial⟩ ((perm_pick 3 rfl).trans (List.Perm.cons _ ((perm_pick 1 rfl).trans (List.Perm.cons _ (List.Perm.refl _))))))
    · refine CX.exit ?_
      refine XX.then_exit ?_
      refine XX.then_exit ?_
      refine XX.block_exit ?_
      refine XX.next (V' := [(5, .slice A1 (List.length (Y : List SX)) c1)]) ⟨rfl, trivial⟩ ?_
      refine CX.seq ?_
      refine CX.region ?_
      refine RX.cons rfl rfl (op_w (yw_move rfl rfl) rfl rfl ?_)
      refine RX.cons rfl rfl (op_w (yw_assign rfl rfl) rfl rfl ?_)
      refine RX.nil (XX.next (V' := [(4, .slice A1 (List.length (Y : List SX)) c1)]) ⟨rfl, trivial⟩ ?_)
      refine CX.ret ?_
      exact ret_tmp rfl rfl fun w1 hw => ⟨((A1, c1), Y), by rw [hY, show i = n from by omega], rfl, hw.pick ((perm_pick 0 rfl).trans (List.Perm.cons _ ((perm_pick 0 rfl).trans (List.Perm.cons _ (List.Perm.refl _)))))⟩
  · refine RX.skip rfl rfl rfl rfl rfl rfl rfl ?_
    refine RX.skip rfl rfl rfl rfl rfl rfl rfl ?_
    refine RX.skip rfl rfl rfl rfl rfl rfl rfl ?_
    refine RX.cons rfl rfl (op_w (yw_pickF rfl rfl rfl) rfl rfl ?_)
    refine RX.nil (XX.next (V' := [(0, .slice A X.length cap), (1, .int .i64 ((n : Nat) : Int)), (5, .slice A1 (List.length (Y : List SX)) c1), (6, .int .i64 ((i : Nat) : Int)), (16, .bool false)]) ⟨rfl, rfl, rfl, rfl, rfl, trivial⟩ ?_)
    refine CX.condF rfl ?_
    refine CX.exit ?_
    refine XX.then_exit ?_
    refine XX.then_exit ?_
    refine XX.block_exit ?_
    refine XX.next (V' := [(5, .slice A1 (List.length (Y : List SX)) c1)]) ⟨rfl, trivial⟩ ?_
    refine CX.seq ?_
    refine CX.region ?_
    refine RX.cons rfl rfl (op_w (yw_move rfl rfl) rfl rfl ?_)
    refine RX.cons rfl rfl (op_w (yw_assign rfl rfl) rfl rfl ?_)
    refine RX.nil (XX.next (V' := [(4, .slice A1 (List.length (Y : List SX)) c1)]) ⟨rfl, trivial⟩ ?_)
    refine CX.ret ?_
    exact ret_tmp rfl rfl fun w1 hw => ⟨((A1, c1), Y), by rw [hY, cutL, cutL, List.take_of_length_le (by omega), List.take_of_length_le (by omega)], rfl, hw.pick ((perm_pick 0 rfl).trans (List.Perm.cons _ ((perm_pick 0 rfl).trans (List.Perm.cons _ (List.Perm.refl _)))))⟩

end Go.Proofs.YtnadipjlhlbfoaaDoor
namespace Go.Proofs.YtnadipjlhlbfoaaDoor
set_option linter.all false
open Go Go.RowKit
set_option maxRecDepth 100000
theorem ent_21 : ∀ args w, (callFunc 21 args).run Tryd.prog w = .ok (.enter 21 args) w := enters_of Tryd.func21 (by kernel_rfl) rfl
theorem ent_22 : ∀ args w, (callFunc 22 args).run Tryd.prog w = .ok (.enter 22 args) w := enters_of Tryd.func22 (by kernel_rfl) rfl
theorem ent_11 : ∀ args w, (callFunc 11 args).run Tryd.prog w = .ok (.enter 11 args) w := enters_of Tryd.func11 (by kernel_rfl) rfl
theorem ent_12 : ∀ args w, (callFunc 12 args).run Tryd.prog w = .ok (.enter 12 args) w := enters_of Tryd.func12 (by kernel_rfl) rfl
set_option maxRecDepth 100000 in
theorem w_validX {w : World} {A : Option Addr} {cap : Nat} (X : List SX) (hr : Rd w A 3 (X.map stC)) (hX : ∀ x ∈ X, Rd w x.1.1 3 (x.2.ls.map lnC)) (hXc : ∀ x ∈ X, x.2.ls.length ≤ x.1.2) (hX8 : X.length ≤ 9223372036854775807) (hXl : ∀ x ∈ X, x.2.ls.length ≤ 9223372036854775807) (n : Nat) (hn : n ≤ 1000) :
    Calls Tryd.prog 10 #[.slice A X.length cap, .int .i64 ((n : Nat) : Int)] w (fun e w' => ∃ z : (Option Addr × Nat) × List SX, z.2.map (·.2) = valL X n ∧ e = .returned (.slice z.1.1 z.2.length z.1.2) ∧ SL w [] w' [.row z.1.1 z.1.2 34 3 (List.map stC z.2), pack (lns z.2)]) := by
  refine calls_of_CX (O := []) (L := []) (args := [.slice A X.length cap, .int .i64 ((n : Nat) : Int)]) Tryd.func10 rfl (by simp [Tryd.ntmps10]) (SL.refl w) ?_
  refine CX.sub (V' := [(0, .slice A X.length cap), (1, .int .i64 ((n : Nat) : Int))]) ⟨rfl, rfl, trivial⟩ ?_
  refine CX.seq ?_
  refine CX.region ?_
  refine RX.cons rfl rfl (op_w (yw_assign rfl rfl) rfl rfl ?_)
  refine RX.nil (XX.next (V' := [(0, .slice A X.length cap), (1, .int .i64 ((n : Nat) : Int))]) ⟨rfl, rfl, trivial⟩ ?_)
  refine CX.seq ?_
  refine CX.region ?_
  refine RX.cons rfl rfl (op_w (yw_assign rfl rfl) rfl rfl ?_)
  refine RX.nil (XX.next (V' := [(0, .slice A X.length cap), (1, .int .i64 ((n : Nat) : Int)), (5, .slice none 0 0)]) ⟨rfl, rfl, rfl, trivial⟩ ?_)
  refine CX.seq ?_
  refine CX.region ?_
  refine RX.cons rfl rfl (op_w (yw_move rfl rfl) rfl rfl ?_)
  refine RX.cons rfl rfl (op_w (yw_move rfl rfl) rfl rfl ?_)
  refine RX.cons rfl rfl (op_callE rfl rfl rfl rfl rfl ent_21 (fun w hw => w_cut X (hw.rd hr (by simp)) (fun x hx => hw.rd (hX x hx) (by simp)) hXc hX8 hXl n hn) (fun zk hzk => ?_))
  refine RX.cons rfl rfl (op_w (yw_assign rfl rfl) rfl rfl ?_)
  refine RX.nil (XX.next (V' := [(0, .slice zk.1.1 zk.2.length zk.1.2), (5, .slice none 0 0)]) ⟨rfl, rfl, trivial⟩ ?_)
  refine CX.seq ?_
  refine CX.seq ?_
  refine CX.region ?_
  refine RX.cons rfl rfl (op_w (yw_assign rfl rfl) rfl rfl ?_)
  refine RX.nil (XX.next (V' := [(0, .slice zk.1.1 zk.2.length zk.1.2), (5, .slice none 0 0), (6, .int .i64 0)]) ⟨rfl, rfl, rfl, trivial⟩ ?_)
  refine CX.block ?_
  refine CX.rowNil 34 3 ?_
  have hks := of_snd (p := fun s => s.ls.length ≤ 8) hzk (cutL_short X n)
  have hkl : zk.2.length ≤ n := by rw [len_snd hzk]; exact cutL_length X n
  refine CX.loop (σ := Nat × (Option Addr × Nat) × List SX) (fun z => [(0, .slice zk.1.1 zk.2.length zk.1.2), (5, .slice z.2.1.1 (List.length (z.2.2 : List SX)) z.2.1.2), (6, .int .i64 ((z.1 : Nat) : Int))]) (fun z => [.row z.2.1.1 z.2.1.2 34 3 (List.map stC z.2.2), .row zk.1.1 zk.1.2 34 3 (List.map stC zk.2), pack (lns zk.2)]) (fun z => z.1 ≤ zk.2.length ∧ z.2.2 = ((zk.2.take z.1).filter fun x : SX => okS x.2) ∧ z.2.2.length ≤ z.1) (fun z => zk.2.length - z.1) (0, (none, 0), []) ⟨Nat.zero_le _, rfl, Nat.le_refl _⟩ ⟨rfl, rfl, rfl, trivial⟩ rfl (fun z hI => ?_)
  obtain ⟨i, ⟨A1, c1⟩, Y⟩ := z
  dsimp only at hI ⊢
  obtain ⟨hi, hY, hYl⟩ := hI
  refine CX.seq ?_
  refine CX.seq ?_
  refine CX.region ?_
  refine RX.cons rfl rfl (op_w (yw_move rfl rfl) rfl rfl ?_)
  refine RX.cons rfl rfl (op_w (yw_move rfl rfl) rfl rfl ?_)
  refine RX.cons rfl rfl (op_w (yw_lenS rfl Tryd.underlying22 rfl) rfl rfl ?_)
  refine RX.cons rfl rfl (op_w (yw_lss rfl rfl rfl) rfl rfl ?_)
  refine RX.nil (XX.next (V' := [(0, .slice zk.1.1 zk.2.length zk.1.2), (5, .slice A1 (List.length (Y : List SX)) c1), (6, .int .i64 ((i : Nat) : Int)), (15, .bool (decide (((i : Nat) : Int) < ((zk.2.length : Nat) : Int))))]) ⟨rfl, rfl, rfl, rfl, trivial⟩ ?_)
  refine CX.condD (p := ((i : Nat) : Int) < ((zk.2.length : Nat) : Int)) rfl (fun c15 => ?_) (fun c15 => ?_)
  · obtain ⟨x0, hx0⟩ := get_some (l := zk.2) (k := i) (by omega)
    have hx0m := List.mem_of_getElem? hx0
    have h08 := hks x0 hx0m
    refine CX.rowSome 1 rfl (by simp; omega) (fun hA => ?_)
    refine CX.skip (XX.next (V' := [(0, .slice zk.1.1 zk.2.length zk.1.2), (5, .slice A1 (List.length (Y : List SX)) c1), (6, .int .i64 ((i : Nat) : Int))]) ⟨rfl, rfl, rfl, trivial⟩ ?_)
    refine CX.seq ?_
    refine CX.block ?_
    refine CX.seq ?_
    by_cases hok : okS x0.2 = true
    · refine CX.region ?_
      refine RX.cons rfl rfl (op_w (yw_move rfl rfl) rfl rfl ?_)
      refine RX.cons rfl rfl (op_w (yw_move rfl rfl) rfl rfl ?_)
      refine RX.cons rfl rfl (op_w (yw_index (k := i) rfl slt_22 rfl rfl (by omega) (by omega) hA) rfl rfl ?_)
      refine RX.cons rfl rfl (op_yld (y_rowElem (i := 1) rfl rfl agg_34 rfl (map_get hx0)) rfl rfl ?_)
      refine RX.cons rfl rfl (op_callV (v := .tuple #[.string (⟨(encL x0.2).toArray⟩), .int .i64 0]) rfl rfl rfl rfl rfl ent_22 (fun w hw => by have h := w_encode19 (cap := x0.1.2) x0.2 (lnsRd hw (i := 2) rfl x0 hx0m) (by omega); rw [encR_ok hok] at h; exact h) ?_)
      refine RX.cons rfl rfl (op_w (yw_move rfl rfl) rfl rfl ?_)
      refine RX.cons rfl rfl (op_w (yw_extract rfl rfl rfl) rfl rfl ?_)
      refine RX.cons rfl rfl (op_w (yw_extract rfl rfl rfl) rfl rfl ?_)
      refine RX.cons rfl rfl (op_w (yw_assign rfl rfl) rfl rfl ?_)
      refine RX.cons rfl rfl (op_w (yw_assign rfl rfl) rfl rfl ?_)
      refine RX.nil (XX.next (V' := [(0, .slice zk.1.1 zk.2.length zk.1.2), (5, .slice A1 (List.length (Y : List SX)) c1), (6, .int .i64 ((i : Nat) : Int)), (8, .int .i64 0)]) ⟨rfl, rfl, rfl, rfl, trivial⟩ ?_)
      refine CX.seq ?_
      refine CX.region ?_
      refine RX.cons rfl rfl (op_w (yw_move rfl rfl) rfl rfl ?_)
      refine RX.cons rfl rfl (op_w (yw_eql rfl rfl rfl) rfl rfl ?_)
      refine RX.know (t := 27) (u := .bool true) rfl rfl ?_
      refine RX.nil (XX.next (V' := [(0, .slice zk.1.1 zk.2.length zk.1.2), (5, .slice A1 (List.length (Y : List SX)) c1), (6, .int .i64 ((i : Nat) : Int)), (27, .bool true)]) ⟨rfl, rfl, rfl, rfl, trivial⟩ ?_)
      refine CX.condT rfl ?_
      refine CX.region ?_
      refine RX.cons rfl rfl (op_w (yw_move rfl rfl) rfl rfl ?_)
      refine RX.cons rfl rfl (op_w (yw_move rfl rfl) rfl rfl ?_)
      refine RX.cons rfl rfl (op_w (yw_move rfl rfl) rfl rfl ?_)
      refine RX.cons rfl rfl (op_w (yw_index (k := i) rfl slt_22 rfl rfl (by omega) (by omega) hA) rfl rfl ?_)
      refine RX.cons rfl rfl (op_yld (y_rowElem (i := 1) rfl rfl agg_34 rfl (map_get hx0)) rfl rfl ?_)
      refine RX.cons rfl rfl (op_buildSlice rfl rfl rfl slb_22 rfl rfl (by intro v hv; simp only [List.mem_cons, List.not_mem_nil, or_false] at hv; subst hv; exact ⟨rfl, (plain_of rfl)⟩) (by decide) fun g4 => ?_)
      refine RX.cons rfl rfl (op_appendM stC (i := 1) (j := 0) (xs := Y) ([x0]) rfl rfl rfl slb_22 rfl rfl rfl rfl rfl rfl (by simp only [List.length_singleton]; omega) (by simp only [List.length_singleton]; omega) fun A3 c3 => ?_)
      refine RX.cons rfl rfl (op_w (yw_assign rfl rfl) rfl rfl ?_)
      refine RX.nil (XX.inBlock (V' := [(0, .slice zk.1.1 zk.2.length zk.1.2), (5, .slice A3 ((Y ++ [x0]).length) c3), (6, .int .i64 ((i : Nat) : Int))]) ⟨rfl, rfl, rfl, trivial⟩ ?_)
      refine XX.next (V' := [(0, .slice zk.1.1 zk.2.length zk.1.2), (5, .slice A3 ((Y ++ [x0]).length) c3), (6, .int .i64 ((i : Nat) : Int))]) ⟨rfl, rfl, rfl, trivial⟩ ?_
      refine CX.region ?_
      refine RX.cons rfl rfl (op_w (yw_move rfl rfl) rfl rfl ?_)
      refine RX.cons rfl rfl (op_w (yw_add rfl rfl rfl (by omega) (by omega)) rfl rfl ?_)
      refine RX.cons rfl rfl (op_w (yw_assign rfl rfl) rfl rfl ?_)
      refine RX.nil (XX.againP ([.row (some ⟨g4, 0, none⟩) 1 34 3 (List.map stC ([x0]))]) (i + 1, (A3, c3), Y ++ [x0]) (by dsimp only; omega) ⟨by dsimp only; omega, by dsimp only; rw [filter_snoc _ hx0, hok, ← hY]; rfl, by dsimp only; rw [List.length_append, List.length_singleton]; omega⟩ ⟨rfl, rfl, rfl, trivial⟩ ((perm_pick 1 rfl).trans (List.Perm.cons _ ((perm_pick 1 rfl).trans (List.Perm.cons _ ((perm_pick 1 rfl).trans (List.Perm.cons _ (List.Perm.refl _))))))))
    · refine CX.region ?_
      refine RX.cons rfl rfl (op_w (yw_move rfl rfl) rfl rfl ?_)
      refine RX.cons rfl rfl (op_w (yw_move rfl rfl) rfl rfl ?_)
      refine RX.cons rfl rfl (op_w (yw_index (k := i) rfl slt_22 rfl rfl (by omega) (by omega) hA) rfl rfl ?_)
      refine RX.cons rfl rfl (op_yld (y_rowElem (i := 1) rfl rfl agg_34 rfl (map_get hx0)) rfl rfl ?_)
      refine RX.cons rfl rfl (op_callV (v := .tuple #[.string .empty, .int .i64 190]) rfl rfl rfl rfl rfl ent_22 (fun w hw => by have h := w_encode19 (cap := x0.1.2) x0.2 (lnsRd hw (i := 2) rfl x0 hx0m) (by omega); rw [encR_bad (by simpa using hok)] at h; exact h) ?_)
      refine RX.cons rfl rfl (op_w (yw_move rfl rfl) rfl rfl ?_)
      refine RX.cons rfl rfl (op_w (yw_extract rfl rfl rfl) rfl rfl ?_)
      refine RX.cons rfl rfl (op_w (yw_extract rfl rfl rfl) rfl rfl ?_)
      refine RX.cons rfl rfl (op_w (yw_assign rfl rfl) rfl rfl ?_)
      refine RX.cons rfl rfl (op_w (yw_assign rfl rfl) rfl rfl ?_)
      refine RX.nil (XX.next (V' := [(0, .slice zk.1.1 zk.2.length zk.1.2), (5, .slice A1 (List.length (Y : List SX)) c1), (6, .int .i64 ((i : Nat) : Int)), (8, .int .i64 190)]) ⟨rfl, rfl, rfl, rfl, trivial⟩ ?_)
      refine CX.seq ?_
      refine CX.region ?_
      refine RX.cons rfl rfl (op_w (yw_move rfl rfl) rfl rfl ?_)
      refine RX.cons rfl rfl (op_w (yw_eql rfl rfl rfl) rfl rfl ?_)
      refine RX.know (t := 27) (u := .bool false) rfl rfl ?_
      refine RX.nil (XX.next (V' := [(0, .slice zk.1.1 zk.2.length zk.1.2), (5, .slice A1 (List.length (Y : List SX)) c1), (6, .int .i64 ((i : Nat) : Int)), (27, .bool false)]) ⟨rfl, rfl, rfl, rfl, trivial⟩ ?_)
      refine CX.condF rfl ?_
      refine CX.skip (XX.inBlock (V' := [(0, .slice zk.1.1 zk.2.length zk.1.2), (5, .slice A1 (List.length (Y : List SX)) c1), (6, .int .i64 ((i : Nat) : Int))]) ⟨rfl, rfl, rfl, trivial⟩ ?_)
      refine XX.next (V' := [(0, .slice zk.1.1 zk.2.length zk.1.2), (5, .slice A1 (List.length (Y : List SX)) c1), (6, .int .i64 ((i : Nat) : Int))]) ⟨rfl, rfl, rfl, trivial⟩ ?_
      refine CX.region ?_
      refine RX.cons rfl rfl (op_w (yw_move rfl rfl) rfl rfl ?_)
      refine RX.cons rfl rfl (op_w (yw_add rfl rfl rfl (by omega) (by omega)) rfl rfl ?_)
      refine RX.cons rfl rfl (op_w (yw_assign rfl rfl) rfl rfl ?_)
      refine RX.nil (XX.againP ([]) (i + 1, (A1, c1), Y) (by dsimp only; omega) ⟨by dsimp only; omega, by dsimp only; rw [filter_snoc _ hx0, (by simpa using hok : okS x0.2 = false), hY]; exact (List.append_nil _).symm, by dsimp only; omega⟩ ⟨rfl, rfl, rfl, trivial⟩ ((perm_pick 0 rfl).trans (List.Perm.cons _ ((perm_pick 0 rfl).trans (List.Perm.cons _ ((perm_pick 0 rfl).trans (List.Perm.cons _ (List.Perm.refl _))))))))
  · refine CX.exit ?_
    refine XX.then_exit ?_
    refine XX.then_exit ?_
    refine XX.block_exit ?_
    refine XX.next (V' := [(5, .slice A1 (List.length (Y : List SX)) c1)]) ⟨rfl, trivial⟩ ?_
    refine CX.seq ?_
    refine CX.region ?_
    refine RX.cons rfl rfl (op_w (yw_move rfl rfl) rfl rfl ?_)
    refine RX.cons rfl rfl (op_w (yw_assign rfl rfl) rfl rfl ?_)
    refine RX.nil (XX.next (V' := [(4, .slice A1 (List.length (Y : List SX)) c1)]) ⟨rfl, trivial⟩ ?_)
    refine CX.ret ?_
    exact ret_tmp rfl rfl fun w1 hw => ⟨((A1, c1), Y), by rw [hY, List.take_of_length_le (by omega), valL, ← hzk, List.filter_map]; rfl, rfl, by have h9 := hw.pick (L' := [pack (lns zk.2), .row A1 c1 34 3 (List.map stC Y)]) (R := [.row zk.1.1 zk.1.2 34 3 (List.map stC zk.2)]) ((perm_pick 2 rfl).trans (List.Perm.cons _ ((perm_pick 0 rfl).trans (List.Perm.cons _ (List.Perm.refl _))))); exact (packSub (lns_sub (by rw [hY, List.take_of_length_le (by omega)]; exact List.filter_sublist)) h9).perm (List.Perm.swap _ _ _)⟩

/-- The statement of one line. -/
def oneS (h a : Int) : Stm := ⟨h, 0, [⟨0, 0, 10000 * a⟩]⟩
set_option maxRecDepth 100000 in
theorem w_one {w : World} (h a : Int) (h0 : 0 ≤ a) (h1 : a ≤ 1000) :
    Calls Tryd.prog 31 #[.int .i64 h, .int .i64 a] w (fun e w' => ∃ g : Nat, True ∧ e = .returned (.agg (stC ((some ⟨g, 0, none⟩, 1), oneS h a))) ∧ SL w [] w' [.row (some ⟨g, 0, none⟩) 1 57 3 (List.map lnC (Stm.ls (oneS h a)))]) := by
  refine calls_of_CX (O := []) (L := []) (args := [.int .i64 h, .int .i64 a]) Tryd.func31 rfl (by simp [Tryd.ntmps31]) (SL.refl w) ?_
  refine CX.sub (V' := [(0, .int .i64 h), (1, .int .i64 a)]) ⟨rfl, rfl, trivial⟩ ?_
  refine CX.seq ?_
  refine CX.region ?_
  refine RX.cons rfl rfl (op_alloc rfl rfl rfl zero_34 fun gr => ?_)
  refine RX.nil (XX.next (V' := [(0, .int .i64 h), (1, .int .i64 a), (4, .pointer (some ⟨gr, 0, none⟩))]) ⟨rfl, rfl, rfl, trivial⟩ ?_)
  refine CX.seq ?_
  refine CX.region ?_
  refine RX.cons rfl rfl (op_w (yw_move rfl rfl) rfl rfl ?_)
  refine RX.cons rfl rfl (op_w (yw_move rfl rfl) rfl rfl ?_)
  refine RX.cons rfl rfl (op_w (yw_mul rfl rfl rfl (by omega) (by omega)) rfl rfl ?_)
  refine RX.cons rfl rfl (op_w (yw_build (v := .agg (#[.int .i64 0, .int .i64 0, .int .i64 (10000 * a)])) rfl rfl (fun _ => by kernel_rfl)) rfl rfl ?_)
  refine RX.cons rfl rfl (op_buildSlice rfl rfl rfl slb_32 rfl rfl (by intro v hv; simp only [List.mem_cons, List.not_mem_nil, or_false] at hv; subst hv; exact ⟨rfl, (plain_of rfl)⟩) (by decide) fun gl => ?_)
  refine RX.cons rfl rfl (op_w (yw_build (v := .agg (#[.int .i64 h, .int .i64 0, .slice (some ⟨gl, 0, none⟩) 1 1])) rfl rfl (fun _ => by kernel_rfl)) rfl rfl ?_)
  refine RX.cons rfl rfl (op_storeAll (i := 1) rfl rfl rfl rfl szt_34 rfl (plain_of rfl) rfl rfl ?_)
  refine RX.nil (XX.next (V' := [(4, .pointer (some ⟨gr, 0, none⟩))]) ⟨rfl, trivial⟩ ?_)
  refine CX.ret ?_
  exact ret_cell (i := 1) rfl rfl agg_34 rfl rfl fun w1 hw => ⟨gl, trivial, rfl, hw.pick ((perm_pick 0 rfl).trans (List.Perm.cons _ (List.Perm.refl _)))⟩

set_option maxRecDepth 100000 in
theorem w_logged {w : World} {A : Option Addr} {cap : Nat} (X : List SX) (hr : Rd w A 3 (X.map stC)) (hX : ∀ x ∈ X, Rd w x.1.1 3 (x.2.ls.map lnC)) (hXl : ∀ x ∈ X, x.2.ls.length ≤ 1000000) (hl : X.length ≤ 1000000) (hG : Rounds w) (hok : ∀ x ∈ X, okS x.2 = true) :
    Calls Tryd.prog 19 #[.slice A X.length cap] w (fun e w' => ∃ y : (Nat × LZ) × List SX, y.2.map (·.2) = X.map (·.2) ∧ e = .returned (.pointer (some ⟨y.1.1, 0, none⟩)) ∧ SL w [] w' [logE y.1.1 y.1.2 y.2]) := by
  refine calls_of_CX (O := []) (L := []) (args := [.slice A X.length cap]) Tryd.func19 rfl (by simp [Tryd.ntmps19]) (SL.refl w) ?_
  refine CX.sub (V' := [(0, .slice A X.length cap)]) ⟨rfl, trivial⟩ ?_
  refine CX.seq ?_
  refine CX.region ?_
  refine RX.cons rfl rfl (op_w (yw_assign rfl rfl) rfl rfl ?_)
  refine RX.nil (XX.next (V' := [(0, .slice A X.length cap)]) ⟨rfl, trivial⟩ ?_)
  refine CX.seq ?_
  refine CX.region ?_
  refine RX.cons rfl rfl (op_callE rfl rfl rfl rfl rfl ent_11 (fun w hw => w_newE) (fun zx _ => ?_))
  refine RX.cons rfl rfl (op_w (yw_assign rfl rfl) rfl rfl ?_)
  refine RX.nil (XX.next (V' := [(0, .slice A X.length cap), (3, .pointer (some ⟨zx, 0, none⟩))]) ⟨rfl, rfl, trivial⟩ ?_)
  refine CX.seq ?_
  refine CX.region ?_
  refine RX.cons rfl rfl (op_w (yw_move rfl rfl) rfl rfl ?_)
  refine RX.cons rfl rfl (op_w (yw_move rfl rfl) rfl rfl ?_)
  refine RX.cons rfl rfl (op_callP [logE zx (((none, 0), (none, 0)) : LZ) ([])] [] rfl rfl rfl rfl rfl ent_12 ((perm_pick 0 rfl).trans (List.Perm.cons _ (List.Perm.refl _))) (σ := LZ × List SX) (val := fun _ => .int .i64 0) (LL := fun y => [logE zx y.1 ([] ++ y.2)]) (post := fun y => y.2.map (fun x : SX => x.2) = X.map (fun x : SX => x.2)) (fun w hw hs => w_appendE ([]) X (rdN hw hr (by simp)) (fun x hx => rdN hw (hX x hx) (by simp)) (rdOff hw (List.subset_append_left _ _) hr) (fun x hx => rdOff hw (List.subset_append_left _ _) (hX x hx)) hXl hl hs (hG.keep hw (by simp)) (hw.no0 (by simp) hG) hok (by simp; omega)) (fun za hza => ?_))
  refine RX.nil (XX.next (V' := [(3, .pointer (some ⟨zx, 0, none⟩))]) ⟨rfl, trivial⟩ ?_)
  refine CX.seq ?_
  refine CX.region ?_
  refine RX.cons rfl rfl (op_w (yw_move rfl rfl) rfl rfl ?_)
  refine RX.cons rfl rfl (op_w (yw_assign rfl rfl) rfl rfl ?_)
  refine RX.nil (XX.next (V' := [(2, .pointer (some ⟨zx, 0, none⟩))]) ⟨rfl, trivial⟩ ?_)
  refine CX.ret ?_
  exact ret_tmp rfl rfl fun w1 hw => ⟨((zx, za.1), za.2), hza, rfl, hw⟩

end Go.Proofs.YtnadipjlhlbfoaaDoor
namespace Go.Proofs.YtnadipjlhlbfoaaDoor
set_option linter.all false
open Go Go.RowKit
attribute [local irreducible] sum
theorem path_verifies {l : List ByteArray} {i : Nat} {s : ByteArray} (h : l[i]? = some s) : (∀ x ∈ (path sum l i).reverse, x.size = 32) ∧ value sum s (path sum l i).reverse.reverse l.length i = some (root sum l) := by
  refine ⟨fun x hx => path_sizes sum sum_size _ _ _ x (List.mem_reverse.1 hx), ?_⟩
  rw [List.reverse_reverse]
  exact value_path sum l.length l i s (Nat.le_refl _) h
theorem prove_verifies {X : List SX} {i : Nat} {x0 : SX} (h : X[i]? = some x0) : verN (root sum (entsX X)) X.length i (saltX X i ++ encS x0.2) (path sum (entsX X) i).reverse = true := by
  obtain ⟨h1, h2⟩ := path_verifies (entsX_get h)
  rw [entsX_length] at h2
  exact decide_eq_true ⟨h1, h2⟩
theorem prove_else {X : List SX} {i : Nat} {x0 : SX} {r : ByteArray} (h : X[i]? = some x0) (hr : root sum (entsX X) ≠ r) : verN r X.length i (saltX X i ++ encS x0.2) (path sum (entsX X) i).reverse = false := by
  obtain ⟨h1, h2⟩ := path_verifies (entsX_get h)
  rw [entsX_length] at h2
  refine decide_eq_false fun h3 => ?_
  have := h2.symm.trans h3.2
  injection this with this
  exact hr this
theorem root_size' (l : List ByteArray) : (root sum l).size = 32 := root_size sum sum_size l
theorem ext_sizes : ∀ (k : Nat) (l : List ByteArray) (m : Nat) (w : Bool), ∀ x ∈ extF sum k l m w, x.size = 32
  | 0, _, _, _, x, hx => by simp [extF] at hx
  | k + 1, l, m, w, x, hx => by
    unfold extF at hx
    split at hx
    · split at hx
      · simp at hx
      · simp at hx; rw [hx]; exact root_size' _
    · split at hx
      · rcases List.mem_cons.1 hx with rfl | hx
        · exact root_size' _
        · exact ext_sizes k _ _ _ x hx
      · rcases List.mem_cons.1 hx with rfl | hx
        · exact root_size' _
        · exact ext_sizes k _ _ _ x hx
theorem extX_sizes (X : List SX) (m : Nat) : ∀ x ∈ extX X m, x.size = 32 := by
  intro x hx
  unfold extX at hx
  split at hx
  · simp at hx
  · exact ext_sizes _ _ _ _ x (List.mem_reverse.1 hx)
theorem entsF_take : ∀ (l : List ByteArray) (hd : ByteArray) (m : Nat), entsF hd (l.take m) = (entsF hd l).take m
  | [], _, m => by cases m <;> rfl
  | e :: r, hd, 0 => rfl
  | e :: r, hd, m + 1 => by rw [List.take_succ_cons, entsF, entsF, List.take_succ_cons, entsF_take r]
theorem encsX_take (X : List SX) (m : Nat) : encsX (X.take m) = (encsX X).take m := by simp [encsX, List.map_take]
theorem entsX_take (X : List SX) (m : Nat) : entsX (X.take m) = (entsX X).take m := by rw [entsX, encsX_take, entsF_take]; rfl
theorem extF_length : ∀ (k : Nat) (l : List ByteArray) (m : Nat) (w : Bool), (extF sum k l m w).length ≤ k
  | 0, _, _, _ => Nat.le_refl _
  | k + 1, l, m, w => by
    unfold extF
    split
    · split <;> simp
    · split
      · rw [List.length_cons]; have := extF_length k (l.take (lft l.length)) m w; omega
      · rw [List.length_cons]; have := extF_length k (l.drop (lft l.length)) (m - lft l.length) false; omega
theorem extX_length (X : List SX) (m : Nat) : (extX X m).length ≤ X.length := by
  unfold extX
  split
  · simp
  · rw [List.length_reverse]
    have := extF_length (entsX X).length (entsX X) m true
    rw [entsX_length] at this
    unfold ext
    rw [entsX_length]
    exact this
theorem path_len (X : List SX) (i : Nat) : (path sum (entsX X) i).reverse.length ≤ X.length := by
  rw [List.length_reverse, path, path_length]
  have := depth_le (entsX X).length (entsX X).length i
  rw [entsX_length] at this
  rw [entsX_length]; exact this
/-- An extension connects the two roots. -/
theorem ext_verifies {X Y : List SX} {m : Nat} (hm : m ≤ X.length) (hY : Y.map (·.2) = (X.take m).map (·.2)) : verX (root sum (entsX Y)) m (root sum (entsX X)) X.length (extX X m) = true := by
  have eY : entsX Y = (entsX X).take m := by rw [entsX_of hY, entsX_take]
  have hel := entsX_length X
  rw [eY]
  unfold verX
  by_cases h0 : m = 0
  · subst h0
    rw [if_pos rfl, List.take_zero]
    simp [extX, root_nil]
  rw [if_neg h0]
  have hex : extX X m = (ext sum (entsX X) m true).reverse := if_neg h0
  by_cases h1 : m = X.length
  · rw [if_pos h1, hex, ext_done sum (by omega) (by omega), List.take_of_length_le (by omega)]
    simp
  · rw [if_neg h1, hex, List.reverse_reverse]
    have := both_ext sum (root sum ((entsX X).take m)) (entsX X).length (entsX X) m true (Nat.le_refl _) (by omega) (by omega) (fun _ => rfl)
    rw [hel] at this
    exact decide_eq_true (by unfold ext; rw [hel]; exact this)
end Go.Proofs.YtnadipjlhlbfoaaDoor
namespace Go.Proofs.YtnadipjlhlbfoaaDoor
set_option linter.all false
open Go Go.RowKit
set_option maxRecDepth 100000
def sane1 : List Stm := [oneS 5 1]
def sane3 : List Stm := [oneS 5 1, oneS 6 1, oneS 7 2]
theorem head1 : (root sum (entsF zero32 (sane1.map encS))).data.toList.head? = some 215 := by decide +kernel
theorem head3 : (root sum (entsF zero32 (sane3.map encS))).data.toList.head? = some 252 := by decide +kernel
theorem ents_of {X : List SX} {l : List Stm} (h : X.map (·.2) = l) : entsX X = entsF zero32 (l.map encS) := by
  rw [← h, entsX, encsX, List.map_map]; rfl
theorem sane_ne {X Y : List SX} (hX : X.map (·.2) = sane3) (hY : Y.map (·.2) = sane1) : root sum (entsX X) ≠ root sum (entsX Y) := by
  rw [ents_of hX, ents_of hY]
  intro e
  have h1 := head1
  rw [← e, head3] at h1
  exact absurd h1 (by decide)
theorem sane_ok : ∀ s ∈ sane3, okS s = true ∧ s.ls.length ≤ 1000000 := by decide +kernel
end Go.Proofs.YtnadipjlhlbfoaaDoor
namespace Go.Proofs.YtnadipjlhlbfoaaDoor
set_option linter.all false
open Go Go.RowKit
set_option maxRecDepth 100000
theorem w_rootE {w : World} {g : Nat} {z : LZ} (X : List SX) (hL : LogAt w g z X) (hXl : ∀ x ∈ X, x.2.ls.length ≤ 1000000) (hl : X.length ≤ 1000000) (hG : Rounds w) : Calls Tryd.prog 15 #[.pointer (some ⟨g, 0, none⟩)] w (fun e w' => e = .returned (.string (root sum (entsX X))) ∧ SL w [] w' []) :=
  w_logRoot X (entsX X) .empty hL.c0 hL.c1 hG hL.rE (by rw [entsX_length]; exact hl) (entsX_sizes hXl)
theorem w_stmtsE {w : World} {g : Nat} {z : LZ} (X : List SX) (hL : LogAt w g z X) (hXl : ∀ x ∈ X, x.2.ls.length ≤ 1000000) (hl : X.length ≤ 1000000) : Calls Tryd.prog 14 #[.pointer (some ⟨g, 0, none⟩)] w (fun e w' => ∃ z : (Option Addr × Nat) × List SX, z.2.map (·.2) = X.map (fun x : SX => x.2) ∧ e = .returned (.slice z.1.1 z.2.length z.1.2) ∧ SL w [] w' [.row z.1.1 z.1.2 34 3 (List.map stC z.2), pack (lns z.2)]) :=
  w_stmts X (entsX X) .empty hL.c0 hL.c1 hL.rX hL.rL hXl hl
end Go.Proofs.YtnadipjlhlbfoaaDoor
namespace Go.Proofs.YtnadipjlhlbfoaaDoor
set_option linter.all false
open Go Go.RowKit
set_option maxRecDepth 100000
theorem ent_15 : ∀ args w, (callFunc 15 args).run Tryd.prog w = .ok (.enter 15 args) w := enters_of Tryd.func15 (by kernel_rfl) rfl
theorem ent_31 : ∀ args w, (callFunc 31 args).run Tryd.prog w = .ok (.enter 31 args) w := enters_of Tryd.func31 (by kernel_rfl) rfl
theorem ent_16 : ∀ args w, (callFunc 16 args).run Tryd.prog w = .ok (.enter 16 args) w := enters_of Tryd.func16 (by kernel_rfl) rfl
theorem ent_25 : ∀ args w, (callFunc 25 args).run Tryd.prog w = .ok (.enter 25 args) w := enters_of Tryd.func25 (by kernel_rfl) rfl
theorem ent_18 : ∀ args w, (callFunc 18 args).run Tryd.prog w = .ok (.enter 18 args) w := enters_of Tryd.func18 (by kernel_rfl) rfl
theorem ent_26 : ∀ args w, (callFunc 26 args).run Tryd.prog w = .ok (.enter 26 args) w := enters_of Tryd.func26 (by kernel_rfl) rfl
theorem ent_14 : ∀ args w, (callFunc 14 args).run Tryd.prog w = .ok (.enter 14 args) w := enters_of Tryd.func14 (by kernel_rfl) rfl
theorem ent_9 : ∀ args w, (callFunc 9 args).run Tryd.prog w = .ok (.enter 9 args) w := enters_of Tryd.func9 (by kernel_rfl) rfl
theorem ent_10 : ∀ args w, (callFunc 10 args).run Tryd.prog w = .ok (.enter 10 args) w := enters_of Tryd.func10 (by kernel_rfl) rfl
theorem ent_13 : ∀ args w, (callFunc 13 args).run Tryd.prog w = .ok (.enter 13 args) w := enters_of Tryd.func13 (by kernel_rfl) rfl
theorem ent_19 : ∀ args w, (callFunc 19 args).run Tryd.prog w = .ok (.enter 19 args) w := enters_of Tryd.func19 (by kernel_rfl) rfl
theorem ent_20 : ∀ args w, (callFunc 20 args).run Tryd.prog w = .ok (.enter 20 args) w := enters_of Tryd.func20 (by kernel_rfl) rfl
theorem entsX_nil : entsX [] = [] := rfl
attribute [local irreducible] sum root entsX
set_option maxRecDepth 100000 in
theorem w_sane {w : World} (hG : Rounds w) :
    Calls Tryd.prog 9 #[] w (fun e w' => e = .returned (.bool true) ∧ SL w [] w' []) := by
  refine calls_of_CX (O := []) (L := []) (args := []) Tryd.func9 rfl (by simp [Tryd.ntmps9]) (SL.refl w) ?_
  refine CX.sub (V' := []) trivial ?_
  refine CX.seq ?_
  refine CX.region ?_
  refine RX.cons rfl rfl (op_w (yw_assign rfl rfl) rfl rfl ?_)
  refine RX.nil (XX.next (V' := []) trivial ?_)
  refine CX.seq ?_
  refine CX.region ?_
  refine RX.cons rfl rfl (op_callE rfl rfl rfl rfl rfl ent_11 (fun w hw => w_newE) (fun zx _ => ?_))
  refine RX.cons rfl rfl (op_w (yw_assign rfl rfl) rfl rfl ?_)
  refine RX.nil (XX.next (V' := [(1, .pointer (some ⟨zx, 0, none⟩))]) ⟨rfl, trivial⟩ ?_)
  refine CX.seq ?_
  refine CX.seq ?_
  refine CX.region ?_
  refine RX.cons rfl rfl (op_w (yw_move rfl rfl) rfl rfl ?_)
  refine RX.cons rfl rfl (op_w (yw_ptrSome rfl ptrt_25 rfl rfl) rfl rfl ?_)
  refine RX.nil (XX.next (V' := [(1, .pointer (some ⟨zx, 0, none⟩)), (17, .bool false)]) ⟨rfl, rfl, trivial⟩ ?_)
  refine CX.condF rfl ?_
  refine CX.skip (XX.next (V' := [(1, .pointer (some ⟨zx, 0, none⟩))]) ⟨rfl, trivial⟩ ?_)
  refine CX.seq ?_
  refine CX.region ?_
  refine RX.cons rfl rfl (op_w (yw_move rfl rfl) rfl rfl ?_)
  refine RX.cons rfl rfl (op_callV (v := .string (root sum (entsX ([])))) rfl rfl rfl rfl rfl ent_15 (fun w hw => w_rootE ([]) (hw.logAt (i := 0) rfl) (by simp) (by decide) (hG.keep hw (by simp))) ?_)
  refine RX.cons rfl rfl (op_callV (v := .string (root sum [])) rfl rfl rfl rfl rfl ent_30 (fun w hw => w_root [] (hG.keep hw (by simp)) (Rd.nil _ _ _) (by decide) (by simp)) ?_)
  refine RX.cons rfl rfl (op_w (yw_streq rfl rfl rfl) rfl rfl ?_)
  refine RX.know (t := 21) (u := .bool true) rfl (congrArg Value.bool (decide_eq_true (by rw [entsX_nil]))) ?_
  refine RX.cons rfl rfl (op_w (yw_assign rfl rfl) rfl rfl ?_)
  refine RX.nil (XX.next (V' := [(1, .pointer (some ⟨zx, 0, none⟩)), (2, .bool true)]) ⟨rfl, rfl, trivial⟩ ?_)
  refine CX.seq ?_
  refine CX.region ?_
  refine RX.cons rfl rfl (op_w (yw_move rfl rfl) rfl rfl ?_)
  refine RX.cons rfl rfl (op_callE rfl rfl rfl rfl rfl ent_31 (fun w hw => w_one 5 1 (by decide) (by decide)) (fun o1 _ => ?_))
  refine RX.cons rfl rfl (op_buildSlice rfl rfl rfl slb_22 rfl rfl (by intro v hv; simp only [List.mem_cons, List.not_mem_nil, or_false] at hv; subst hv; exact ⟨rfl, (plain_of rfl)⟩) (by decide) fun r1 => ?_)
  refine RX.cons rfl rfl (op_callP [logE zx (((none, 0), (none, 0)) : LZ) ([])] [.row (some ⟨r1, 0, none⟩) 1 34 3 (List.map stC ([(((some ⟨o1, 0, none⟩, 1), oneS 5 1) : SX)])), .row (some ⟨o1, 0, none⟩) 1 57 3 (List.map lnC (Stm.ls (oneS 5 1)))] rfl rfl rfl rfl rfl ent_12 ((perm_pick 2 rfl).trans (List.Perm.cons _ (List.Perm.refl _))) (σ := LZ × List SX) (val := fun _ => .int .i64 0) (LL := fun y => [logE zx y.1 ([] ++ y.2)]) (post := fun y => y.2.map (fun x : SX => x.2) = ([(((some ⟨o1, 0, none⟩, 1), oneS 5 1) : SX)]).map (fun x : SX => x.2)) (fun w hw hs => w_appendE ([]) ([(((some ⟨o1, 0, none⟩, 1), oneS 5 1) : SX)]) (Ent.rd (hw.ents _ (List.mem_of_getElem? (i := 1) rfl))) (by intro x hx; simp only [List.mem_cons, List.not_mem_nil, or_false] at hx; subst hx; · exact Ent.rd (hw.ents _ (List.mem_of_getElem? (i := 2) rfl))) (fun _ => hw.apartA (hw.no0 (by simp) hG) 0 rfl) (by intro x hx _; simp only [List.mem_cons, List.not_mem_nil, or_false] at hx; subst hx; · exact hw.apartA (hw.no0 (by simp) hG) 1 rfl) (of_snd (l := [oneS 5 1]) (p := fun s => s.ls.length ≤ 1000000) rfl (by decide)) (Nat.le_of_ble_eq_true rfl) hs (hG.keep hw (by simp)) (hw.no0 (by simp) hG) (of_snd (l := [oneS 5 1]) (p := fun s => okS s = true) rfl (by decide)) (Nat.le_of_ble_eq_true rfl)) (fun za hza => ?_))
  have hX1 : (([] ++ za.2) : List SX).map (·.2) = sane1 := hza
  have hXl1 := of_snd (p := fun s => s.ls.length ≤ 1000000) hX1 (by decide)
  have hn1 : (([] ++ za.2) : List SX).length = 1 := len_snd hX1
  refine RX.cons rfl rfl (op_w (yw_assign rfl rfl) rfl rfl ?_)
  refine RX.nil (XX.next (V' := [(1, .pointer (some ⟨zx, 0, none⟩)), (2, .bool true), (3, .int .i64 0)]) ⟨rfl, rfl, rfl, trivial⟩ ?_)
  refine CX.seq ?_
  refine CX.region ?_
  refine RX.cons rfl rfl (op_w (yw_move rfl rfl) rfl rfl ?_)
  refine RX.cons rfl rfl (op_callV (v := .string (root sum (entsX ([] ++ za.2)))) rfl rfl rfl rfl rfl ent_15 (fun w hw => w_rootE ([] ++ za.2) (hw.logAt (i := 0) rfl) hXl1 (by omega) (hG.keep hw (by simp))) ?_)
  refine RX.cons rfl rfl (op_w (yw_assign rfl rfl) rfl rfl ?_)
  refine RX.nil (XX.next (V' := [(1, .pointer (some ⟨zx, 0, none⟩)), (2, .bool true), (3, .int .i64 0), (4, .string (root sum (entsX ([] ++ za.2))))]) ⟨rfl, rfl, rfl, rfl, trivial⟩ ?_)
  refine CX.seq ?_
  refine CX.region ?_
  refine RX.cons rfl rfl (op_w (yw_move rfl rfl) rfl rfl ?_)
  refine RX.cons rfl rfl (op_callE rfl rfl rfl rfl rfl ent_31 (fun w hw => w_one 6 1 (by decide) (by decide)) (fun o2 _ => ?_))
  refine RX.cons rfl rfl (op_callE rfl rfl rfl rfl rfl ent_31 (fun w hw => w_one 7 2 (by decide) (by decide)) (fun o3 _ => ?_))
  refine RX.cons rfl rfl (op_buildSlice rfl rfl rfl slb_22 rfl rfl (by intro v hv; simp only [List.mem_cons, List.not_mem_nil, or_false] at hv; rcases hv with rfl | rfl <;> exact ⟨rfl, (plain_of rfl)⟩) (by decide) fun r2 => ?_)
  refine RX.cons rfl rfl (op_callP [logE zx za.1 ([] ++ za.2)] [.row (some ⟨r2, 0, none⟩) 2 34 3 (List.map stC ([(((some ⟨o2, 0, none⟩, 1), oneS 6 1) : SX), (((some ⟨o3, 0, none⟩, 1), oneS 7 2) : SX)])), .row (some ⟨o3, 0, none⟩) 1 57 3 (List.map lnC (Stm.ls (oneS 7 2))), .row (some ⟨o2, 0, none⟩) 1 57 3 (List.map lnC (Stm.ls (oneS 6 1))), .row (some ⟨r1, 0, none⟩) 1 34 3 (List.map stC ([(((some ⟨o1, 0, none⟩, 1), oneS 5 1) : SX)])), .row (some ⟨o1, 0, none⟩) 1 57 3 (List.map lnC (Stm.ls (oneS 5 1)))] rfl rfl rfl rfl rfl ent_12 ((perm_pick 3 rfl).trans (List.Perm.cons _ (List.Perm.refl _))) (σ := LZ × List SX) (val := fun _ => .int .i64 0) (LL := fun y => [logE zx y.1 (([] ++ za.2) ++ y.2)]) (post := fun y => y.2.map (fun x : SX => x.2) = ([(((some ⟨o2, 0, none⟩, 1), oneS 6 1) : SX), (((some ⟨o3, 0, none⟩, 1), oneS 7 2) : SX)]).map (fun x : SX => x.2)) (fun w hw hs => w_appendE ([] ++ za.2) ([(((some ⟨o2, 0, none⟩, 1), oneS 6 1) : SX), (((some ⟨o3, 0, none⟩, 1), oneS 7 2) : SX)]) (Ent.rd (hw.ents _ (List.mem_of_getElem? (i := 1) rfl))) (by intro x hx; simp only [List.mem_cons, List.not_mem_nil, or_false] at hx; rcases hx with rfl | rfl; exact Ent.rd (hw.ents _ (List.mem_of_getElem? (i := 3) rfl)); exact Ent.rd (hw.ents _ (List.mem_of_getElem? (i := 2) rfl))) (fun _ => hw.apartA (hw.no0 (by simp) hG) 0 rfl) (by intro x hx _; simp only [List.mem_cons, List.not_mem_nil, or_false] at hx; rcases hx with rfl | rfl; exact hw.apartA (hw.no0 (by simp) hG) 2 rfl; exact hw.apartA (hw.no0 (by simp) hG) 1 rfl) (of_snd (l := [oneS 6 1, oneS 7 2]) (p := fun s => s.ls.length ≤ 1000000) rfl (by decide)) (Nat.le_of_ble_eq_true rfl) hs (hG.keep hw (by simp)) (hw.no0 (by simp) hG) (of_snd (l := [oneS 6 1, oneS 7 2]) (p := fun s => okS s = true) rfl (by decide)) (by rw [hn1]; exact Nat.le_of_ble_eq_true rfl)) (fun zb hzb => ?_))
  have hX3 : ((([] ++ za.2) ++ zb.2) : List SX).map (·.2) = sane3 := by rw [List.map_append, hX1, hzb]; rfl
  have hXl3 := of_snd (p := fun s => s.ls.length ≤ 1000000) hX3 (by decide)
  have hn3 : ((([] ++ za.2) ++ zb.2) : List SX).length = 3 := len_snd hX3
  obtain ⟨p0, hp0, hp2⟩ : ∃ p0 : SX, ((([] ++ za.2) ++ zb.2) : List SX)[1]? = some p0 ∧ p0.2 = oneS 6 1 := by
    have h8 := congrArg (fun l : List Stm => l[1]?) hX3
    rw [List.getElem?_map] at h8
    exact Option.map_eq_some_iff.1 h8
  refine RX.cons rfl rfl (op_w (yw_assign rfl rfl) rfl rfl ?_)
  refine RX.nil (XX.next (V' := [(1, .pointer (some ⟨zx, 0, none⟩)), (2, .bool true), (3, .int .i64 0), (4, .string (root sum (entsX ([] ++ za.2)))), (5, .int .i64 0)]) ⟨rfl, rfl, rfl, rfl, rfl, trivial⟩ ?_)
  refine CX.seq ?_
  refine CX.region ?_
  refine RX.cons rfl rfl (op_w (yw_move rfl rfl) rfl rfl ?_)
  refine RX.cons rfl rfl (op_callE rfl rfl rfl rfl rfl ent_16 (fun w hw => w_prove (([] ++ za.2) ++ zb.2) (hw.logAt (i := 0) rfl) hXl3 (by omega) (hG.keep hw (by simp)) 1 p0 hp0) (fun zq _ => ?_))
  refine RX.cons rfl rfl (op_w (yw_move rfl rfl) rfl rfl ?_)
  refine RX.cons rfl rfl (op_w (yw_extract rfl rfl rfl) rfl rfl ?_)
  refine RX.cons rfl rfl (op_w (yw_extract rfl rfl rfl) rfl rfl ?_)
  refine RX.cons rfl rfl (op_alloc rfl rfl rfl zero_37 fun g6 => ?_)
  refine RX.cons rfl rfl (op_storeAll (i := 0) rfl rfl rfl rfl szt_37 rfl (plain_of rfl) rfl rfl ?_)
  refine RX.cons rfl rfl (op_w (yw_assign rfl rfl) rfl rfl ?_)
  refine RX.nil (XX.next (V' := [(1, .pointer (some ⟨zx, 0, none⟩)), (2, .bool true), (3, .int .i64 0), (4, .string (root sum (entsX ([] ++ za.2)))), (5, .int .i64 0), (6, .pointer (some ⟨g6, 0, none⟩)), (7, .int .i64 0)]) ⟨rfl, rfl, rfl, rfl, rfl, rfl, rfl, trivial⟩ ?_)
  refine CX.seq ?_
  refine CX.region ?_
  refine RX.cons rfl rfl (op_w (yw_move rfl rfl) rfl rfl ?_)
  refine RX.cons rfl rfl (op_callV (v := .tuple #[.agg (#[.int .i64 0, .int .i64 0, .slice none 0 0, .int .i64 0, .int .i64 0, .string .empty, .slice none 0 0]), .int .i64 2]) rfl rfl rfl rfl rfl ent_16 (fun w hw => w_proveBad (([] ++ za.2) ++ zb.2) (hw.logAt (i := 3) rfl) hXl3 (by omega) 3 (.inr (by rw [hn3]; decide))) ?_)
  refine RX.cons rfl rfl (op_w (yw_move rfl rfl) rfl rfl ?_)
  refine RX.cons rfl rfl (op_w (yw_extract rfl rfl rfl) rfl rfl ?_)
  refine RX.cons rfl rfl (op_w (yw_extract rfl rfl rfl) rfl rfl ?_)
  refine RX.cons rfl rfl (op_alloc rfl rfl rfl zero_37 fun g8 => ?_)
  refine RX.cons rfl rfl (op_storeAll (i := 0) rfl rfl rfl rfl szt_37 rfl (plain_of rfl) rfl rfl ?_)
  refine RX.cons rfl rfl (op_w (yw_assign rfl rfl) rfl rfl ?_)
  refine RX.nil (XX.next (V' := [(1, .pointer (some ⟨zx, 0, none⟩)), (2, .bool true), (3, .int .i64 0), (4, .string (root sum (entsX ([] ++ za.2)))), (5, .int .i64 0), (6, .pointer (some ⟨g6, 0, none⟩)), (7, .int .i64 0), (9, .int .i64 2)]) ⟨rfl, rfl, rfl, rfl, rfl, rfl, rfl, rfl, trivial⟩ ?_)
  refine CX.seq ?_
  refine CX.region ?_
  refine RX.cons rfl rfl (op_w (yw_move rfl rfl) rfl rfl ?_)
  refine RX.cons rfl rfl (op_callE rfl rfl rfl rfl rfl ent_25 (fun w hw => w_logExt (([] ++ za.2) ++ zb.2) (hw.logAt (i := 4) rfl) hXl3 (by omega) (hG.keep hw (by simp)) 1 (by omega)) (fun ze _ => ?_))
  refine RX.cons rfl rfl (op_w (yw_move rfl rfl) rfl rfl ?_)
  refine RX.cons rfl rfl (op_w (yw_extract rfl rfl rfl) rfl rfl ?_)
  refine RX.cons rfl rfl (op_w (yw_extract rfl rfl rfl) rfl rfl ?_)
  refine RX.cons rfl rfl (op_w (yw_assign rfl rfl) rfl rfl ?_)
  refine RX.cons rfl rfl (op_w (yw_assign rfl rfl) rfl rfl ?_)
  refine RX.nil (XX.next (V' := [(1, .pointer (some ⟨zx, 0, none⟩)), (2, .bool true), (3, .int .i64 0), (4, .string (root sum (entsX ([] ++ za.2)))), (5, .int .i64 0), (6, .pointer (some ⟨g6, 0, none⟩)), (7, .int .i64 0), (9, .int .i64 2), (10, .slice ze.1 (List.length (extX (([] ++ za.2) ++ zb.2) 1 : List ByteArray)) ze.2), (11, .int .i64 0)]) ⟨rfl, rfl, rfl, rfl, rfl, rfl, rfl, rfl, rfl, rfl, trivial⟩ ?_)
  refine CX.seq ?_
  refine CX.region ?_
  refine RX.cons rfl rfl (op_w (yw_move rfl rfl) rfl rfl ?_)
  refine RX.cons rfl rfl (op_callV (v := .tuple #[.slice none 0 0, .int .i64 2]) rfl rfl rfl rfl rfl ent_25 (fun w hw => w_logExtBad (([] ++ za.2) ++ zb.2) (hw.logAt (i := 5) rfl) hXl3 (by omega) 4 (.inr (by rw [hn3]; decide))) ?_)
  refine RX.cons rfl rfl (op_w (yw_move rfl rfl) rfl rfl ?_)
  refine RX.cons rfl rfl (op_w (yw_extract rfl rfl rfl) rfl rfl ?_)
  refine RX.cons rfl rfl (op_w (yw_extract rfl rfl rfl) rfl rfl ?_)
  refine RX.cons rfl rfl (op_w (yw_assign rfl rfl) rfl rfl ?_)
  refine RX.cons rfl rfl (op_w (yw_assign rfl rfl) rfl rfl ?_)
  refine RX.nil (XX.next (V' := [(1, .pointer (some ⟨zx, 0, none⟩)), (2, .bool true), (3, .int .i64 0), (4, .string (root sum (entsX ([] ++ za.2)))), (5, .int .i64 0), (6, .pointer (some ⟨g6, 0, none⟩)), (7, .int .i64 0), (9, .int .i64 2), (10, .slice ze.1 (List.length (extX (([] ++ za.2) ++ zb.2) 1 : List ByteArray)) ze.2), (11, .int .i64 0), (13, .int .i64 2)]) ⟨rfl, rfl, rfl, rfl, rfl, rfl, rfl, rfl, rfl, rfl, rfl, trivial⟩ ?_)
  refine CX.seq ?_
  refine CX.region ?_
  refine RX.cons rfl rfl (op_w (yw_move rfl rfl) rfl rfl ?_)
  refine RX.cons rfl rfl (op_w (yw_build (v := .agg (#[.int .i64 (-1), .int .i64 0, .slice none 0 0])) rfl rfl (fun _ => by kernel_rfl)) rfl rfl ?_)
  refine RX.cons rfl rfl (op_buildSlice rfl rfl rfl slb_22 rfl rfl (by intro v hv; simp only [List.mem_cons, List.not_mem_nil, or_false] at hv; subst hv; exact ⟨rfl, (plain_of rfl)⟩) (by decide) fun r3 => ?_)
  refine RX.cons rfl rfl (op_callP [logE zx zb.1 (([] ++ za.2) ++ zb.2)] [.row (some ⟨r3, 0, none⟩) 1 34 3 (List.map stC ([(((none, 0), ⟨-1, 0, []⟩) : SX)])), .row ze.1 ze.2 9 1 (List.map strC (extX (([] ++ za.2) ++ zb.2) 1)), .blk g8 (.cells (#[.int .i64 0, .int .i64 0, .slice none 0 0, .int .i64 0, .int .i64 0, .string .empty, .slice none 0 0]) 37 (0, 0)), .blk g6 (.cells (prC p0.2 1 (List.length ((([] ++ za.2) ++ zb.2) : List SX)) (saltX (([] ++ za.2) ++ zb.2) 1) ((path sum (entsX (([] ++ za.2) ++ zb.2)) 1).reverse) zq) 37 (0, 0)), .row zq.1.1 zq.1.2 57 3 (List.map lnC (Stm.ls p0.2)), .row zq.2.1 zq.2.2 9 1 (List.map strC ((path sum (entsX (([] ++ za.2) ++ zb.2)) 1).reverse)), .row (some ⟨r2, 0, none⟩) 2 34 3 (List.map stC ([(((some ⟨o2, 0, none⟩, 1), oneS 6 1) : SX), (((some ⟨o3, 0, none⟩, 1), oneS 7 2) : SX)])), .row (some ⟨o3, 0, none⟩) 1 57 3 (List.map lnC (Stm.ls (oneS 7 2))), .row (some ⟨o2, 0, none⟩) 1 57 3 (List.map lnC (Stm.ls (oneS 6 1))), .row (some ⟨r1, 0, none⟩) 1 34 3 (List.map stC ([(((some ⟨o1, 0, none⟩, 1), oneS 5 1) : SX)])), .row (some ⟨o1, 0, none⟩) 1 57 3 (List.map lnC (Stm.ls (oneS 5 1)))] rfl rfl rfl rfl rfl ent_12 ((perm_pick 6 rfl).trans (List.Perm.cons _ (List.Perm.refl _))) (σ := Unit) (val := fun _ => .int .i64 240) (LL := fun _ => [logE zx zb.1 (([] ++ za.2) ++ zb.2)]) (post := fun _ => True) (fun w hw hs => (w_appendBadE (([] ++ za.2) ++ zb.2) ([(((none, 0), ⟨-1, 0, []⟩) : SX)]) (Ent.rd (hw.ents _ (List.mem_of_getElem? (i := 1) rfl))) (by intro x hx; simp only [List.mem_singleton] at hx; subst hx; exact Rd.nil _ _ _) (fun _ => hw.apartA (hw.no0 (by simp) hG) 0 rfl) (by intro x hx h; simp only [List.mem_singleton] at hx; subst hx; exact absurd rfl h) (by intro x hx; simp only [List.mem_singleton] at hx; subst hx; exact Nat.le_of_ble_eq_true rfl) (by decide) hs (by intro h; exact absurd (h _ List.mem_cons_self) (by decide))).mono fun e w' h => ⟨(), trivial, h⟩) (fun _ _ => ?_))
  refine RX.cons rfl rfl (op_w (yw_assign rfl rfl) rfl rfl ?_)
  refine RX.nil (XX.next (V' := [(1, .pointer (some ⟨zx, 0, none⟩)), (2, .bool true), (3, .int .i64 0), (4, .string (root sum (entsX ([] ++ za.2)))), (5, .int .i64 0), (6, .pointer (some ⟨g6, 0, none⟩)), (7, .int .i64 0), (9, .int .i64 2), (10, .slice ze.1 (List.length (extX (([] ++ za.2) ++ zb.2) 1 : List ByteArray)) ze.2), (11, .int .i64 0), (13, .int .i64 2), (14, .int .i64 240)]) ⟨rfl, rfl, rfl, rfl, rfl, rfl, rfl, rfl, rfl, rfl, rfl, rfl, trivial⟩ ?_)
  refine CX.seq ?_
  refine CX.draw 77 [(0, 4, 144115188075855872), (1, 144115188075855872, 288230376151711744), (2, 288230376151711752, 576460752303423488), (6, 864691128455135232, 1152921504606846976), (10, 1441151880758558720, 2305843009213693952), (18, 2305843009213693952, 4611686018427387904), (32, 4611686018427387936, 9223372036854775808), (96, 13835058055282163712, 18446744073709551616), (160, 23058430092136939520, 36893488147419103232), (288, 36893488147419103232, 73786976294838206464), (512, 73786976294838206592, 147573952589676412928), (1536, 221360928884514619392, 295147905179352825856), (2560, 368934881474191032320, 590295810358705651712), (4608, 590295810358705651712, 1180591620717411303424), (8192, 1180591620717411303488, 2361183241434822606848), (24576, 3541774862152233910272, 4722366482869645213696), (40960, 5902958103587056517120, 9444732965739290427392), (73728, 10625324586456701730816, 18889465931478580854784), (139264, 18889465931478580854784, 37778931862957161709568), (262144, 37778931862957161709632, 75557863725914323419136), (786432, 113336795588871485128704, 151115727451828646838272), (1310720, 188894659314785808547840, 302231454903657293676544), (2359296, 340010386766614455386112, 604462909807314587353088), (4456448, 604462909807314587353088, 1208925819614629174706176), (8388608, 1208925819614629174706240, 2417851639229258349412352), (25165824, 3626777458843887524118528, 4835703278458516698824704), (41943040, 6044629098073145873530880, 9671406556917033397649408), (75497472, 10880332376531662572355584, 19342813113834066795298816), (142606336, 20551738933448695970004992, 38685626227668133590597632), (276824064, 38685626227668133590597632, 77371252455336267181195264), (536870912, 77371252455336267181195328, 154742504910672534362390528), (1610612736, 232113757366008801543585792, 309485009821345068724781056), (2684354560, 386856262276681335905976320, 618970019642690137449562112), (4831838208, 696341272098026404630757376, 1237940039285380274899124224), (9126805504, 1315311291740716542080319488, 2475880078570760549798248448), (17716740096, 2475880078570760549798248448, 4951760157141521099596496896), (34359738368, 4951760157141521099596496898, 9903520314283042199192993792), (103079215104, 14855280471424563298789490688, 19807040628566084398385987584), (34359738368, 4951760157141521099596496960, 39614081257132168796771975168), (446676598784, 64372882042839774294754459648, 79228162514264337593543950336), (584115552256, 84179922671405858693140447232, 158456325028528675187087900672), (1649267441664, 158456325028528675187087900672, 316912650057057350374175801344), (2199023255552, 316912650057057350374175801360, 633825300114114700748351602688), (2199023255552, 316912650057057350374175801408, 1267650600228229401496703205376), (15393162788864, 2218388550399401452619230609408, 2535301200456458802993406410752), (19791209299968, 2852213850513516153367582212096, 5070602400912917605986812821504), (37383395344384, 5387515050969974956360988622848, 10141204801825835211973625643008), (87960930222080, 10141204801825835211973625643008, 20282409603651670423947251286016), (140737488355328, 20282409603651670423947251286528, 40564819207303340847894502572032), (422212465065984, 60847228810955011271841753858048, 81129638414606681695789005144064), (703687441776640, 101412048018258352119736256430080, 162259276829213363391578010288128), (1266637395197952, 162259276829213363391578010288128, 324518553658426726783156020576256), (2251799813685248, 324518553658426726783156020578304, 649037107316853453566312041152512), (6755399441055744, 973555660975280180349468061728768, 1298074214633706907132624082305024), (11258999068426240, 1622592768292133633915780102881280, 2596148429267413814265248164610048), (20266198323167232, 2596148429267413814265248164610048, 5192296858534827628530496329220096), (36028797018963968, 5192296858534827628530496329220112, 10384593717069655257060992658440192), (36028797018963968, 5192296858534827628530496329220098, 20769187434139310514121985316880384), (180143985094819840, 25961484292674138142652481646100480, 41538374868278621028243970633760768), (36028797018963968, 5192296858534827628530496329221120, 83076749736557242056487941267521536), (972777519512027136, 140192015180440345970323400888942592, 166153499473114484112975882535043072), (1188950301625810944, 171345796331649311741506378864263168, 332306998946228968225951765070086144), (3458764513820540928, 332306998946228968225951765070086144, 664613997892457936451903530140172288), (4611686018427387904, 664613997892457936451903530140180480, 1329227995784915872903807060280344576), (13835058055282163712, 1993841993677373809355710590420516864, 2658455991569831745807614120560689152), (23058430092136939520, 3323069989462289682259517650700861440, 5316911983139663491615228241121378304), (41505174165846491136, 5316911983139663491615228241121378304, 10633823966279326983230456482242756608), (73786976294838206464, 10633823966279326983230456482242772992, 21267647932558653966460912964485513216), (221360928884514619392, 31901471898837980949691369446728269824, 42535295865117307932921825928971026432), (368934881474191032320, 53169119831396634916152282411213783040, 85070591730234615865843651857942052864), (664082786653543858176, 85070591730234615865843651857942052864, 170141183460469231731687303715884105728), (1180591620717411303424, 170141183460469231731687303715884105730, 340282366920938463463374607431768211456), (3541774862152233910272, 510423550381407695195061911147652317184, 680564733841876926926749214863536422912), (5902958103587056517120, 850705917302346158658436518579420528640, 1361129467683753853853498429727072845824), (10625324586456701730816, 1531270651144223085585185733442956951552, 2722258935367507707706996859454145691648), (20070057552195992158208, 2892400118827976939438684163170029797376, 5444517870735015415413993718908291383296), (75557863725914323419135, 5444517870735015415413993718908291383296, 1)] (by kernel_rfl) (by kernel_rfl) (by kernel_rfl) ?_
  refine DX.takeW 0 1 (by kernel_rfl) rfl rfl rfl rfl rfl (yw_move rfl rfl) ?_
  refine DX.takeW 1 3 (by kernel_rfl) rfl rfl rfl rfl rfl (yw_move rfl rfl) ?_
  refine DX.takeWG 2 7 (by kernel_rfl) rfl rfl rfl rfl rfl rfl rfl rfl (yw_move rfl rfl) ?_
  refine DX.takeWG 3 15 (by kernel_rfl) rfl rfl rfl rfl rfl rfl rfl rfl (yw_eql rfl rfl rfl) ?_
  refine DX.know (t := 60) (u := .bool true) rfl rfl ?_
  refine DX.takeW 4 31 (by kernel_rfl) rfl rfl rfl rfl rfl (yw_pickT rfl rfl rfl) ?_
  refine DX.takeW 5 63 (by kernel_rfl) rfl rfl rfl rfl rfl (yw_move rfl rfl) ?_
  refine DX.takeWG 6 127 (by kernel_rfl) rfl rfl rfl rfl rfl rfl rfl rfl (yw_move rfl rfl) ?_
  refine DX.takeWG 7 255 (by kernel_rfl) rfl rfl rfl rfl rfl rfl rfl rfl (yw_eql rfl rfl rfl) ?_
  refine DX.know (t := 64) (u := .bool true) rfl rfl ?_
  refine DX.takeW 8 511 (by kernel_rfl) rfl rfl rfl rfl rfl (yw_pickT rfl rfl rfl) ?_
  refine DX.takeW 9 1023 (by kernel_rfl) rfl rfl rfl rfl rfl (yw_move rfl rfl) ?_
  refine DX.takeWG 10 2047 (by kernel_rfl) rfl rfl rfl rfl rfl rfl rfl rfl (yw_move rfl rfl) ?_
  refine DX.takeWG 11 4095 (by kernel_rfl) rfl rfl rfl rfl rfl rfl rfl rfl (yw_eql rfl rfl rfl) ?_
  refine DX.know (t := 68) (u := .bool true) rfl rfl ?_
  refine DX.takeW 12 8191 (by kernel_rfl) rfl rfl rfl rfl rfl (yw_pickT rfl rfl rfl) ?_
  refine DX.takeW 13 16383 (by kernel_rfl) rfl rfl rfl rfl rfl (yw_move rfl rfl) ?_
  refine DX.takeWG 14 32767 (by kernel_rfl) rfl rfl rfl rfl rfl rfl rfl rfl (yw_fieldAddr rfl fld_37_1 rfl) ?_
  refine DX.takeG 15 65535 (by kernel_rfl) rfl rfl rfl rfl rfl rfl rfl rfl (List.Sublist.refl _) (y_load (i := 4) rfl rfl one_3 rfl rfl) ?_
  refine DX.takeWG 16 131071 (by kernel_rfl) rfl rfl rfl rfl rfl rfl rfl rfl (yw_eql rfl rfl rfl) ?_
  refine DX.know (t := 73) (u := .bool true) rfl (congrArg Value.bool (by decide)) ?_
  refine DX.takeW 17 262143 (by kernel_rfl) rfl rfl rfl rfl rfl (yw_pickT rfl rfl rfl) ?_
  refine DX.takeW 18 524287 (by kernel_rfl) rfl rfl rfl rfl rfl (yw_move rfl rfl) ?_
  refine DX.takeWG 19 1048575 (by kernel_rfl) rfl rfl rfl rfl rfl rfl rfl rfl (yw_fieldAddr rfl fld_37_2 rfl) ?_
  refine DX.takeG 20 2097151 (by kernel_rfl) rfl rfl rfl rfl rfl rfl rfl rfl (List.Sublist.refl _) (y_load (i := 4) rfl rfl one_3 rfl rfl) ?_
  refine DX.takeWG 21 4194303 (by kernel_rfl) rfl rfl rfl rfl rfl rfl rfl rfl (yw_eql rfl rfl rfl) ?_
  refine DX.know (t := 78) (u := .bool true) rfl (congrArg Value.bool (decide_eq_true (by omega))) ?_
  refine DX.takeW 22 8388607 (by kernel_rfl) rfl rfl rfl rfl rfl (yw_pickT rfl rfl rfl) ?_
  refine DX.takeW 23 16777215 (by kernel_rfl) rfl rfl rfl rfl rfl (yw_move rfl rfl) ?_
  refine DX.takeWG 24 33554431 (by kernel_rfl) rfl rfl rfl rfl rfl rfl rfl rfl (yw_field0 rfl fld_37_0 rfl) ?_
  refine DX.takeWG 25 67108863 (by kernel_rfl) rfl rfl rfl rfl rfl rfl rfl rfl (yw_field0 rfl fld_34_0 rfl) ?_
  refine DX.takeG 26 134217727 (by kernel_rfl) rfl rfl rfl rfl rfl rfl rfl rfl (List.Sublist.refl _) (y_load (i := 4) rfl rfl one_3 rfl rfl) ?_
  refine DX.takeWG 27 268435455 (by kernel_rfl) rfl rfl rfl rfl rfl rfl rfl rfl (yw_eql rfl rfl rfl) ?_
  refine DX.know (t := 84) (u := .bool true) rfl (congrArg Value.bool (decide_eq_true (by rw [hp2]; rfl))) ?_
  refine DX.takeW 28 536870911 (by kernel_rfl) rfl rfl rfl rfl rfl (yw_pickT rfl rfl rfl) ?_
  refine DX.takeW 29 1073741823 (by kernel_rfl) rfl rfl rfl rfl rfl (yw_move rfl rfl) ?_
  refine DX.takeWG 30 2147483647 (by kernel_rfl) rfl rfl rfl rfl rfl rfl rfl rfl (yw_fieldAddr rfl fld_37_3 rfl) ?_
  refine DX.takeG 31 4294967295 (by kernel_rfl) rfl rfl rfl rfl rfl rfl rfl rfl (List.Sublist.refl _) (y_load (i := 4) rfl rfl one_9 rfl rfl) ?_
  refine DX.takeWG 32 8589934591 (by kernel_rfl) rfl rfl rfl rfl rfl rfl rfl rfl (yw_lenStr rfl Tryd.underlying9 rfl) ?_
  refine DX.takeWG 33 17179869183 (by kernel_rfl) rfl rfl rfl rfl rfl rfl rfl rfl (yw_eql rfl rfl rfl) ?_
  refine DX.know (t := 90) (u := .bool true) rfl (congrArg Value.bool (decide_eq_true (by rw [saltX_size]; rfl))) ?_
  refine DX.takeW 34 34359738367 (by kernel_rfl) rfl rfl rfl rfl rfl (yw_pickT rfl rfl rfl) ?_
  refine DX.takeW 35 68719476735 (by kernel_rfl) rfl rfl rfl rfl rfl (yw_move rfl rfl) ?_
  refine DX.takeWG 36 137438953471 (by kernel_rfl) rfl rfl rfl rfl rfl rfl rfl rfl (yw_move rfl rfl) ?_
  refine DX.takeG 38 412316860415 (by kernel_rfl) rfl rfl rfl rfl rfl rfl rfl rfl (List.Sublist.refl _) (y_loadA (i := 4) rfl rfl agg_37 rfl rfl) ?_
  refine DX.stepG 37 549755813887 (by kernel_rfl) rfl rfl rfl rfl rfl rfl (op_callV (v := .string (root sum (entsX (([] ++ za.2) ++ zb.2)))) rfl rfl rfl rfl rfl ent_15 (fun w hw => w_rootE (([] ++ za.2) ++ zb.2) (hw.logAt (i := 0) rfl) hXl3 (by omega) (hG.keep hw (by simp))) (DXs.mk (List.Sublist.refl _) ?_))
  refine DX.stepG 39 1099511627775 (by kernel_rfl) rfl rfl rfl rfl rfl rfl (op_callV (v := .bool (okS p0.2 && (decide (ByteArray.size (saltX (([] ++ za.2) ++ zb.2) 1) = 32) && verN (root sum (entsX (([] ++ za.2) ++ zb.2))) (List.length ((([] ++ za.2) ++ zb.2) : List SX)) 1 ((saltX (([] ++ za.2) ++ zb.2) 1) ++ encS p0.2) ((path sum (entsX (([] ++ za.2) ++ zb.2)) 1).reverse)))) rfl rfl rfl rfl rfl ent_18 (fun w hw => w_logVerify (root sum (entsX (([] ++ za.2) ++ zb.2))) p0.2 1 (List.length ((([] ++ za.2) ++ zb.2) : List SX)) (saltX (([] ++ za.2) ++ zb.2) 1) ((path sum (entsX (([] ++ za.2) ++ zb.2)) 1).reverse) zq (hG.keep hw (by simp)) (Ent.rd (hw.ents _ (List.mem_of_getElem? (i := 5) rfl))) (by rw [hp2]; decide) (Ent.rd (hw.ents _ (List.mem_of_getElem? (i := 6) rfl))) (by have h8 := Ent.capLe (hw.ents _ (List.mem_of_getElem? (i := 6) rfl)); rwa [List.length_map] at h8) (by have := path_len (([] ++ za.2) ++ zb.2) 1; omega) (by omega) (by omega) (by rw [saltX_size]; decide)) (DXs.mk (List.Sublist.refl _) ?_))
  refine DX.know (t := 96) (u := .bool true) rfl (congrArg Value.bool (by rw [hp2, show okS (oneS 6 1) = true from by decide, saltX_size, ← hp2, prove_verifies hp0]; rfl)) ?_
  refine DX.takeW 40 2199023255551 (by kernel_rfl) rfl rfl rfl rfl rfl (yw_pickT rfl rfl rfl) ?_
  refine DX.takeW 41 4398046511103 (by kernel_rfl) rfl rfl rfl rfl rfl (yw_move rfl rfl) ?_
  refine DX.takeWG 42 8796093022207 (by kernel_rfl) rfl rfl rfl rfl rfl rfl rfl rfl (yw_move rfl rfl) ?_
  refine DX.takeG 43 17592186044415 (by kernel_rfl) rfl rfl rfl rfl rfl rfl rfl rfl (List.Sublist.refl _) (y_loadA (i := 4) rfl rfl agg_37 rfl rfl) ?_
  refine DX.stepG 44 35184372088831 (by kernel_rfl) rfl rfl rfl rfl rfl rfl (op_callV (v := .bool (okS p0.2 && (decide (ByteArray.size (saltX (([] ++ za.2) ++ zb.2) 1) = 32) && verN (root sum (entsX ([] ++ za.2))) (List.length ((([] ++ za.2) ++ zb.2) : List SX)) 1 ((saltX (([] ++ za.2) ++ zb.2) 1) ++ encS p0.2) ((path sum (entsX (([] ++ za.2) ++ zb.2)) 1).reverse)))) rfl rfl rfl rfl rfl ent_18 (fun w hw => w_logVerify (root sum (entsX ([] ++ za.2))) p0.2 1 (List.length ((([] ++ za.2) ++ zb.2) : List SX)) (saltX (([] ++ za.2) ++ zb.2) 1) ((path sum (entsX (([] ++ za.2) ++ zb.2)) 1).reverse) zq (hG.keep hw (by simp)) (Ent.rd (hw.ents _ (List.mem_of_getElem? (i := 5) rfl))) (by rw [hp2]; decide) (Ent.rd (hw.ents _ (List.mem_of_getElem? (i := 6) rfl))) (by have h8 := Ent.capLe (hw.ents _ (List.mem_of_getElem? (i := 6) rfl)); rwa [List.length_map] at h8) (by have := path_len (([] ++ za.2) ++ zb.2) 1; omega) (by omega) (by omega) (by rw [saltX_size]; decide)) (DXs.mk (List.Sublist.refl _) ?_))
  refine DX.know (t := 101) (u := .bool false) rfl (congrArg Value.bool (by rw [prove_else hp0 (sane_ne hX3 hX1)]; simp)) ?_
  refine DX.takeWG 45 70368744177663 (by kernel_rfl) rfl rfl rfl rfl rfl rfl rfl rfl (yw_not rfl rfl) ?_
  refine DX.takeW 46 140737488355327 (by kernel_rfl) rfl rfl rfl rfl rfl (yw_pickT rfl rfl rfl) ?_
  refine DX.takeW 47 281474976710655 (by kernel_rfl) rfl rfl rfl rfl rfl (yw_move rfl rfl) ?_
  refine DX.takeWG 48 562949953421311 (by kernel_rfl) rfl rfl rfl rfl rfl rfl rfl rfl (yw_move rfl rfl) ?_
  refine DX.takeWG 49 1125899906842623 (by kernel_rfl) rfl rfl rfl rfl rfl rfl rfl rfl (yw_eql rfl rfl rfl) ?_
  refine DX.know (t := 106) (u := .bool true) rfl rfl ?_
  refine DX.takeW 50 2251799813685247 (by kernel_rfl) rfl rfl rfl rfl rfl (yw_pickT rfl rfl rfl) ?_
  refine DX.takeW 51 4503599627370495 (by kernel_rfl) rfl rfl rfl rfl rfl (yw_move rfl rfl) ?_
  refine DX.takeWG 52 9007199254740991 (by kernel_rfl) rfl rfl rfl rfl rfl rfl rfl rfl (yw_move rfl rfl) ?_
  refine DX.takeWG 53 18014398509481983 (by kernel_rfl) rfl rfl rfl rfl rfl rfl rfl rfl (yw_eql rfl rfl rfl) ?_
  refine DX.know (t := 110) (u := .bool true) rfl rfl ?_
  refine DX.takeW 54 36028797018963967 (by kernel_rfl) rfl rfl rfl rfl rfl (yw_pickT rfl rfl rfl) ?_
  refine DX.takeW 55 72057594037927935 (by kernel_rfl) rfl rfl rfl rfl rfl (yw_move rfl rfl) ?_
  refine DX.takeWG 56 144115188075855871 (by kernel_rfl) rfl rfl rfl rfl rfl rfl rfl rfl (yw_move rfl rfl) ?_
  refine DX.takeWG 57 288230376151711743 (by kernel_rfl) rfl rfl rfl rfl rfl rfl rfl rfl (yw_move rfl rfl) ?_
  refine DX.takeWG 59 864691128455135231 (by kernel_rfl) rfl rfl rfl rfl rfl rfl rfl rfl (yw_move rfl rfl) ?_
  refine DX.stepG 58 1152921504606846975 (by kernel_rfl) rfl rfl rfl rfl rfl rfl (op_callV (v := .string (root sum (entsX (([] ++ za.2) ++ zb.2)))) rfl rfl rfl rfl rfl ent_15 (fun w hw => w_rootE (([] ++ za.2) ++ zb.2) (hw.logAt (i := 0) rfl) hXl3 (by omega) (hG.keep hw (by simp))) (DXs.mk (List.Sublist.refl _) ?_))
  refine DX.stepG 60 2305843009213693951 (by kernel_rfl) rfl rfl rfl rfl rfl rfl (op_callV (v := .bool (verX (root sum (entsX ([] ++ za.2))) 1 (root sum (entsX (([] ++ za.2) ++ zb.2))) 3 (extX (([] ++ za.2) ++ zb.2) 1))) rfl rfl rfl rfl rfl ent_26 (fun w hw => w_verX (root sum (entsX ([] ++ za.2))) 1 (root sum (entsX (([] ++ za.2) ++ zb.2))) 3 (extX (([] ++ za.2) ++ zb.2) 1) (hG.keep hw (by simp)) (Ent.rd (hw.ents _ (List.mem_of_getElem? (i := 2) rfl))) (by have h8 := Ent.capLe (hw.ents _ (List.mem_of_getElem? (i := 2) rfl)); rwa [List.length_map] at h8) (by have := extX_length (([] ++ za.2) ++ zb.2) 1; omega) (by decide) (by decide) (extX_sizes _ _) (root_size' _) (root_size' _)) (DXs.mk (List.Sublist.refl _) ?_))
  refine DX.know (t := 117) (u := .bool true) rfl (congrArg Value.bool (by have h8 := ext_verifies (X := (([] ++ za.2) ++ zb.2)) (Y := ([] ++ za.2)) (m := 1) (by omega) (by rw [List.map_take, hX3, hX1]; rfl); rw [hn3] at h8; exact h8)) ?_
  refine DX.takeW 61 4611686018427387903 (by kernel_rfl) rfl rfl rfl rfl rfl (yw_pickT rfl rfl rfl) ?_
  refine DX.takeW 62 9223372036854775807 (by kernel_rfl) rfl rfl rfl rfl rfl (yw_move rfl rfl) ?_
  refine DX.takeWG 63 18446744073709551615 (by kernel_rfl) rfl rfl rfl rfl rfl rfl rfl rfl (yw_move rfl rfl) ?_
  refine DX.takeWG 64 36893488147419103231 (by kernel_rfl) rfl rfl rfl rfl rfl rfl rfl rfl (yw_eql rfl rfl rfl) ?_
  refine DX.know (t := 121) (u := .bool true) rfl rfl ?_
  refine DX.takeW 65 73786976294838206463 (by kernel_rfl) rfl rfl rfl rfl rfl (yw_pickT rfl rfl rfl) ?_
  refine DX.takeW 66 147573952589676412927 (by kernel_rfl) rfl rfl rfl rfl rfl (yw_move rfl rfl) ?_
  refine DX.takeWG 67 295147905179352825855 (by kernel_rfl) rfl rfl rfl rfl rfl rfl rfl rfl (yw_move rfl rfl) ?_
  refine DX.takeWG 68 590295810358705651711 (by kernel_rfl) rfl rfl rfl rfl rfl rfl rfl rfl (yw_eql rfl rfl rfl) ?_
  refine DX.know (t := 125) (u := .bool true) rfl rfl ?_
  refine DX.takeW 69 1180591620717411303423 (by kernel_rfl) rfl rfl rfl rfl rfl (yw_pickT rfl rfl rfl) ?_
  refine DX.takeW 70 2361183241434822606847 (by kernel_rfl) rfl rfl rfl rfl rfl (yw_move rfl rfl) ?_
  refine DX.takeWG 71 4722366482869645213695 (by kernel_rfl) rfl rfl rfl rfl rfl rfl rfl rfl (yw_move rfl rfl) ?_
  refine DX.stepG 72 9444732965739290427391 (by kernel_rfl) rfl rfl rfl rfl rfl rfl (op_callE rfl rfl rfl rfl rfl ent_14 (fun w hw => w_stmtsE (([] ++ za.2) ++ zb.2) (hw.logAt (i := 0) rfl) hXl3 (by omega)) (fun zs hzs => (DXs.mk (List.Sublist.cons _ (List.Sublist.cons _ (List.Sublist.refl _))) ?_)))
  refine DX.takeWG 73 18889465931478580854783 (by kernel_rfl) rfl rfl rfl rfl rfl rfl rfl rfl (yw_lenS rfl Tryd.underlying22 rfl) ?_
  refine DX.takeWG 74 37778931862957161709567 (by kernel_rfl) rfl rfl rfl rfl rfl rfl rfl rfl (yw_eql rfl rfl rfl) ?_
  refine DX.know (t := 131) (u := .bool true) rfl (congrArg Value.bool (decide_eq_true (by rw [len_snd hzs, List.length_map, hn3]; rfl))) ?_
  refine DX.takeW 75 75557863725914323419135 (by kernel_rfl) rfl rfl rfl rfl rfl (yw_pickT rfl rfl rfl) ?_
  refine DX.takeW 76 151115727451828646838271 (by kernel_rfl) rfl rfl rfl rfl rfl (yw_assign rfl rfl) ?_
  refine DX.done (by kernel_rfl) (XX.next (V' := [(0, .bool true)]) ⟨rfl, trivial⟩ ?_)
  refine CX.ret ?_
  exact ret_tmp rfl rfl fun w1 hw => ⟨rfl, hw.sub (List.nil_sublist _)⟩

end Go.Proofs.YtnadipjlhlbfoaaDoor
namespace Go.Proofs.YtnadipjlhlbfoaaDoor
set_option linter.all false
open Go Go.RowKit
section
variable {P : Program} {n : Nat} {D : List Deferred} {o : Oper} {V : List (Nat × Value)}
theorem yw_beql {t u : TypeId} {x y : Operand} {a b : Bool} (ho : o.op = .binOp .eql t x y u) (ht : P.underlying t = some .bool) (hx : ev V x = some (.bool a)) (hy : ev V y = some (.bool b)) : YldW P n D o V (.bool (a == b)) := by
  intro c w ha
  have h : ∀ d : Nat, (Op.equalIn (d + 1) t (.bool a) (.bool b)).run P w = .ok (a == b) w := fun d => by
    simp [Op.equalIn, run_underlying ht]
  simp [execOp, ho, ha.eval hx, ha.eval hy, eqGuard, binOp, Op.equal, Op.maxDepth, h 9999]
theorem yw_bneq {t u : TypeId} {x y : Operand} {a b : Bool} (ho : o.op = .binOp .neq t x y u) (ht : P.underlying t = some .bool) (hx : ev V x = some (.bool a)) (hy : ev V y = some (.bool b)) : YldW P n D o V (.bool (!(a == b))) := by
  intro c w ha
  have h : ∀ d : Nat, (Op.equalIn (d + 1) t (.bool a) (.bool b)).run P w = .ok (a == b) w := fun d => by
    simp [Op.equalIn, run_underlying ht]
  simp [execOp, ho, ha.eval hx, ha.eval hy, eqGuard, binOp, Op.equal, Op.maxDepth, h 9999]
end
end Go.Proofs.YtnadipjlhlbfoaaDoor
namespace Go.Proofs.YtnadipjlhlbfoaaDoor
set_option linter.all false
open Go Go.RowKit Go.ChangeShapes Go.WideShapes
section
variable {H : Type} {enc : TypeId × Value → H} {P : Program} {w : World} {base : Nat} {spare : Nat → Bool} {held : Bool}

def isI64 (n : Int) : Prop := -9223372036854775808 ≤ n ∧ n ≤ 9223372036854775807
theorem wf_i64 {n : Int} (h : (Lit.int .i64 n).wf = true) : isI64 n := by
  simpa [Lit.wf, isI64, IntKind.min, IntKind.max, IntKind.bits, IntKind.signed] using h

/-- The cell of a field of a struct. -/
theorem field_at {fs : Array Field} {cs : List Value} {xs : List (DataW H × List MemPlace)} {n i : Nat} {f : Field} (hx : ∀ (i : Nat) (f : Field), fs[i]? = some f → DataW.trod enc P w base spare held n f.type ((cs.drop f.offset).take (P.cellsOf f.type)) = xs[i]?)
    (hl : xs.length = fs.size) (hf : fs[i]? = some f) : ∃ y, DataW.trod enc P w base spare held n f.type ((cs.drop f.offset).take (P.cellsOf f.type)) = some y := by
  have hi : i < xs.length := by rw [hl]; exact (Array.getElem?_eq_some_iff.1 hf).1
  exact ⟨xs[i], (hx i f hf).trans (List.getElem?_eq_getElem hi)⟩
theorem field_int {fs : Array Field} {cs : List Value} {xs : List (DataW H × List MemPlace)} {n i : Nat} {f : Field} (hx : ∀ (i : Nat) (f : Field), fs[i]? = some f → DataW.trod enc P w base spare held n f.type ((cs.drop f.offset).take (P.cellsOf f.type)) = xs[i]?)
    (hl : xs.length = fs.size) (hf : fs[i]? = some f) (ht : P.underlying f.type = some (.int .i64)) (hc : P.cellsOf f.type = 1) : ∃ k, cs[f.offset]? = some (.int .i64 k) ∧ isI64 k := by
  obtain ⟨y, h⟩ := field_at hx hl hf
  obtain ⟨k, h1, _, h3⟩ := DataW.trod_int ht h
  refine ⟨k, ?_, wf_i64 h3⟩
  rw [hc] at h1
  have := congrArg (·[0]?) h1
  simpa using this
theorem field_str {fs : Array Field} {cs : List Value} {xs : List (DataW H × List MemPlace)} {n i : Nat} {f : Field} (hx : ∀ (i : Nat) (f : Field), fs[i]? = some f → DataW.trod enc P w base spare held n f.type ((cs.drop f.offset).take (P.cellsOf f.type)) = xs[i]?)
    (hl : xs.length = fs.size) (hf : fs[i]? = some f) (ht : P.underlying f.type = some .string) (hc : P.cellsOf f.type = 1) : ∃ s : ByteArray, cs[f.offset]? = some (.string s) ∧ s.size ≤ maxLen := by
  obtain ⟨y, h⟩ := field_at hx hl hf
  obtain ⟨s, h1, _, h3⟩ := DataW.trod_string ht h
  refine ⟨s, ?_, h3⟩
  rw [hc] at h1
  have := congrArg (·[0]?) h1
  simpa using this

/-- A slice whose elements are known to be values of a type α under an encoding. -/
theorem open_rows {α : Type} {t e : TypeId} {sz fuel : Nat} (cells : α → Array Value) (good : α → Prop) (d : α) {A : Option Addr} {len cap : Nat} {x : DataW H × List MemPlace} (ht : P.underlying t = some (.slice e)) (hc : P.cellsOf e = sz) (hsz : ∀ x, (cells x).size = sz) (hpos : 0 < sz) (hone : ∀ x, ∀ u ∈ (cells x).toList, u.oneCell' = true)
    (hel : ∀ n cs y, DataW.trod enc P w base spare held n e cs = some y → ∃ x, cs = (cells x).toList ∧ good x)
    (h : DataW.trod enc P w base spare held fuel t (Value.slice A len cap).cells.toList = some x) :
    ∃ xs : List α, len = xs.length ∧ Rd w A sz (xs.map cells) ∧ (∀ x ∈ xs, good x) ∧ xs.length ≤ cap ∧ cap ≤ maxLen := by
  rcases DataW.trod_slice ht h with ⟨h0, _⟩ | ⟨a, len', cap', elems, rest, n, _, h1, _, _, hl, hm, hlen, hat, _, _⟩
  · have e0 : Value.slice A len cap = .slice none 0 0 := by simpa [Value.cells] using h0
    injection e0 with e1 e2 e3
    subst e1; subst e2; subst e3
    exact ⟨[], rfl, Rd.nil _ _ _, by simp, Nat.le_refl _, Nat.zero_le _⟩
  · have e0 : Value.slice A len cap = .slice (some a) len' cap' := by simpa [Value.cells] using h1
    injection e0 with e1 e2 e3
    subst e1; subst e2; subst e3
    have each : ∀ i, i < len → ∃ x : α, w.cells? base (a.add (i * sz)) sz = some (cells x).toList ∧ good x := by
      intro i hi
      have hi' := hat i hi
      rw [List.getElem?_eq_getElem (by omega), hc] at hi'
      obtain ⟨cs, hcs, hy⟩ := Option.bind_eq_some_iff.1 hi'
      obtain ⟨x, rfl, hg⟩ := hel _ _ _ hy
      exact ⟨x, hcs, hg⟩
    obtain ⟨F, hF⟩ := @Go.Deep.choose_lt α ⟨d⟩ len _ each
    refine ⟨(List.range len).map F, by simp, ⟨?_⟩, ?_, by simpa using hl, hm⟩
    · intro k c hk
      rw [List.getElem?_map, List.getElem?_map] at hk
      have hkl : k < len := by
        rcases Nat.lt_or_ge k len with h | h
        · exact h
        · rw [List.getElem?_eq_none (by simpa using h)] at hk; simp at hk
      rw [List.getElem?_range hkl] at hk
      simp only [Option.map_some, Option.some.injEq] at hk
      subst hk
      obtain ⟨_, _, hcell⟩ := World.cells?_some (hF k hkl).1
      have h0 := hcell 0 hpos
      obtain ⟨v, hs0⟩ : ∃ v, (cells (F k)).toList[0]? = some v := ⟨_, List.getElem?_eq_getElem (by rw [Array.length_toList, hsz]; exact hpos)⟩
      rw [hs0] at h0
      obtain ⟨b, off, spot⟩ := a
      have hspot : spot = none := by
        obtain ⟨_, _, hz⟩ := World.cells?_some (hF 0 (by omega)).1
        have hz0 := hz 0 hpos
        obtain ⟨u, hu⟩ : ∃ u, (cells (F 0)).toList[0]? = some u := ⟨_, List.getElem?_eq_getElem (by rw [Array.length_toList, hsz]; exact hpos)⟩
        rw [hu] at hz0
        simpa [Addr.add] using World.cell?_spot hz0
      subst hspot
      refine ⟨hsz _, ⟨b, off, rfl⟩, ?_, hone _, fun j hj => ?_⟩
      · have := World.block_lt_of_cell? w _ h0
        rw [add_none, add_none] at this
        exact this
      · have := hcell j hj
        rw [Array.getElem?_toList, add_none, add_none] at this
        exact this
    · intro x hx
      obtain ⟨k, hk, rfl⟩ := List.mem_map.1 hx
      exact (hF k (by simpa using hk)).2
end

section
variable {H : Type} {enc : TypeId × Value → H} {P : Program} {W W' : World}
theorem trodAll_stays (hl : laidOutB P = true) (hb : Below W.heap.size W W') : ∀ {ts : List TypeId} {vs : List Value} {ds : List (DataW H)} {ps : List MemPlace}, (∀ t ∈ ts, P.readableRec t = true ∧ t < P.types.size) →
    DataW.TrodAll enc P W 0 (fun _ => true) true ts vs ds ps → (∀ x ∈ ps, x.block < W.heap.size) → DataW.TrodAll enc P W' 0 (fun b => decide (b < W.heap.size)) true ts vs ds ps
  | [], [], [], _, _, h, _ => h
  | t :: _, _ :: _, _ :: _, _, ht, ⟨p, q, h1, h2, e⟩, hs =>
    ⟨p, q, Below.trod hl (ht t List.mem_cons_self).1 (ht t List.mem_cons_self).2 h1 hb (fun x hx => hs x (by rw [e]; exact List.mem_append_left _ hx)), trodAll_stays hl hb (fun u hu => ht u (List.mem_cons_of_mem _ hu)) h2 (fun x hx => hs x (by rw [e]; exact List.mem_append_right _ hx)), e⟩

/-- The law's end: it has returned true, and the arguments read as they did. -/
theorem law_post {f : Func} {s : ChangeSpec} {args : Array Value} {ds gs : List (DataW H)} {before : List MemPlace} {tb : TypeId} (hl : laidOutB P = true) (ht : f.params.toList.all (fun t => P.readableRec t && decide (t < P.types.size)) = true)
    (hW : DataW.Whole enc P f.params.toList s.vars false W args.toList ds gs before) (hv : s.vars = []) (hfn : s.fn H (ds ++ gs) = { results := [.lit (.bool true)], args := ds }) (hr : f.resultTypes = #[tb]) (htb : P.underlying tb = some .bool) (hb : Below W.heap.size W W') :
    s.post enc P f false true false false W args (.bool true) W' := by
  have hlt : ∀ x ∈ before, x.block < W.heap.size := fun x hx => hW.lt x hx
  have hW' := hW
  obtain ⟨p, q, hA, hV, he, _, _⟩ := hW'
  refine ⟨ds, gs, before, [], p, [], hW, ?_, ?_, ?_, hb.frame _, fun h => by cases h⟩
  · rw [hfn, hr]
    exact trodAll_mk1 (shut_bool htb _)
  · rw [hfn]
    exact trodAll_stays hl hb (fun t h => by have := List.all_eq_true.1 ht t h; simpa using this) hA (fun x hx => hlt x (by rw [he]; exact List.mem_append_left _ hx))
  · rw [hfn, hv]
    exact rfl
end
end Go.Proofs.YtnadipjlhlbfoaaDoor
namespace Go.Proofs.YtnadipjlhlbfoaaDoor
set_option linter.all false
open Go Go.RowKit Go.ChangeShapes Go.WideShapes
set_option maxRecDepth 100000
theorem c3 : Tryd.prog.cellsOf 3 = 1 := by kernel_rfl
theorem c9 : Tryd.prog.cellsOf 9 = 1 := by kernel_rfl
theorem cLL : Tryd.prog.cellsOf 32 = 1 := by kernel_rfl
theorem cS : Tryd.prog.cellsOf 34 = 3 := by kernel_rfl
theorem cN : Tryd.prog.cellsOf 57 = 3 := by kernel_rfl
theorem cU : Tryd.prog.cellsOf 102 = 1 := by kernel_rfl
theorem cR : Tryd.prog.cellsOf 129 = 64 := by kernel_rfl
theorem laidOut : laidOutB Tryd.prog = true := by kernel_rfl
theorem own : ownKnob Tryd.prog.godebug = none := by kernel_rfl
section
variable {H : Type} {enc : TypeId × Value → H} {w : World} {base : Nat} {spare : Nat → Bool} {held : Bool}
theorem open_slice {t e : TypeId} {fuel : Nat} {cs : List Value} {x : DataW H × List MemPlace} (ht : Tryd.prog.underlying t = some (.slice e)) (h : DataW.trod enc Tryd.prog w base spare held fuel t cs = some x) : ∃ (A : Option Addr) (len cap : Nat), cs = (Value.slice A len cap).cells.toList := by
  rcases DataW.trod_slice ht h with ⟨h0, _⟩ | ⟨a, len', cap', elems, rest, n, _, h1, _⟩
  · exact ⟨none, 0, 0, h0⟩
  · exact ⟨some a, len', cap', h1⟩
theorem field_slice {e : TypeId} {fs : Array Field} {cs : List Value} {xs : List (DataW H × List MemPlace)} {n i : Nat} {f : Field} (hx : ∀ (i : Nat) (f : Field), fs[i]? = some f → DataW.trod enc Tryd.prog w base spare held n f.type ((cs.drop f.offset).take (Tryd.prog.cellsOf f.type)) = xs[i]?)
    (hl : xs.length = fs.size) (hf : fs[i]? = some f) (ht : Tryd.prog.underlying f.type = some (.slice e)) (hc : Tryd.prog.cellsOf f.type = 1) : ∃ (A : Option Addr) (len cap : Nat) (y : DataW H × List MemPlace), cs[f.offset]? = some (.slice A len cap) ∧ DataW.trod enc Tryd.prog w base spare held n f.type (Value.slice A len cap).cells.toList = some y := by
  obtain ⟨y, h⟩ := field_at hx hl hf
  obtain ⟨A, len, cap, e1⟩ := open_slice ht h
  refine ⟨A, len, cap, y, ?_, by rw [← e1]; exact h⟩
  rw [hc] at e1
  have := congrArg (·[0]?) e1
  simpa [Value.cells] using this
theorem open_ln (n : Nat) (cs : List Value) (y : DataW H × List MemPlace) (h : DataW.trod enc Tryd.prog w base spare held n 57 cs = some y) : ∃ f : Ln, cs = (lnC f).toList ∧ True := by
  obtain ⟨xs, m, _, _, hlen, hxl, hx⟩ := DataW.trod_struct Tryd.underlying57 h
  rw [cN] at hlen
  obtain ⟨k0, e0, _⟩ := field_int (i := 0) hx hxl rfl Tryd.underlying3 c3
  obtain ⟨k1, e1, _⟩ := field_int (i := 1) hx hxl rfl Tryd.underlying3 c3
  obtain ⟨k2, e2, _⟩ := field_int (i := 2) hx hxl rfl Tryd.underlying3 c3
  refine ⟨⟨k0, k1, k2⟩, List.ext_getElem? fun i => ?_, trivial⟩
  match i with
  | 0 => exact e0.trans rfl
  | 1 => exact e1.trans rfl
  | 2 => exact e2.trans rfl
  | i + 3 => rw [List.getElem?_eq_none (by omega), List.getElem?_eq_none (by simp)]
/-- What is known of a statement that is read. -/
def Good (w : World) (x : SX) : Prop := Rd w x.1.1 3 (x.2.ls.map lnC) ∧ x.2.ls.length ≤ x.1.2 ∧ x.2.ls.length ≤ 9223372036854775807
theorem open_stm (n : Nat) (cs : List Value) (y : DataW H × List MemPlace) (h : DataW.trod enc Tryd.prog w base spare held n 34 cs = some y) : ∃ x : SX, cs = (stC x).toList ∧ Good w x := by
  obtain ⟨xs, m, _, _, hlen, hxl, hx⟩ := DataW.trod_struct Tryd.underlying34 h
  rw [cS] at hlen
  obtain ⟨k0, e0, _⟩ := field_int (i := 0) hx hxl rfl Tryd.underlying3 c3
  obtain ⟨k1, e1, _⟩ := field_int (i := 1) hx hxl rfl Tryd.underlying3 c3
  obtain ⟨A, len, cap, y2, e2, h2⟩ := field_slice (i := 2) hx hxl rfl Tryd.underlying32 cLL
  obtain ⟨ls, rfl, hr, _, hc, hm⟩ := open_rows (fun x : Ln => lnC x) (fun _ => True) ⟨0, 0, 0⟩ Tryd.underlying32 cN (fun _ => rfl) (by decide) (fun x u hu => by simp at hu; rcases hu with rfl | rfl | rfl <;> rfl) open_ln h2
  refine ⟨((A, cap), ⟨k0, k1, ls⟩), List.ext_getElem? fun i => ?_, hr, hc, Nat.le_trans hc (Nat.le_trans hm (by decide))⟩
  match i with
  | 0 => exact e0.trans rfl
  | 1 => exact e1.trans rfl
  | 2 => exact e2.trans rfl
  | i + 3 => rw [List.getElem?_eq_none (by omega), List.getElem?_eq_none (by simp)]
theorem open_stms {b0 : Nat} {v : Value} {d : DataW H} {ps : List MemPlace} (hv : Value.okWide Tryd.prog w .any b0 22 v) (h : DataW.Trod enc Tryd.prog w base spare held 22 v d ps) :
    ∃ (A : Option Addr) (cap : Nat) (X : List SX), v = .slice A X.length cap ∧ Rd w A 3 (X.map stC) ∧ (∀ x ∈ X, Rd w x.1.1 3 (x.2.ls.map lnC)) ∧ (∀ x ∈ X, x.2.ls.length ≤ x.1.2) ∧ X.length ≤ 9223372036854775807 ∧ ∀ x ∈ X, x.2.ls.length ≤ 9223372036854775807 := by
  obtain ⟨A, len, cap, rfl⟩ := okWide_slice Tryd.underlying22 hv
  obtain ⟨fuel, hf⟩ := h
  obtain ⟨X, rfl, hr, hg, h1, h2⟩ := open_rows (fun x : SX => stC x) (Good w) ((none, 0), ⟨0, 0, []⟩) Tryd.underlying22 cS (fun _ => rfl) (by decide) (fun x u hu => by simp at hu; rcases hu with rfl | rfl | rfl <;> rfl) open_stm hf
  exact ⟨A, cap, X, rfl, hr, fun x hx => (hg x hx).1, fun x hx => (hg x hx).2.1, Nat.le_trans h1 (Nat.le_trans h2 (by decide)), fun x hx => (hg x hx).2.2⟩
theorem open_one {b0 : Nat} {v : Value} {d : DataW H} {ps : List MemPlace} (hv : Value.okWide Tryd.prog w .any b0 34 v) (h : DataW.Trod enc Tryd.prog w base spare held 34 v d ps) :
    ∃ x : SX, v = .agg (stC x) ∧ Rd w x.1.1 3 (x.2.ls.map lnC) ∧ x.2.ls.length ≤ x.1.2 ∧ x.2.ls.length ≤ 9223372036854775807 := by
  obtain ⟨fuel, hf⟩ := h
  obtain ⟨x, e, hg⟩ := open_stm _ _ _ hf
  obtain ⟨cs, rfl, _⟩ := okWide_struct Tryd.underlying34 hv
  refine ⟨x, ?_, hg⟩
  have e' : cs.toList = (stC x).toList := by simpa [Value.cells] using e
  rw [Array.toList_inj.1 e']
theorem open_string {b0 : Nat} {v : Value} {d : DataW H} {ps : List MemPlace} (hv : Value.okWide Tryd.prog w .any b0 9 v) (h : DataW.Trod enc Tryd.prog w base spare held 9 v d ps) : ∃ s : ByteArray, v = .string s ∧ s.size ≤ 9223372036854775807 := by
  obtain ⟨fuel, hf⟩ := h
  obtain ⟨s, e, _, h3⟩ := DataW.trod_string Tryd.underlying9 hf
  have := okWide_string Tryd.underlying9 hv
  obtain ⟨s', rfl⟩ := this
  have e' : s' = s := by simpa [Value.cells] using e
  subst e'
  exact ⟨s', rfl, Nat.le_trans h3 (by decide)⟩
end
def laid : List (String × DataW Unit) := [("royalty/digest.round", Rows.laid_royalty_digest_round)]
theorem gL : Tryd.prog.globalNamed "royalty/digest.round" = some 0 := by kernel_rfl
theorem tL : (Tryd.prog.globals[0]?).map (·.type) = some 129 := by kernel_rfl
theorem door_met (os : Os) (args : Array Value) : laidMetH Tryd.prog laid ((World.doorLaid Tryd.prog 400 os).forCall (fun _ _ => 0) ⟨#[], args, []⟩).memory :=
  laidMetH_of_parts3 (fuel := 8) (laidMet_of_run' 8 (by kernel_rfl) (by kernel_rfl)) (by kernel_rfl) (by kernel_rfl)
theorem laid_words {H : Type} : (Rows.laid_royalty_digest_round : DataW H) = .agg (roundsK.map fun x => .lit (.int .u32 ((x.toNat : Nat) : Int))) := rfl
theorem rounds_of_laid {W : World} (h : laidMetH Tryd.prog laid W) : Rounds W := by
  rw [MakeChecks.laidMetH_plain _ _ _ (by kernel_rfl)] at h
  obtain ⟨ps, ⟨g0, t0, cs0, f0, p0, q0, hg0, ht0, hv0, hd0, _, _⟩, _, _⟩ := h
  obtain rfl := Option.some.inj (gL.symm.trans hg0)
  obtain rfl := Option.some.inj (tL.symm.trans ht0)
  obtain ⟨xs, m1, _, hx1, hlen, hn, hel⟩ := DataW.trod_array Tryd.underlying129 hd0
  simp only [Prod.mk.injEq, laid_words, DataW.agg.injEq] at hx1
  intro k x hk
  rw [World.var?_cell hg0 hv0]
  have hkl := (List.getElem?_eq_some_iff.1 hk).1
  have hk' : k < xs.length := by rw [hn]; exact hkl
  have hek := hel k (by rw [← hn]; exact hk')
  rw [cU] at hek
  rw [List.getElem?_eq_getElem hk'] at hek
  obtain ⟨v, e1, e2, _⟩ := DataW.trod_int Tryd.underlying102 hek
  have hval : (xs.map (·.1))[k]? = some (.lit (.int .u32 v)) := by rw [List.getElem?_map, List.getElem?_eq_getElem hk', Option.map_some, e2]
  rw [← hx1.1, List.getElem?_map, hk] at hval
  simp only [Option.map_some, Option.some.injEq, DataW.lit.injEq, Lit.int.injEq, true_and] at hval
  have hc : cs0[k * 1]? = some (.int .u32 v) := by
    have := congrArg (·[0]?) e1
    simpa using this
  rw [Nat.mul_one] at hc
  rw [hc, ← hval]
end Go.Proofs.YtnadipjlhlbfoaaDoor
