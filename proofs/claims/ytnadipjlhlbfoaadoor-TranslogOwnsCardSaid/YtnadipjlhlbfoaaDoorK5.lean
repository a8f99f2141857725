/- Walks, printed by a program. Walks, printed by a program. The bits of a number. Walks, printed by a program. Lists of strings: aids for the walks over them. Walks, printed by a program. Walks, printed by a program. The stack of parts, for the walk of Root. -/
import Derived.Test.YtnadipjlhlbfoaaDoorK4
import Derived.Test.YtnadipjlhlbfoaaDoorK3
import Derived.Test.YtnadipjlhlbfoaaDoorK2
namespace Go.Proofs.YtnadipjlhlbfoaaDoor
set_option linter.all false
open Go Go.RowKit
set_option maxRecDepth 100000
theorem slt_35 : SlT Tryd.prog 35 9 1 := ⟨(Tryd.prog.info? 9).get!, Tryd.underlying35, by kernel_rfl, by kernel_rfl⟩
theorem one_9 : One Tryd.prog 9 := ⟨_, Tryd.underlying9, rfl⟩
theorem zero_91 : Zero Tryd.prog 91 (.agg (#[.pointer none, .slice none 0 0])) := ⟨(Tryd.prog.info? 91).get!, by kernel_rfl, by kernel_rfl⟩
theorem ent_97 : ∀ args w, (callFunc 97 args).run Tryd.prog w = .ok (.enter 97 args) w := enters_of Tryd.func97 (by kernel_rfl) rfl
theorem ent_59 : ∀ args w, (callFunc 59 args).run Tryd.prog w = .ok (.enter 59 args) w := enters_of Tryd.func59 (by kernel_rfl) rfl
theorem ent_60 : ∀ args w, (callFunc 60 args).run Tryd.prog w = .ok (.enter 60 args) w := enters_of Tryd.func60 (by kernel_rfl) rfl
/-- A builder's string. -/
theorem w_str {w : World} {gb cap : Nat} {p : Value} {A : Option Addr} (xs : List UInt8) (h : xs = [] → A = none) (hs : SL w (brO A gb) w [.row A cap 5 1 (List.map u8c xs), .blk gb (.cells #[p, .slice A xs.length cap] 91 (0, 0))]) :
    Calls Tryd.prog 60 #[.pointer (some ⟨gb, 0, none⟩)] w (fun e w' => e = .returned (.string ⟨xs.toArray⟩) ∧ SL w (brO A gb) w' [.blk gb (.cells #[p, .slice A xs.length cap] 91 (0, 0))]) := by
  by_cases hx : xs = []
  · have hA := h hx
    subst hx; subst hA
    exact w_strNil hs
  · have hown := row_u8.1 (hs.ents _ List.mem_cons_self)
    rcases hown.2 with ⟨hv, h0⟩ | ⟨g, cp, cur, hv, _, _, hnc, _⟩
    · exact absurd (List.eq_nil_of_length_eq_zero h0) hx
    · injection hv with h1 h2 h3
      subst h1
      have : xs.length ≠ 0 := by simpa using hx
      exact w_strSome hx (by omega) hs
set_option maxRecDepth 100000 in
theorem w_join {w : World} {A : Option Addr} {cap : Nat} (xs : List ByteArray) (hr : Rd w A 1 (xs.map strC)) (hcap : xs.length ≤ cap) (hl : xs.length ≤ 1000) (hn : (joinL xs).length ≤ 70368744177664) :
    Calls Tryd.prog 91 #[.slice A xs.length cap, .string .empty] w (fun e w' => e = .returned (.string (joinB xs)) ∧ SL w [] w' []) := by
  refine calls_of_CX (O := []) (L := []) (args := [.slice A xs.length cap, .string .empty]) Tryd.func91 rfl (by simp [Tryd.ntmps91]) (SL.refl w) ?_
  refine CX.sub (V' := [(0, .slice A xs.length cap), (1, .string .empty)]) ⟨rfl, rfl, trivial⟩ ?_
  refine CX.seq ?_
  refine CX.region ?_
  refine RX.cons rfl rfl (op_w (yw_assign rfl rfl) rfl rfl ?_)
  refine RX.nil (XX.next (V' := [(0, .slice A xs.length cap), (1, .string .empty)]) ⟨rfl, rfl, trivial⟩ ?_)
  refine CX.seq ?_
  refine CX.seq ?_
  refine CX.region ?_
  refine RX.cons rfl rfl (op_w (yw_move rfl rfl) rfl rfl ?_)
  refine RX.cons rfl rfl (op_w (yw_lenS rfl Tryd.underlying35 rfl) rfl rfl ?_)
  refine RX.nil (XX.next (V' := [(0, .slice A xs.length cap), (1, .string .empty), (12, .int .i64 ((xs.length : Nat) : Int))]) ⟨rfl, rfl, rfl, trivial⟩ ?_)
  refine CX.block ?_
  refine CX.seq ?_
  refine CX.region ?_
  refine RX.cons rfl rfl (op_w (yw_eql rfl rfl rfl) rfl rfl ?_)
  refine RX.cons rfl rfl (op_w (yw_assign rfl rfl) rfl rfl ?_)
  refine RX.nil (XX.next (V' := [(0, .slice A xs.length cap), (1, .string .empty), (12, .int .i64 ((xs.length : Nat) : Int)), (13, .bool (decide (((xs.length : Nat) : Int) = 0)))]) ⟨rfl, rfl, rfl, rfl, trivial⟩ ?_)
  refine CX.condD (p := ((xs.length : Nat) : Int) = 0) rfl (fun c13 => ?_) (fun c13 => ?_)
  · obtain rfl : xs = [] := List.eq_nil_of_length_eq_zero (by omega)
    refine CX.seq ?_
    refine CX.region ?_
    refine RX.cons rfl rfl (op_w (yw_assign rfl rfl) rfl rfl ?_)
    refine RX.nil (XX.next (V' := [(4, .string .empty)]) ⟨rfl, trivial⟩ ?_)
    refine CX.ret ?_
    refine XX.block_ret ?_
    refine XX.then_ret ?_
    exact ret_tmp rfl rfl fun w1 hw => ⟨rfl, hw.sub (List.nil_sublist _)⟩
  · refine CX.seq ?_
    refine CX.region ?_
    refine RX.cons rfl rfl (op_w (yw_eql rfl rfl rfl) rfl rfl ?_)
    refine RX.cons rfl rfl (op_w (yw_assign rfl rfl) rfl rfl ?_)
    refine RX.nil (XX.next (V' := [(0, .slice A xs.length cap), (1, .string .empty), (15, .bool (decide (((xs.length : Nat) : Int) = 1)))]) ⟨rfl, rfl, rfl, trivial⟩ ?_)
    refine CX.condD (p := ((xs.length : Nat) : Int) = 1) rfl (fun c15 => ?_) (fun c15 => ?_)
    · obtain ⟨s0, rfl⟩ : ∃ s0, xs = [s0] := List.length_eq_one_iff.1 (by omega)
      refine CX.seq ?_
      refine CX.region ?_
      refine RX.cons rfl rfl (op_w (yw_move rfl rfl) rfl rfl ?_)
      refine RX.cons rfl rfl (op_w (yw_index (k := 0) rfl slt_35 rfl rfl rfl (by simp) (hr.some (k := 0) (by simp))) rfl rfl ?_)
      refine RX.cons rfl rfl (op_yld (y_elem1 rfl rfl one_9 hr (by simp) (map_get (k := 0) rfl)) rfl rfl ?_)
      refine RX.cons rfl rfl (op_w (yw_assign rfl rfl) rfl rfl ?_)
      refine RX.nil (XX.next (V' := [(4, .string s0)]) ⟨rfl, trivial⟩ ?_)
      refine CX.ret ?_
      refine XX.block_ret ?_
      refine XX.then_ret ?_
      exact ret_tmp rfl rfl fun w1 hw => ⟨by rw [joinB_one], hw.sub (List.nil_sublist _)⟩
    · refine CX.skip (XX.inBlock (V' := [(0, .slice A xs.length cap), (1, .string .empty)]) ⟨rfl, rfl, trivial⟩ ?_)
      refine XX.next (V' := [(0, .slice A xs.length cap), (1, .string .empty)]) ⟨rfl, rfl, trivial⟩ ?_
      refine CX.seq ?_
      refine CX.region ?_
      refine RX.cons rfl rfl (op_w (yw_assign rfl rfl) rfl rfl ?_)
      refine RX.nil (XX.next (V' := [(0, .slice A xs.length cap), (1, .string .empty), (5, .int .i64 0)]) ⟨rfl, rfl, rfl, trivial⟩ ?_)
      refine CX.seq ?_
      refine CX.seq ?_
      refine CX.region ?_
      refine RX.cons rfl rfl (op_w (yw_move rfl rfl) rfl rfl ?_)
      refine RX.cons rfl rfl (op_w (yw_lenStr rfl Tryd.underlying9 rfl) rfl rfl ?_)
      refine RX.cons rfl rfl (op_w (yw_gtr rfl rfl rfl) rfl rfl ?_)
      refine RX.nil (XX.next (V' := [(0, .slice A xs.length cap), (1, .string .empty), (5, .int .i64 0), (22, .bool (decide (0 < ((ByteArray.size .empty : Nat) : Int))))]) ⟨rfl, rfl, rfl, rfl, trivial⟩ ?_)
      refine CX.condD (p := 0 < ((ByteArray.size .empty : Nat) : Int)) rfl (fun c22 => ?_) (fun c22 => ?_)
      · exact absurd c22 (by decide)
      · refine CX.skip (XX.next (V' := [(0, .slice A xs.length cap), (1, .string .empty), (5, .int .i64 0)]) ⟨rfl, rfl, rfl, trivial⟩ ?_)
        refine CX.seq ?_
        refine CX.seq ?_
        refine CX.region ?_
        refine RX.cons rfl rfl (op_w (yw_move rfl rfl) rfl rfl ?_)
        refine RX.cons rfl rfl (op_w (yw_lenS rfl Tryd.underlying35 rfl) rfl rfl ?_)
        refine RX.cons rfl rfl (op_w (yw_move rfl rfl) rfl rfl ?_)
        refine RX.nil (XX.next (V' := [(0, .slice A xs.length cap), (1, .string .empty), (5, .int .i64 0), (39, .slice A xs.length cap), (40, .int .i64 ((xs.length : Nat) : Int)), (41, .int .i64 0)]) ⟨rfl, rfl, rfl, rfl, rfl, rfl, trivial⟩ ?_)
        refine CX.block ?_
        refine CX.loop (σ := Nat) (fun z => [(0, .slice A xs.length cap), (1, .string .empty), (5, .int .i64 (((joinL (xs.take z)).length : Nat) : Int)), (39, .slice A xs.length cap), (40, .int .i64 ((xs.length : Nat) : Int)), (41, .int .i64 ((z : Nat) : Int))]) (fun z => []) (fun z => z ≤ xs.length) (fun z => xs.length - z) 0 (Nat.zero_le _) ⟨rfl, rfl, rfl, rfl, rfl, rfl, trivial⟩ rfl (fun z hI => ?_)
        refine CX.seq ?_
        refine CX.region ?_
        refine RX.cons rfl rfl (op_w (yw_lss rfl rfl rfl) rfl rfl ?_)
        refine RX.nil (XX.next (V' := [(0, .slice A xs.length cap), (1, .string .empty), (5, .int .i64 (((joinL (xs.take z)).length : Nat) : Int)), (39, .slice A xs.length cap), (40, .int .i64 ((xs.length : Nat) : Int)), (41, .int .i64 ((z : Nat) : Int)), (42, .bool (decide (((z : Nat) : Int) < ((xs.length : Nat) : Int))))]) ⟨rfl, rfl, rfl, rfl, rfl, rfl, rfl, trivial⟩ ?_)
        refine CX.seq ?_
        refine CX.condD (p := ((z : Nat) : Int) < ((xs.length : Nat) : Int)) rfl (fun c42 => ?_) (fun c42 => ?_)
        · obtain ⟨s0, hs0⟩ := get_some (l := xs) (k := z) (by omega)
          have hst : (joinL (xs.take (z + 1))).length = (joinL (xs.take z)).length + s0.size := by rw [joinL_succ hs0, List.length_append, size_list]
          have hle := joinL_le xs (z + 1)
          have hA : ∃ b j, A = some ⟨b, j, none⟩ := hr.some (k := 0) (by simp; omega)
          refine CX.skip (XX.next (V' := [(0, .slice A xs.length cap), (1, .string .empty), (5, .int .i64 (((joinL (xs.take z)).length : Nat) : Int)), (39, .slice A xs.length cap), (40, .int .i64 ((xs.length : Nat) : Int)), (41, .int .i64 ((z : Nat) : Int))]) ⟨rfl, rfl, rfl, rfl, rfl, rfl, trivial⟩ ?_)
          refine CX.seq ?_
          refine CX.block ?_
          refine CX.seq ?_
          refine CX.region ?_
          refine RX.cons rfl rfl (op_w (yw_index (k := z) rfl slt_35 rfl rfl (by omega) (by omega) hA) rfl rfl ?_)
          refine RX.cons rfl rfl (op_yld (y_elem1 rfl rfl one_9 hr (by simp) (map_get hs0)) rfl rfl ?_)
          refine RX.cons rfl rfl (op_w (yw_assign rfl rfl) rfl rfl ?_)
          refine RX.nil (XX.next (V' := [(0, .slice A xs.length cap), (1, .string .empty), (5, .int .i64 (((joinL (xs.take z)).length : Nat) : Int)), (7, .string s0), (39, .slice A xs.length cap), (40, .int .i64 ((xs.length : Nat) : Int)), (41, .int .i64 ((z : Nat) : Int))]) ⟨rfl, rfl, rfl, rfl, rfl, rfl, rfl, trivial⟩ ?_)
          refine CX.seq ?_
          refine CX.seq ?_
          refine CX.region ?_
          refine RX.cons rfl rfl (op_w (yw_move rfl rfl) rfl rfl ?_)
          refine RX.cons rfl rfl (op_w (yw_lenStr rfl Tryd.underlying9 rfl) rfl rfl ?_)
          refine RX.cons rfl rfl (op_w (yw_move rfl rfl) rfl rfl ?_)
          refine RX.cons rfl rfl (op_w (yw_sub rfl rfl rfl (by omega) (by omega)) rfl rfl ?_)
          refine RX.cons rfl rfl (op_w (yw_gtr rfl rfl rfl) rfl rfl ?_)
          refine RX.nil (XX.next (V' := [(0, .slice A xs.length cap), (1, .string .empty), (5, .int .i64 (((joinL (xs.take z)).length : Nat) : Int)), (7, .string s0), (39, .slice A xs.length cap), (40, .int .i64 ((xs.length : Nat) : Int)), (41, .int .i64 ((z : Nat) : Int)), (49, .bool (decide (9223372036854775807 - (((joinL (xs.take z)).length : Nat) : Int) < ((ByteArray.size s0 : Nat) : Int))))]) ⟨rfl, rfl, rfl, rfl, rfl, rfl, rfl, rfl, trivial⟩ ?_)
          refine CX.condD (p := 9223372036854775807 - (((joinL (xs.take z)).length : Nat) : Int) < ((ByteArray.size s0 : Nat) : Int)) rfl (fun c49 => ?_) (fun c49 => ?_)
          · exfalso; omega
          · refine CX.skip (XX.next (V' := [(0, .slice A xs.length cap), (1, .string .empty), (5, .int .i64 (((joinL (xs.take z)).length : Nat) : Int)), (7, .string s0), (39, .slice A xs.length cap), (40, .int .i64 ((xs.length : Nat) : Int)), (41, .int .i64 ((z : Nat) : Int))]) ⟨rfl, rfl, rfl, rfl, rfl, rfl, rfl, trivial⟩ ?_)
            refine CX.region ?_
            refine RX.cons rfl rfl (op_w (yw_move rfl rfl) rfl rfl ?_)
            refine RX.cons rfl rfl (op_w (yw_move rfl rfl) rfl rfl ?_)
            refine RX.cons rfl rfl (op_w (yw_lenStr rfl Tryd.underlying9 rfl) rfl rfl ?_)
            refine RX.cons rfl rfl (op_w (yw_add rfl rfl rfl (by omega) (by omega)) rfl rfl ?_)
            refine RX.know (t := 54) (u := .int .i64 (((joinL (xs.take (z + 1))).length : Nat) : Int)) rfl (congrArg (Value.int .i64) (by omega)) ?_
            refine RX.cons rfl rfl (op_w (yw_assign rfl rfl) rfl rfl ?_)
            refine RX.nil (XX.inBlock (V' := [(0, .slice A xs.length cap), (1, .string .empty), (5, .int .i64 (((joinL (xs.take (z + 1))).length : Nat) : Int)), (39, .slice A xs.length cap), (40, .int .i64 ((xs.length : Nat) : Int)), (41, .int .i64 ((z : Nat) : Int))]) ⟨rfl, rfl, rfl, rfl, rfl, rfl, trivial⟩ ?_)
            refine XX.next (V' := [(0, .slice A xs.length cap), (1, .string .empty), (5, .int .i64 (((joinL (xs.take (z + 1))).length : Nat) : Int)), (39, .slice A xs.length cap), (40, .int .i64 ((xs.length : Nat) : Int)), (41, .int .i64 ((z : Nat) : Int))]) ⟨rfl, rfl, rfl, rfl, rfl, rfl, trivial⟩ ?_
            refine CX.region ?_
            refine RX.cons rfl rfl (op_w (yw_add rfl rfl rfl (by omega) (by omega)) rfl rfl ?_)
            refine RX.cons rfl rfl (op_w (yw_move rfl rfl) rfl rfl ?_)
            refine RX.nil (XX.againP ([]) (z + 1) (by omega) (by omega) ⟨rfl, rfl, rfl, rfl, rfl, rfl, trivial⟩ (List.Perm.refl _))
        · have htk : xs.take z = xs := List.take_of_length_le (by omega)
          have hA : ∃ b j, A = some ⟨b, j, none⟩ := hr.some (k := 0) (by simp; omega)
          obtain ⟨b0, j0, hA0⟩ := hA
          refine CX.exit ?_
          refine XX.then_exit ?_
          refine XX.then_exit ?_
          refine XX.block_exit ?_
          refine XX.next (V' := [(0, .slice A xs.length cap), (1, .string .empty), (5, .int .i64 (((joinL (xs.take z)).length : Nat) : Int))]) ⟨rfl, rfl, rfl, trivial⟩ ?_
          refine CX.seq ?_
          refine CX.region ?_
          refine RX.cons rfl rfl (op_alloc rfl rfl rfl zero_91 fun gb => ?_)
          refine RX.nil (XX.next (V' := [(0, .slice A xs.length cap), (1, .string .empty), (5, .int .i64 (((joinL (xs.take z)).length : Nat) : Int)), (8, .pointer (some ⟨gb, 0, none⟩))]) ⟨rfl, rfl, rfl, rfl, trivial⟩ ?_)
          refine CX.seq ?_
          refine CX.region ?_
          refine RX.cons rfl rfl (op_w (yw_move rfl rfl) rfl rfl ?_)
          refine RX.know (t := 56) (u := .int .i64 (((joinL xs).length : Nat) : Int)) rfl (congrArg (Value.int .i64) (by rw [htk])) ?_
          refine RX.cons rfl rfl (op_callP [.blk gb (.cells (#[.pointer none, .slice none 0 0]) 91 (0, 0))] [] rfl rfl rfl rfl rfl ent_97 ((perm_pick 0 rfl).trans (List.Perm.cons _ (List.Perm.refl _))) (σ := Option Addr × Nat) (val := fun _ => .tuple #[]) (LL := fun z => [.row z.1 z.2 5 1 (List.map u8c ([])), .blk gb (.cells #[.pointer (some ⟨gb, 0, none⟩), .slice z.1 0 z.2] 91 (0, 0))]) (post := fun z => (joinL xs).length = 0 → z.1 = none) (fun w hw hs => w_Grow hn hs) (fun zg hzg => ?_))
          refine RX.nil (XX.next (V' := [(0, .slice A xs.length cap), (1, .string .empty), (8, .pointer (some ⟨gb, 0, none⟩))]) ⟨rfl, rfl, rfl, trivial⟩ ?_)
          refine CX.seq ?_
          obtain ⟨s1, hs1⟩ := get_some (l := xs) (k := 0) (by omega)
          have hj1 : joinL (xs.take 1) = [] ++ s1.data.toList := joinL_succ hs1
          have hjl := joinL_le xs 1
          rw [hj1] at hjl
          simp only [List.nil_append, size_list] at hjl
          refine CX.region ?_
          refine RX.cons rfl rfl (op_w (yw_move rfl rfl) rfl rfl ?_)
          refine RX.cons rfl rfl (op_w (yw_index (k := 0) rfl slt_35 rfl rfl rfl (by omega) ⟨_, _, hA0⟩) rfl rfl ?_)
          refine RX.cons rfl rfl (op_yld (y_elem1 rfl rfl one_9 hr (by simp) (map_get hs1)) rfl rfl ?_)
          refine RX.cons rfl rfl (op_callP [.row zg.1 zg.2 5 1 (List.map u8c ([])), .blk gb (.cells (#[.pointer (some ⟨gb, 0, none⟩), .slice zg.1 0 zg.2]) 91 (0, 0))] [] rfl rfl rfl rfl rfl ent_59 ((perm_pick 0 rfl).trans (List.Perm.cons _ ((perm_pick 0 rfl).trans (List.Perm.cons _ (List.Perm.refl _))))) (σ := Option Addr × Nat) (val := fun _ => .tuple #[.int .i64 ((ByteArray.size s1 : Nat) : Int), .nilIface]) (LL := fun z => [.row z.1 z.2 5 1 (List.map u8c ([] ++ (ByteArray.data s1).toList)), .blk gb (.cells #[.pointer (some ⟨gb, 0, none⟩), .slice z.1 (List.length (([] ++ (ByteArray.data s1).toList) : List UInt8)) z.2] 91 (0, 0))]) (post := fun z => zg.1 = none → ByteArray.size s1 = 0 → z.1 = none) (fun w hw hs => w_write ([]) s1 (.inr rfl) (by simp only [List.length_nil]; omega) hs) (fun zw hzw => ?_))
          refine RX.nil (XX.next (V' := [(0, .slice A xs.length cap), (1, .string .empty), (8, .pointer (some ⟨gb, 0, none⟩))]) ⟨rfl, rfl, rfl, trivial⟩ ?_)
          refine CX.seq ?_
          refine CX.seq ?_
          refine CX.region ?_
          refine RX.cons rfl rfl (op_w (yw_move rfl rfl) rfl rfl ?_)
          refine RX.cons rfl rfl (op_w (yw_sliceFromS (k := 1) hA0 rfl slt_35 rfl rfl rfl (by omega) (by omega) (by omega)) rfl rfl ?_)
          refine RX.cons rfl rfl (op_w (yw_lenS rfl Tryd.underlying35 rfl) rfl rfl ?_)
          refine RX.cons rfl rfl (op_w (yw_move rfl rfl) rfl rfl ?_)
          refine RX.nil (XX.next (V' := [(1, .string .empty), (8, .pointer (some ⟨gb, 0, none⟩)), (63, .slice (some ⟨b0, j0 + 1 * 1, none⟩) (xs.length - 1) (cap - 1)), (64, .int .i64 (((xs.length - 1) : Nat) : Int)), (65, .int .i64 0)]) ⟨rfl, rfl, rfl, rfl, rfl, trivial⟩ ?_)
          refine CX.block ?_
          have hcap2 : 1 < cap := by omega
          refine CX.loop (σ := Nat × (Option Addr × Nat) × List UInt8) (fun z => [(1, .string .empty), (8, .pointer (some ⟨gb, 0, none⟩)), (63, .slice (some ⟨b0, j0 + 1 * 1, none⟩) (xs.length - 1) (cap - 1)), (64, .int .i64 (((xs.length - 1) : Nat) : Int)), (65, .int .i64 ((z.1 : Nat) : Int))]) (fun z => [.row z.2.1.1 z.2.1.2 5 1 (List.map u8c z.2.2), .blk gb (.cells (#[.pointer (some ⟨gb, 0, none⟩), .slice z.2.1.1 (List.length (z.2.2 : List UInt8)) z.2.1.2]) 91 (0, 0))]) (fun z => z.1 ≤ xs.length - 1 ∧ z.2.2 = joinL (xs.take (z.1 + 1)) ∧ (joinL xs = [] → z.2.1.1 = none)) (fun z => xs.length - z.1) (0, zw, [] ++ s1.data.toList) ⟨Nat.zero_le _, hj1.symm, fun h => hzw (hzg (by rw [h]; rfl)) (joinL_nil h (List.mem_of_getElem? hs1))⟩ ⟨rfl, rfl, rfl, rfl, rfl, trivial⟩ rfl (fun z hI => ?_)
          obtain ⟨k, ⟨A2, c2⟩, bs⟩ := z
          dsimp only at hI ⊢
          obtain ⟨hk, hbs, hno⟩ := hI
          refine CX.seq ?_
          refine CX.region ?_
          refine RX.cons rfl rfl (op_w (yw_lss rfl rfl rfl) rfl rfl ?_)
          refine RX.nil (XX.next (V' := [(1, .string .empty), (8, .pointer (some ⟨gb, 0, none⟩)), (63, .slice (some ⟨b0, j0 + 1 * 1, none⟩) (xs.length - 1) (cap - 1)), (64, .int .i64 (((xs.length - 1) : Nat) : Int)), (65, .int .i64 ((k : Nat) : Int)), (66, .bool (decide (((k : Nat) : Int) < (((xs.length - 1) : Nat) : Int))))]) ⟨rfl, rfl, rfl, rfl, rfl, rfl, trivial⟩ ?_)
          refine CX.seq ?_
          refine CX.condD (p := ((k : Nat) : Int) < (((xs.length - 1) : Nat) : Int)) rfl (fun c66 => ?_) (fun c66 => ?_)
          · obtain ⟨s2, hs2⟩ := get_some (l := xs) (k := k + 1) (by omega)
            have hs2' : (xs.drop 1)[k]? = some s2 := by rw [List.getElem?_drop, Nat.add_comm]; exact hs2
            have hj2 := joinL_le xs (k + 1 + 1)
            rw [joinL_succ hs2, List.length_append, size_list, ← hbs] at hj2
            refine CX.skip (XX.next (V' := [(1, .string .empty), (8, .pointer (some ⟨gb, 0, none⟩)), (63, .slice (some ⟨b0, j0 + 1 * 1, none⟩) (xs.length - 1) (cap - 1)), (64, .int .i64 (((xs.length - 1) : Nat) : Int)), (65, .int .i64 ((k : Nat) : Int))]) ⟨rfl, rfl, rfl, rfl, rfl, trivial⟩ ?_)
            refine CX.seq ?_
            refine CX.block ?_
            refine CX.seq ?_
            refine CX.region ?_
            refine RX.cons rfl rfl (op_w (yw_index (k := k) rfl slt_35 rfl rfl (by omega) (by omega) ⟨_, _, rfl⟩) rfl rfl ?_)
            refine RX.cons rfl rfl (op_yld (y_elem1 rfl rfl one_9 (Rd.dropM hr hA0 1) (by simp) (map_get hs2')) rfl rfl ?_)
            refine RX.cons rfl rfl (op_w (yw_assign rfl rfl) rfl rfl ?_)
            refine RX.nil (XX.next (V' := [(1, .string .empty), (8, .pointer (some ⟨gb, 0, none⟩)), (10, .string s2), (63, .slice (some ⟨b0, j0 + 1 * 1, none⟩) (xs.length - 1) (cap - 1)), (64, .int .i64 (((xs.length - 1) : Nat) : Int)), (65, .int .i64 ((k : Nat) : Int))]) ⟨rfl, rfl, rfl, rfl, rfl, rfl, trivial⟩ ?_)
            refine CX.seq ?_
            refine CX.region ?_
            refine RX.cons rfl rfl (op_w (yw_move rfl rfl) rfl rfl ?_)
            refine RX.cons rfl rfl (op_callP [.row A2 c2 5 1 (List.map u8c bs), .blk gb (.cells (#[.pointer (some ⟨gb, 0, none⟩), .slice A2 (List.length (bs : List UInt8)) c2]) 91 (0, 0))] [] rfl rfl rfl rfl rfl ent_59 ((perm_pick 0 rfl).trans (List.Perm.cons _ ((perm_pick 0 rfl).trans (List.Perm.cons _ (List.Perm.refl _))))) (σ := Option Addr × Nat) (val := fun _ => .tuple #[.int .i64 ((ByteArray.size .empty : Nat) : Int), .nilIface]) (LL := fun z => [.row z.1 z.2 5 1 (List.map u8c (bs ++ (ByteArray.data .empty).toList)), .blk gb (.cells #[.pointer (some ⟨gb, 0, none⟩), .slice z.1 (List.length ((bs ++ (ByteArray.data .empty).toList) : List UInt8)) z.2] 91 (0, 0))]) (post := fun z => A2 = none → ByteArray.size .empty = 0 → z.1 = none) (fun w hw hs => w_write bs .empty (.inr rfl) (by show bs.length + 0 ≤ _; omega) hs) (fun zu hzu => ?_))
            refine RX.nil (XX.next (V' := [(1, .string .empty), (8, .pointer (some ⟨gb, 0, none⟩)), (10, .string s2), (63, .slice (some ⟨b0, j0 + 1 * 1, none⟩) (xs.length - 1) (cap - 1)), (64, .int .i64 (((xs.length - 1) : Nat) : Int)), (65, .int .i64 ((k : Nat) : Int))]) ⟨rfl, rfl, rfl, rfl, rfl, rfl, trivial⟩ ?_)
            refine CX.region ?_
            refine RX.cons rfl rfl (op_w (yw_move rfl rfl) rfl rfl ?_)
            refine RX.cons rfl rfl (op_callP [.row zu.1 zu.2 5 1 (List.map u8c (bs ++ (ByteArray.data .empty).toList)), .blk gb (.cells (#[.pointer (some ⟨gb, 0, none⟩), .slice zu.1 (List.length ((bs ++ (ByteArray.data .empty).toList) : List UInt8)) zu.2]) 91 (0, 0))] [] rfl rfl rfl rfl rfl ent_59 ((perm_pick 0 rfl).trans (List.Perm.cons _ ((perm_pick 0 rfl).trans (List.Perm.cons _ (List.Perm.refl _))))) (σ := Option Addr × Nat) (val := fun _ => .tuple #[.int .i64 ((ByteArray.size s2 : Nat) : Int), .nilIface]) (LL := fun z => [.row z.1 z.2 5 1 (List.map u8c ((bs ++ (ByteArray.data .empty).toList) ++ (ByteArray.data s2).toList)), .blk gb (.cells #[.pointer (some ⟨gb, 0, none⟩), .slice z.1 (List.length (((bs ++ (ByteArray.data .empty).toList) ++ (ByteArray.data s2).toList) : List UInt8)) z.2] 91 (0, 0))]) (post := fun z => zu.1 = none → ByteArray.size s2 = 0 → z.1 = none) (fun w hw hs => w_write (bs ++ (ByteArray.data .empty).toList) s2 (.inr rfl) (by rw [empty_list, List.append_nil]; omega) hs) (fun zv hzv => ?_))
            refine RX.nil (XX.inBlock (V' := [(1, .string .empty), (8, .pointer (some ⟨gb, 0, none⟩)), (63, .slice (some ⟨b0, j0 + 1 * 1, none⟩) (xs.length - 1) (cap - 1)), (64, .int .i64 (((xs.length - 1) : Nat) : Int)), (65, .int .i64 ((k : Nat) : Int))]) ⟨rfl, rfl, rfl, rfl, rfl, trivial⟩ ?_)
            refine XX.next (V' := [(1, .string .empty), (8, .pointer (some ⟨gb, 0, none⟩)), (63, .slice (some ⟨b0, j0 + 1 * 1, none⟩) (xs.length - 1) (cap - 1)), (64, .int .i64 (((xs.length - 1) : Nat) : Int)), (65, .int .i64 ((k : Nat) : Int))]) ⟨rfl, rfl, rfl, rfl, rfl, trivial⟩ ?_
            refine CX.region ?_
            refine RX.cons rfl rfl (op_w (yw_add rfl rfl rfl (by omega) (by omega)) rfl rfl ?_)
            refine RX.cons rfl rfl (op_w (yw_move rfl rfl) rfl rfl ?_)
            refine RX.nil (XX.againP ([]) (k + 1, zv, (bs ++ (ByteArray.data .empty).toList) ++ s2.data.toList) (by dsimp only; omega) ⟨by dsimp only; omega, by dsimp only; rw [empty_list, List.append_nil, hbs, joinL_succ hs2], fun h => hzv (hzu (hno h) rfl) (joinL_nil h (List.mem_of_getElem? hs2))⟩ ⟨rfl, rfl, rfl, rfl, rfl, trivial⟩ ((perm_pick 0 rfl).trans (List.Perm.cons _ ((perm_pick 0 rfl).trans (List.Perm.cons _ (List.Perm.refl _))))))
          · have hbx : bs = joinL xs := by rw [hbs, List.take_of_length_le (by omega)]
            refine CX.exit ?_
            refine XX.then_exit ?_
            refine XX.then_exit ?_
            refine XX.block_exit ?_
            refine XX.next (V' := [(8, .pointer (some ⟨gb, 0, none⟩))]) ⟨rfl, trivial⟩ ?_
            refine CX.seq ?_
            refine CX.region ?_
            refine RX.cons rfl rfl (op_callP [.row A2 c2 5 1 (List.map u8c bs), .blk gb (.cells (#[.pointer (some ⟨gb, 0, none⟩), .slice A2 (List.length (bs : List UInt8)) c2]) 91 (0, 0))] [] rfl rfl rfl rfl rfl ent_60 ((perm_pick 0 rfl).trans (List.Perm.cons _ ((perm_pick 0 rfl).trans (List.Perm.cons _ (List.Perm.refl _))))) (σ := Unit) (val := fun _ => .string ⟨List.toArray bs⟩) (LL := fun _ => [.blk gb (.cells #[.pointer (some ⟨gb, 0, none⟩), .slice A2 (List.length (bs : List UInt8)) c2] 91 (0, 0))]) (post := fun _ => True) (fun w hw hs => (w_str bs (fun h => hno (by rw [← hbx]; exact h)) hs).mono fun e w' h => ⟨(), trivial, h⟩) (fun _ _ => ?_))
            refine RX.cons rfl rfl (op_w (yw_assign rfl rfl) rfl rfl ?_)
            refine RX.nil (XX.next (V' := [(4, .string (⟨List.toArray bs⟩))]) ⟨rfl, trivial⟩ ?_)
            refine CX.ret ?_
            exact ret_tmp rfl rfl fun w1 hw => ⟨by show Ending.returned _ = _; rw [hbx]; rfl, hw.sub (List.nil_sublist _)⟩

end Go.Proofs.YtnadipjlhlbfoaaDoor
namespace Go.Proofs.YtnadipjlhlbfoaaDoor
set_option linter.all false
open Go Go.RowKit
set_option maxRecDepth 100000
theorem ent_91 : ∀ args w, (callFunc 91 args).run Tryd.prog w = .ok (.enter 91 args) w := enters_of Tryd.func91 (by kernel_rfl) rfl
theorem ent_46 : ∀ args w, (callFunc 46 args).run Tryd.prog w = .ok (.enter 46 args) w := enters_of Tryd.func46 (by kernel_rfl) rfl
theorem ent_77 : ∀ args w, (callFunc 77 args).run Tryd.prog w = .ok (.enter 77 args) w := enters_of Tryd.func77 (by kernel_rfl) rfl
theorem slb_35 : SlB Tryd.prog 35 9 1 16 (.string .empty) := ⟨Tryd.underlying35, ⟨(Tryd.prog.info? 9).get!, by kernel_rfl, by kernel_rfl, by kernel_rfl, by kernel_rfl⟩, by decide, by decide⟩
theorem ent_90 : ∀ args w, (callFunc 90 args).run Tryd.prog w = .ok (.enter 90 args) w := enters_of Tryd.func90 (by kernel_rfl) rfl
set_option maxRecDepth 100000 in
theorem w_marked1 {w : World} {A : Option Addr} {cap gm : Nat} {mk : ByteArray} (xs : List ByteArray) (hG : Rounds w) (hr : Rd w A 1 (xs.map strC)) (hcap : xs.length ≤ cap) (hl : xs.length ≤ 1000) (hn : (joinL xs).length ≤ 35184372088832) (hm : w.cell? ⟨gm, 0, none⟩ = some (.string mk)) (hk : mk.size ≤ 1) :
    Calls Tryd.prog 90 #[.slice A xs.length cap, .pointer (some ⟨gm, 0, none⟩)] w (fun e w' => e = .returned (.string (sum (mk ++ joinB xs))) ∧ SL w [] w' []) := by
  refine calls_of_CX (O := []) (L := []) (args := [.slice A xs.length cap, .pointer (some ⟨gm, 0, none⟩)]) Tryd.func90 rfl (by simp [Tryd.ntmps90]) (SL.refl w) ?_
  refine CX.sub (V' := [(0, .slice A xs.length cap), (1, .pointer (some ⟨gm, 0, none⟩))]) ⟨rfl, rfl, trivial⟩ ?_
  refine CX.seq ?_
  refine CX.region ?_
  refine RX.cons rfl rfl (op_w (yw_assign rfl rfl) rfl rfl ?_)
  refine RX.nil (XX.next (V' := [(0, .slice A xs.length cap), (1, .pointer (some ⟨gm, 0, none⟩))]) ⟨rfl, rfl, trivial⟩ ?_)
  refine CX.seq ?_
  refine CX.draw 6 [(0, 2, 16), (0, 1, 32), (2, 32, 64), (5, 80, 128), (12, 128, 256), (31, 256, 8)] (by kernel_rfl) (by kernel_rfl) (by kernel_rfl) ?_
  refine DX.take 0 1 (by kernel_rfl) rfl rfl rfl rfl rfl (List.nil_sublist _) (y_loadG (v := .string mk) rfl rfl one_9 hm (by simp)) ?_
  refine DX.takeW 1 3 (by kernel_rfl) rfl rfl rfl rfl rfl (yw_move rfl rfl) ?_
  refine DX.step 2 7 (by kernel_rfl) rfl rfl rfl (op_callV (v := .string (joinB xs)) rfl rfl rfl rfl rfl ent_91 (fun w hw => w_join xs (hw.rd hr (by simp)) hcap hl (by omega)) (DXs.mk (List.nil_sublist _) ?_))
  refine DX.takeW 3 15 (by kernel_rfl) rfl rfl rfl rfl rfl (yw_stradd rfl rfl rfl (by rw [joinB_size]; omega)) ?_
  refine DX.step 4 31 (by kernel_rfl) rfl rfl rfl (op_callV (v := .string (sum (mk ++ (joinB xs)))) rfl rfl rfl rfl rfl ent_46 (fun w hw => w_sum (mk ++ (joinB xs)) (hG.keep hw (by simp)) (by rw [ByteArray.size_append, joinB_size]; omega)) (DXs.mk (List.nil_sublist _) ?_))
  refine DX.takeW 5 63 (by kernel_rfl) rfl rfl rfl rfl rfl (yw_assign rfl rfl) ?_
  refine DX.done (by kernel_rfl) (XX.next (V' := [(3, .string (sum (mk ++ (joinB xs))))]) ⟨rfl, trivial⟩ ?_)
  refine CX.ret ?_
  exact ret_tmp rfl rfl fun w1 hw => ⟨rfl, hw.sub (List.nil_sublist _)⟩

set_option maxRecDepth 100000 in
theorem w_marked {w : World} (mk : ByteArray) :
    Calls Tryd.prog 77 #[.string mk] w (fun e w' => ∃ z : Nat, True ∧ e = .returned (.func (.func 90) #[] #[.pointer (some ⟨z, 0, none⟩)]) ∧ SL w [] w' [.blk z (.cells #[.string mk] 9 (0, 0))]) := by
  refine calls_of_CX (O := []) (L := []) (args := [.string mk]) Tryd.func77 rfl (by simp [Tryd.ntmps77]) (SL.refl w) ?_
  refine CX.sub (V' := [(0, .string mk)]) ⟨rfl, trivial⟩ ?_
  refine CX.seq ?_
  refine CX.region ?_
  refine RX.cons rfl rfl (op_box rfl rfl rfl rfl fun gm => ?_)
  refine RX.cons rfl rfl (op_w (yw_assign rfl rfl) rfl rfl ?_)
  refine RX.nil (XX.next (V' := [(1, .pointer (some ⟨gm, 0, none⟩))]) ⟨rfl, trivial⟩ ?_)
  refine CX.seq ?_
  refine CX.region ?_
  refine RX.cons rfl rfl (op_w (yw_makeFunc rfl rfl rfl) rfl rfl ?_)
  refine RX.cons rfl rfl (op_w (yw_assign rfl rfl) rfl rfl ?_)
  refine RX.nil (XX.next (V' := [(2, .func (.func 90) #[] #[.pointer (some ⟨gm, 0, none⟩)])]) ⟨rfl, trivial⟩ ?_)
  refine CX.ret ?_
  exact ret_tmp rfl rfl fun w1 hw => ⟨gm, trivial, rfl, hw⟩

set_option maxRecDepth 100000 in
theorem w_leaf {w : World} (s : ByteArray) (hG : Rounds w) (hn : s.size ≤ 17592186044416) :
    Calls Tryd.prog 53 #[.string s] w (fun e w' => e = .returned (.string (leafH sum s)) ∧ SL w [] w' []) := by
  refine calls_of_CX (O := []) (L := []) (args := [.string s]) Tryd.func53 rfl (by simp [Tryd.ntmps53]) (SL.refl w) ?_
  refine CX.sub (V' := [(0, .string s)]) ⟨rfl, trivial⟩ ?_
  refine CX.seq ?_
  refine CX.region ?_
  refine RX.cons rfl rfl (op_w (yw_assign rfl rfl) rfl rfl ?_)
  refine RX.nil (XX.next (V' := [(0, .string s)]) ⟨rfl, trivial⟩ ?_)
  refine CX.seq ?_
  refine CX.region ?_
  refine RX.cons rfl rfl (op_callE rfl rfl rfl rfl rfl ent_77 (fun w _ => w_marked ({ data := #[0] })) (fun zm _ => ?_))
  refine RX.cons rfl rfl (op_w (yw_move rfl rfl) rfl rfl ?_)
  refine RX.cons rfl rfl (op_buildSlice rfl rfl rfl slb_35 rfl rfl (by intro v hv; simp only [List.mem_cons, List.not_mem_nil, or_false] at hv; subst hv; exact ⟨rfl, (plain_of rfl)⟩) (by decide) fun g1 => ?_)
  refine RX.cons rfl rfl (op_callV (v := .string (sum (mark 0 (joinB ([s]))))) rfl rfl rfl rfl rfl ent_90 (fun w hw => w_marked1 (mk := ByteArray.mk #[0]) ([s]) (hG.keep hw (by simp)) (Ent.rd (hw.ents _ (List.mem_of_getElem? (i := 0) rfl))) (Nat.le_refl _) (by simp) (by simp [joinL, size_list]; omega) (hw.cellOf (i := 1) rfl rfl) (by decide)) ?_)
  refine RX.cons rfl rfl (op_w (yw_assign rfl rfl) rfl rfl ?_)
  refine RX.nil (XX.next (V' := [(2, .string (sum (mark 0 (joinB ([s])))))]) ⟨rfl, trivial⟩ ?_)
  refine CX.ret ?_
  exact ret_tmp rfl rfl fun w1 hw => ⟨by simp only [leafH, nodeH, chainH, joinB_one, joinB_two], hw.sub (List.nil_sublist _)⟩

set_option maxRecDepth 100000 in
theorem w_node {w : World} (s t : ByteArray) (hG : Rounds w) (hn : s.size + t.size ≤ 17592186044416) :
    Calls Tryd.prog 54 #[.string s, .string t] w (fun e w' => e = .returned (.string (nodeH sum s t)) ∧ SL w [] w' []) := by
  refine calls_of_CX (O := []) (L := []) (args := [.string s, .string t]) Tryd.func54 rfl (by simp [Tryd.ntmps54]) (SL.refl w) ?_
  refine CX.sub (V' := [(0, .string s), (1, .string t)]) ⟨rfl, rfl, trivial⟩ ?_
  refine CX.seq ?_
  refine CX.region ?_
  refine RX.cons rfl rfl (op_w (yw_assign rfl rfl) rfl rfl ?_)
  refine RX.nil (XX.next (V' := [(0, .string s), (1, .string t)]) ⟨rfl, rfl, trivial⟩ ?_)
  refine CX.seq ?_
  refine CX.region ?_
  refine RX.cons rfl rfl (op_callE rfl rfl rfl rfl rfl ent_77 (fun w _ => w_marked ({ data := #[1] })) (fun zm _ => ?_))
  refine RX.cons rfl rfl (op_w (yw_move rfl rfl) rfl rfl ?_)
  refine RX.cons rfl rfl (op_w (yw_move rfl rfl) rfl rfl ?_)
  refine RX.cons rfl rfl (op_buildSlice rfl rfl rfl slb_35 rfl rfl (by intro v hv; simp only [List.mem_cons, List.not_mem_nil, or_false] at hv; rcases hv with rfl | rfl <;> exact ⟨rfl, (plain_of rfl)⟩) (by decide) fun g1 => ?_)
  refine RX.cons rfl rfl (op_callV (v := .string (sum (mark 1 (joinB ([s, t]))))) rfl rfl rfl rfl rfl ent_90 (fun w hw => w_marked1 (mk := ByteArray.mk #[1]) ([s, t]) (hG.keep hw (by simp)) (Ent.rd (hw.ents _ (List.mem_of_getElem? (i := 0) rfl))) (Nat.le_refl _) (by simp) (by simp [joinL, size_list]; omega) (hw.cellOf (i := 1) rfl rfl) (by decide)) ?_)
  refine RX.cons rfl rfl (op_w (yw_assign rfl rfl) rfl rfl ?_)
  refine RX.nil (XX.next (V' := [(4, .string (sum (mark 1 (joinB ([s, t])))))]) ⟨rfl, trivial⟩ ?_)
  refine CX.ret ?_
  exact ret_tmp rfl rfl fun w1 hw => ⟨by simp only [leafH, nodeH, chainH, joinB_one, joinB_two], hw.sub (List.nil_sublist _)⟩

set_option maxRecDepth 100000 in
theorem w_chain {w : World} (s t : ByteArray) (hG : Rounds w) (hn : s.size + t.size ≤ 17592186044416) :
    Calls Tryd.prog 62 #[.string s, .string t] w (fun e w' => e = .returned (.string (chainH sum s t)) ∧ SL w [] w' []) := by
  refine calls_of_CX (O := []) (L := []) (args := [.string s, .string t]) Tryd.func62 rfl (by simp [Tryd.ntmps62]) (SL.refl w) ?_
  refine CX.sub (V' := [(0, .string s), (1, .string t)]) ⟨rfl, rfl, trivial⟩ ?_
  refine CX.seq ?_
  refine CX.region ?_
  refine RX.cons rfl rfl (op_w (yw_assign rfl rfl) rfl rfl ?_)
  refine RX.nil (XX.next (V' := [(0, .string s), (1, .string t)]) ⟨rfl, rfl, trivial⟩ ?_)
  refine CX.seq ?_
  refine CX.region ?_
  refine RX.cons rfl rfl (op_callE rfl rfl rfl rfl rfl ent_77 (fun w _ => w_marked ({ data := #[2] })) (fun zm _ => ?_))
  refine RX.cons rfl rfl (op_w (yw_move rfl rfl) rfl rfl ?_)
  refine RX.cons rfl rfl (op_w (yw_move rfl rfl) rfl rfl ?_)
  refine RX.cons rfl rfl (op_buildSlice rfl rfl rfl slb_35 rfl rfl (by intro v hv; simp only [List.mem_cons, List.not_mem_nil, or_false] at hv; rcases hv with rfl | rfl <;> exact ⟨rfl, (plain_of rfl)⟩) (by decide) fun g1 => ?_)
  refine RX.cons rfl rfl (op_callV (v := .string (sum (mark 2 (joinB ([s, t]))))) rfl rfl rfl rfl rfl ent_90 (fun w hw => w_marked1 (mk := ByteArray.mk #[2]) ([s, t]) (hG.keep hw (by simp)) (Ent.rd (hw.ents _ (List.mem_of_getElem? (i := 0) rfl))) (Nat.le_refl _) (by simp) (by simp [joinL, size_list]; omega) (hw.cellOf (i := 1) rfl rfl) (by decide)) ?_)
  refine RX.cons rfl rfl (op_w (yw_assign rfl rfl) rfl rfl ?_)
  refine RX.nil (XX.next (V' := [(4, .string (sum (mark 2 (joinB ([s, t])))))]) ⟨rfl, trivial⟩ ?_)
  refine CX.ret ?_
  exact ret_tmp rfl rfl fun w1 hw => ⟨by simp only [leafH, nodeH, chainH, joinB_one, joinB_two], hw.sub (List.nil_sublist _)⟩

end Go.Proofs.YtnadipjlhlbfoaaDoor
namespace Go.Proofs.YtnadipjlhlbfoaaDoor
set_option linter.all false
open Go Go.RowKit
def lenN (n : Nat) : Nat := if n = 0 then 0 else Nat.log2 n + 1
theorem lenN_shift {n : Nat} (k : Nat) (h : 2 ^ k ≤ n) : lenN n = lenN (n / 2 ^ k) + k := by
  have h0 : 0 < 2 ^ k := Nat.two_pow_pos k
  have h1 : 0 < n / 2 ^ k := Nat.div_pos h h0
  have h2 : n ≠ 0 := by omega
  unfold lenN
  rw [if_neg h2, if_neg (by omega)]
  have h3 := Nat.log2_self_le (n := n / 2 ^ k) (by omega)
  have h4 : n / 2 ^ k < 2 ^ (Nat.log2 (n / 2 ^ k) + 1) := Nat.lt_log2_self
  have : Nat.log2 n = Nat.log2 (n / 2 ^ k) + k := by
    rw [Nat.log2_eq_iff h2]
    constructor
    · rw [Nat.pow_add]
      exact Nat.le_trans (Nat.mul_le_mul_right _ h3) (Nat.div_mul_le_self n _)
    · rw [show Nat.log2 (n / 2 ^ k) + k + 1 = (Nat.log2 (n / 2 ^ k) + 1) + k from by omega, Nat.pow_add]
      exact (Nat.div_lt_iff_lt_mul h0).1 h4
  omega
theorem lenN_le {n k : Nat} (h : n < 2 ^ k) : lenN n ≤ k := by
  unfold lenN
  split
  · omega
  · have : Nat.log2 n < k := (Nat.log2_lt (by omega)).2 h
    omega
theorem u8_back {m : Nat} (h : m < 256) : wi (UInt8.toBitVec (UInt8.ofNat m)) = ((m : Nat) : Int) := by
  show (((UInt8.ofNat m).toNat : Nat) : Int) = _
  have : (UInt8.ofNat m).toNat = m := by
    rw [UInt8.toNat_ofNat']; omega
  rw [this]
theorem shr_toNat {n : Nat} (x : BitVec n) (k : Nat) : (x >>> k).toNat = x.toNat / 2 ^ k := by
  rw [BitVec.toNat_ushiftRight, Nat.shiftRight_eq_div_pow]
theorem lft_len {n : Nat} (h : 2 ≤ n) : lft n = 2 ^ (lenN (n - 1) - 1) := by
  unfold lft lenN
  rw [if_neg (by omega)]; rfl
theorem lenN_pos {n : Nat} (h : 1 ≤ n) : 1 ≤ lenN n := by unfold lenN; rw [if_neg (by omega)]; omega
theorem ofInt_toNat {z : Int} {n : Nat} (h : z = (n : Int)) (hn : n < 2 ^ 64) : (BitVec.ofInt 64 z).toNat = n := by
  subst h
  rw [BitVec.toNat_ofInt]
  omega
end Go.Proofs.YtnadipjlhlbfoaaDoor
namespace Go.Proofs.YtnadipjlhlbfoaaDoor
set_option linter.all false
open Go Go.RowKit
set_option maxRecDepth 100000
theorem ent_89 : ∀ args w, (callFunc 89 args).run Tryd.prog w = .ok (.enter 89 args) w := enters_of Tryd.func89 (by kernel_rfl) rfl
theorem ent_73 : ∀ args w, (callFunc 73 args).run Tryd.prog w = .ok (.enter 73 args) w := enters_of Tryd.func73 (by kernel_rfl) rfl
def tabL : ByteArray := { data := #[0, 1, 2, 2, 3, 3, 3, 3, 4, 4, 4, 4, 4, 4, 4, 4, 5, 5, 5, 5, 5, 5, 5, 5, 5, 5, 5, 5, 5, 5, 5, 5, 6, 6, 6, 6, 6, 6, 6, 6, 6, 6, 6, 6, 6, 6, 6, 6, 6, 6, 6, 6, 6, 6, 6, 6, 6, 6, 6, 6, 6, 6, 6, 6, 7, 7, 7, 7, 7, 7, 7, 7, 7, 7, 7, 7, 7, 7, 7, 7, 7, 7, 7, 7, 7, 7, 7, 7, 7, 7, 7, 7, 7, 7, 7, 7, 7, 7, 7, 7, 7, 7, 7, 7, 7, 7, 7, 7, 7, 7, 7, 7, 7, 7, 7, 7, 7, 7, 7, 7, 7, 7, 7, 7, 7, 7, 7, 7, 8, 8, 8, 8, 8, 8, 8, 8, 8, 8, 8, 8, 8, 8, 8, 8, 8, 8, 8, 8, 8, 8, 8, 8, 8, 8, 8, 8, 8, 8, 8, 8, 8, 8, 8, 8, 8, 8, 8, 8, 8, 8, 8, 8, 8, 8, 8, 8, 8, 8, 8, 8, 8, 8, 8, 8, 8, 8, 8, 8, 8, 8, 8, 8, 8, 8, 8, 8, 8, 8, 8, 8, 8, 8, 8, 8, 8, 8, 8, 8, 8, 8, 8, 8, 8, 8, 8, 8, 8, 8, 8, 8, 8, 8, 8, 8, 8, 8, 8, 8, 8, 8, 8, 8, 8, 8, 8, 8, 8, 8, 8, 8, 8, 8, 8, 8, 8, 8, 8, 8, 8, 8, 8, 8, 8, 8, 8, 8] }
theorem tab_all : ∀ k : Fin 256, tabL.data[k.1]? = some (UInt8.ofNat (lenN k.1)) := by decide +kernel
theorem tab_get {k : Nat} (h : k < 256) : (ByteArray.data { data := #[0, 1, 2, 2, 3, 3, 3, 3, 4, 4, 4, 4, 4, 4, 4, 4, 5, 5, 5, 5, 5, 5, 5, 5, 5, 5, 5, 5, 5, 5, 5, 5, 6, 6, 6, 6, 6, 6, 6, 6, 6, 6, 6, 6, 6, 6, 6, 6, 6, 6, 6, 6, 6, 6, 6, 6, 6, 6, 6, 6, 6, 6, 6, 6, 7, 7, 7, 7, 7, 7, 7, 7, 7, 7, 7, 7, 7, 7, 7, 7, 7, 7, 7, 7, 7, 7, 7, 7, 7, 7, 7, 7, 7, 7, 7, 7, 7, 7, 7, 7, 7, 7, 7, 7, 7, 7, 7, 7, 7, 7, 7, 7, 7, 7, 7, 7, 7, 7, 7, 7, 7, 7, 7, 7, 7, 7, 7, 7, 8, 8, 8, 8, 8, 8, 8, 8, 8, 8, 8, 8, 8, 8, 8, 8, 8, 8, 8, 8, 8, 8, 8, 8, 8, 8, 8, 8, 8, 8, 8, 8, 8, 8, 8, 8, 8, 8, 8, 8, 8, 8, 8, 8, 8, 8, 8, 8, 8, 8, 8, 8, 8, 8, 8, 8, 8, 8, 8, 8, 8, 8, 8, 8, 8, 8, 8, 8, 8, 8, 8, 8, 8, 8, 8, 8, 8, 8, 8, 8, 8, 8, 8, 8, 8, 8, 8, 8, 8, 8, 8, 8, 8, 8, 8, 8, 8, 8, 8, 8, 8, 8, 8, 8, 8, 8, 8, 8, 8, 8, 8, 8, 8, 8, 8, 8, 8, 8, 8, 8, 8, 8, 8, 8, 8, 8, 8, 8] })[k]? = some (UInt8.ofNat (lenN k)) := tab_all ⟨k, h⟩
set_option maxRecDepth 100000 in
theorem w_len64 {w : World} (x : BitVec 64) :
    Calls Tryd.prog 89 #[.int .u64 (wi x)] w (fun e w' => e = .returned (.int .i64 ((lenN x.toNat : Nat) : Int)) ∧ SL w [] w' []) := by
  have hI1 : lenN x.toNat = 0 + lenN x.toNat := by omega
  have hx := x.isLt
  refine calls_of_CX (O := []) (L := []) (args := [.int .u64 (wi x)]) Tryd.func89 rfl (by simp [Tryd.ntmps89]) (SL.refl w) ?_
  refine CX.sub (V' := [(0, .int .u64 (wi x))]) ⟨rfl, trivial⟩ ?_
  refine CX.seq ?_
  refine CX.region ?_
  refine RX.cons rfl rfl (op_w (yw_assign rfl rfl) rfl rfl ?_)
  refine RX.nil (XX.next (V' := [(0, .int .u64 (wi x)), (2, .int .i64 0)]) ⟨rfl, rfl, trivial⟩ ?_)
  refine CX.cut (σ := BitVec 64 × Nat) (fun z => [(0, .int .u64 (wi z.1)), (2, .int .i64 ((z.2 : Nat) : Int))]) (fun z => []) (fun z => lenN x.toNat = z.2 + lenN z.1.toNat ∧ z.1.toNat < 4294967296 ∧ z.2 ≤ 32) ?_ (fun z hI => ?_)
  · refine CX.seq ?_
    refine CX.region ?_
    refine RX.cons rfl rfl (op_w (yw_move rfl rfl) rfl rfl ?_)
    refine RX.cons rfl rfl (op_w (yw_geq rfl rfl rfl) rfl rfl ?_)
    refine RX.nil (XX.next (V' := [(0, .int .u64 (wi x)), (2, .int .i64 0), (4, .bool (decide (4294967296 ≤ wi x)))]) ⟨rfl, rfl, rfl, trivial⟩ ?_)
    refine CX.condD (p := 4294967296 ≤ wi x) rfl (fun c4 => ?_) (fun c4 => ?_)
    · have hwi : wi x = ((x.toNat : Nat) : Int) := rfl
      refine CX.seq ?_
      refine CX.region ?_
      refine RX.cons rfl rfl (op_w (yw_move rfl rfl) rfl rfl ?_)
      refine RX.cons rfl rfl (op_w (yw_bvShr (a := x) 32 UK.u64 rfl rfl rfl rfl) rfl rfl ?_)
      refine RX.cons rfl rfl (op_w (yw_assign rfl rfl) rfl rfl ?_)
      refine RX.nil (XX.next (V' := [(0, .int .u64 (wi (x >>> 32)))]) ⟨rfl, trivial⟩ ?_)
      refine CX.region ?_
      refine RX.cons rfl rfl (op_w (yw_assign rfl rfl) rfl rfl ?_)
      refine RX.nil (XX.meetP ([]) (x >>> 32, 32) ⟨by dsimp only; rw [hI1, lenN_shift 32 (by omega), shr_toNat]; omega, by dsimp only; rw [shr_toNat]; omega, by dsimp only; omega⟩ ⟨rfl, rfl, trivial⟩ (List.Perm.refl _))
    · have hwi : wi x = ((x.toNat : Nat) : Int) := rfl
      refine CX.skip (XX.meetP ([]) (x, 0) ⟨hI1, by dsimp only; omega, by dsimp only; omega⟩ ⟨rfl, rfl, trivial⟩ (List.Perm.refl _))
  · obtain ⟨v32, n32⟩ := z
    dsimp only at hI ⊢
    obtain ⟨hI1, hI2, hI3⟩ := hI
    refine CX.cut (σ := BitVec 64 × Nat) (fun z => [(0, .int .u64 (wi z.1)), (2, .int .i64 ((z.2 : Nat) : Int))]) (fun z => []) (fun z => lenN x.toNat = z.2 + lenN z.1.toNat ∧ z.1.toNat < 65536 ∧ z.2 ≤ 48) ?_ (fun z hI => ?_)
    · refine CX.seq ?_
      refine CX.region ?_
      refine RX.cons rfl rfl (op_w (yw_move rfl rfl) rfl rfl ?_)
      refine RX.cons rfl rfl (op_w (yw_geq rfl rfl rfl) rfl rfl ?_)
      refine RX.nil (XX.next (V' := [(0, .int .u64 (wi v32)), (2, .int .i64 ((n32 : Nat) : Int)), (8, .bool (decide (65536 ≤ wi v32)))]) ⟨rfl, rfl, rfl, trivial⟩ ?_)
      refine CX.condD (p := 65536 ≤ wi v32) rfl (fun c8 => ?_) (fun c8 => ?_)
      · have hwi : wi v32 = ((v32.toNat : Nat) : Int) := rfl
        refine CX.seq ?_
        refine CX.region ?_
        refine RX.cons rfl rfl (op_w (yw_move rfl rfl) rfl rfl ?_)
        refine RX.cons rfl rfl (op_w (yw_bvShr (a := v32) 16 UK.u64 rfl rfl rfl rfl) rfl rfl ?_)
        refine RX.cons rfl rfl (op_w (yw_assign rfl rfl) rfl rfl ?_)
        refine RX.nil (XX.next (V' := [(0, .int .u64 (wi (v32 >>> 16))), (2, .int .i64 ((n32 : Nat) : Int))]) ⟨rfl, rfl, trivial⟩ ?_)
        refine CX.region ?_
        refine RX.cons rfl rfl (op_w (yw_move rfl rfl) rfl rfl ?_)
        refine RX.cons rfl rfl (op_w (yw_add rfl rfl rfl (by omega) (by omega)) rfl rfl ?_)
        refine RX.cons rfl rfl (op_w (yw_assign rfl rfl) rfl rfl ?_)
        refine RX.nil (XX.meetP ([]) (v32 >>> 16, (n32 + 16)) ⟨by dsimp only; rw [hI1, lenN_shift 16 (by omega), shr_toNat]; omega, by dsimp only; rw [shr_toNat]; omega, by dsimp only; omega⟩ ⟨rfl, rfl, trivial⟩ (List.Perm.refl _))
      · have hwi : wi v32 = ((v32.toNat : Nat) : Int) := rfl
        refine CX.skip (XX.meetP ([]) (v32, n32) ⟨hI1, by dsimp only; omega, by dsimp only; omega⟩ ⟨rfl, rfl, trivial⟩ (List.Perm.refl _))
    · obtain ⟨v16, n16⟩ := z
      dsimp only at hI ⊢
      obtain ⟨hI1, hI2, hI3⟩ := hI
      refine CX.cut (σ := BitVec 64 × Nat) (fun z => [(0, .int .u64 (wi z.1)), (2, .int .i64 ((z.2 : Nat) : Int))]) (fun z => []) (fun z => lenN x.toNat = z.2 + lenN z.1.toNat ∧ z.1.toNat < 256 ∧ z.2 ≤ 56) ?_ (fun z hI => ?_)
      · refine CX.seq ?_
        refine CX.region ?_
        refine RX.cons rfl rfl (op_w (yw_move rfl rfl) rfl rfl ?_)
        refine RX.cons rfl rfl (op_w (yw_geq rfl rfl rfl) rfl rfl ?_)
        refine RX.nil (XX.next (V' := [(0, .int .u64 (wi v16)), (2, .int .i64 ((n16 : Nat) : Int)), (14, .bool (decide (256 ≤ wi v16)))]) ⟨rfl, rfl, rfl, trivial⟩ ?_)
        refine CX.condD (p := 256 ≤ wi v16) rfl (fun c14 => ?_) (fun c14 => ?_)
        · have hwi : wi v16 = ((v16.toNat : Nat) : Int) := rfl
          refine CX.seq ?_
          refine CX.region ?_
          refine RX.cons rfl rfl (op_w (yw_move rfl rfl) rfl rfl ?_)
          refine RX.cons rfl rfl (op_w (yw_bvShr (a := v16) 8 UK.u64 rfl rfl rfl rfl) rfl rfl ?_)
          refine RX.cons rfl rfl (op_w (yw_assign rfl rfl) rfl rfl ?_)
          refine RX.nil (XX.next (V' := [(0, .int .u64 (wi (v16 >>> 8))), (2, .int .i64 ((n16 : Nat) : Int))]) ⟨rfl, rfl, trivial⟩ ?_)
          refine CX.region ?_
          refine RX.cons rfl rfl (op_w (yw_move rfl rfl) rfl rfl ?_)
          refine RX.cons rfl rfl (op_w (yw_add rfl rfl rfl (by omega) (by omega)) rfl rfl ?_)
          refine RX.cons rfl rfl (op_w (yw_assign rfl rfl) rfl rfl ?_)
          refine RX.nil (XX.meetP ([]) (v16 >>> 8, (n16 + 8)) ⟨by dsimp only; rw [hI1, lenN_shift 8 (by omega), shr_toNat]; omega, by dsimp only; rw [shr_toNat]; omega, by dsimp only; omega⟩ ⟨rfl, rfl, trivial⟩ (List.Perm.refl _))
        · have hwi : wi v16 = ((v16.toNat : Nat) : Int) := rfl
          refine CX.skip (XX.meetP ([]) (v16, n16) ⟨hI1, by dsimp only; omega, by dsimp only; omega⟩ ⟨rfl, rfl, trivial⟩ (List.Perm.refl _))
      · obtain ⟨v8, n8⟩ := z
        dsimp only at hI ⊢
        obtain ⟨hI1, hI2, hI3⟩ := hI
        refine CX.seq ?_
        have hv8 : (BitVec.setWidth 8 v8).toNat = v8.toNat := by rw [BitVec.toNat_setWidth]; omega
        have hl8 := lenN_le (n := v8.toNat) (k := 8) (by omega)
        refine CX.region ?_
        refine RX.cons rfl rfl (op_w (yw_move rfl rfl) rfl rfl ?_)
        refine RX.cons rfl rfl (op_w (yw_move rfl rfl) rfl rfl ?_)
        refine RX.cons rfl rfl (op_w (yw_bvConv (a := v8) UK.u8 rfl rfl Tryd.underlying100 Tryd.underlying5) rfl rfl ?_)
        refine RX.cons rfl rfl (op_w (yw_strIdx (k := (BitVec.setWidth 8 v8).toNat) (b := UInt8.ofNat (lenN (BitVec.setWidth 8 v8).toNat)) rfl Tryd.underlying9 rfl rfl rfl (tab_get (BitVec.isLt _))) rfl rfl ?_)
        refine RX.cons rfl rfl (op_w (yw_bvInt (a := UInt8.toBitVec (UInt8.ofNat (lenN (BitVec.setWidth 8 v8).toNat))) (by decide) rfl rfl Tryd.underlying5 Tryd.underlying3) rfl rfl ?_)
        refine RX.know (t := 23) (u := .int .i64 ((lenN v8.toNat : Nat) : Int)) rfl (congrArg (Value.int .i64) (by rw [hv8]; exact u8_back (by omega))) ?_
        refine RX.cons rfl rfl (op_w (yw_add rfl rfl rfl (by omega) (by omega)) rfl rfl ?_)
        refine RX.cons rfl rfl (op_w (yw_assign rfl rfl) rfl rfl ?_)
        refine RX.nil (XX.next (V' := [(2, .int .i64 (((n8 : Nat) : Int) + ((lenN v8.toNat : Nat) : Int)))]) ⟨rfl, trivial⟩ ?_)
        refine CX.ret ?_
        exact ret_tmp rfl rfl fun w1 hw => ⟨by rw [hI1]; rfl, hw.sub (List.nil_sublist _)⟩

set_option maxRecDepth 100000 in
theorem w_len {w : World} (x : BitVec 64) :
    Calls Tryd.prog 73 #[.int .u64 (wi x)] w (fun e w' => e = .returned (.int .i64 ((lenN x.toNat : Nat) : Int)) ∧ SL w [] w' []) := by
  refine calls_of_CX (O := []) (L := []) (args := [.int .u64 (wi x)]) Tryd.func73 rfl (by simp [Tryd.ntmps73]) (SL.refl w) ?_
  refine CX.sub (V' := [(0, .int .u64 (wi x))]) ⟨rfl, trivial⟩ ?_
  refine CX.seq ?_
  refine CX.region ?_
  refine RX.cons rfl rfl (op_w (yw_assign rfl rfl) rfl rfl ?_)
  refine RX.nil (XX.next (V' := [(0, .int .u64 (wi x))]) ⟨rfl, trivial⟩ ?_)
  refine CX.seq ?_
  refine CX.condF rfl ?_
  refine CX.skip (XX.next (V' := [(0, .int .u64 (wi x))]) ⟨rfl, trivial⟩ ?_)
  refine CX.seq ?_
  refine CX.region ?_
  refine RX.cons rfl rfl (op_w (yw_move rfl rfl) rfl rfl ?_)
  refine RX.cons rfl rfl (op_callV (v := .int .i64 ((lenN (BitVec.toNat x) : Nat) : Int)) rfl rfl rfl rfl rfl ent_89 (fun w hw => w_len64 x) ?_)
  refine RX.cons rfl rfl (op_w (yw_assign rfl rfl) rfl rfl ?_)
  refine RX.nil (XX.next (V' := [(2, .int .i64 ((lenN (BitVec.toNat x) : Nat) : Int))]) ⟨rfl, trivial⟩ ?_)
  refine CX.ret ?_
  exact ret_tmp rfl rfl fun w1 hw => ⟨rfl, hw.sub (List.nil_sublist _)⟩

set_option maxRecDepth 100000 in
theorem w_left {w : World} (n : Nat) (hn : 2 ≤ n) (hm : n ≤ 9223372036854775807) :
    Calls Tryd.prog 48 #[.int .i64 ((n : Nat) : Int)] w (fun e w' => e = .returned (.int .i64 ((lft n : Nat) : Int)) ∧ SL w [] w' []) := by
  have hl1 := lenN_pos (n := n - 1) (by omega)
  have hl2 := lenN_le (n := n - 1) (k := 63) (by omega)
  have hb : (BitVec.ofInt 64 ((n : Int) - 1)).toNat = n - 1 := ofInt_toNat (by omega) (by omega)
  refine calls_of_CX (O := []) (L := []) (args := [.int .i64 ((n : Nat) : Int)]) Tryd.func48 rfl (by simp [Tryd.ntmps48]) (SL.refl w) ?_
  refine CX.sub (V' := [(0, .int .i64 ((n : Nat) : Int))]) ⟨rfl, trivial⟩ ?_
  refine CX.seq ?_
  refine CX.region ?_
  refine RX.cons rfl rfl (op_w (yw_assign rfl rfl) rfl rfl ?_)
  refine RX.nil (XX.next (V' := [(0, .int .i64 ((n : Nat) : Int))]) ⟨rfl, trivial⟩ ?_)
  refine CX.seq ?_
  refine CX.region ?_
  refine RX.cons rfl rfl (op_w (yw_move rfl rfl) rfl rfl ?_)
  refine RX.cons rfl rfl (op_w (yw_sub rfl rfl rfl (by omega) (by omega)) rfl rfl ?_)
  refine RX.cons rfl rfl (op_w (yw_bvOf UK.u64 rfl rfl Tryd.underlying3 Tryd.underlying106) rfl rfl ?_)
  refine RX.cons rfl rfl (op_callV (v := .int .i64 ((lenN (BitVec.toNat (BitVec.ofInt 64 (((n : Nat) : Int) - 1))) : Nat) : Int)) rfl rfl rfl rfl rfl ent_73 (fun w hw => w_len (BitVec.ofInt 64 (((n : Nat) : Int) - 1))) ?_)
  refine RX.know (t := 6) (u := .int .i64 ((lenN (n - 1) : Nat) : Int)) rfl (congrArg (fun q : Nat => Value.int .i64 ((lenN q : Nat) : Int)) hb) ?_
  refine RX.cons rfl rfl (op_w (yw_sub rfl rfl rfl (by omega) (by omega)) rfl rfl ?_)
  refine RX.know (t := 7) (u := .int .i64 ((lenN (n - 1) - 1 : Nat) : Int)) rfl (congrArg (Value.int .i64) (by omega)) ?_
  refine RX.cons rfl rfl (op_w (yw_one_shl (lenN (n - 1) - 1) rfl rfl rfl rfl (by omega)) rfl rfl ?_)
  refine RX.cons rfl rfl (op_w (yw_assign rfl rfl) rfl rfl ?_)
  refine RX.nil (XX.next (V' := [(2, .int .i64 ((2 ^ (lenN (n - 1) - 1) : Nat) : Int))]) ⟨rfl, trivial⟩ ?_)
  refine CX.ret ?_
  exact ret_tmp rfl rfl fun w1 hw => ⟨by rw [lft_len hn], hw.sub (List.nil_sublist _)⟩

end Go.Proofs.YtnadipjlhlbfoaaDoor
namespace Go.Proofs.YtnadipjlhlbfoaaDoor
set_option linter.all false
open Go Go.RowKit
/-- The place of the first string that is no digest, or -1. -/
def oddIdx (xs : List ByteArray) : Int := if ∀ x ∈ xs, x.size = 32 then -1 else ((xs.findIdx fun s => decide (s.size ≠ 32) : Nat) : Int)
theorem oddIdx_none {xs : List ByteArray} (h : ∀ x ∈ xs, x.size = 32) : oddIdx xs = -1 := if_pos h
theorem oddIdx_at {xs : List ByteArray} {i : Nat} {s : ByteArray} (hs : xs[i]? = some s) (hn : s.size ≠ 32) (h : ∀ x ∈ xs.take i, x.size = 32) : oddIdx xs = ((i : Nat) : Int) := by
  have hm := List.mem_of_getElem? hs
  have hi := (List.getElem?_eq_some_iff.1 hs).1
  rw [oddIdx, if_neg (fun hall => hn (hall s hm))]
  congr 1
  rw [List.findIdx_eq hi]
  refine ⟨by rw [List.getElem?_eq_getElem hi, Option.some.injEq] at hs; rw [hs]; simpa using hn, fun j hj => ?_⟩
  have : xs[j]'(by omega) ∈ xs.take i := by
    rw [List.mem_take_iff_getElem]
    exact ⟨j, by omega, rfl⟩
  simpa using h _ this
theorem oddIdx_iff (xs : List ByteArray) : (0 ≤ oddIdx xs) ↔ ¬ ∀ x ∈ xs, x.size = 32 := by
  unfold oddIdx
  split <;> rename_i h
  · constructor
    · intro h0; omega
    · intro h0; exact absurd h h0
  · simp only [h, not_false_iff, iff_true]; omega
theorem all_snoc {xs : List ByteArray} {i : Nat} {s : ByteArray} (hs : xs[i]? = some s) (hn : s.size = 32) (h : ∀ x ∈ xs.take i, x.size = 32) : ∀ x ∈ xs.take (i + 1), x.size = 32 := by
  rw [take_succ hs]
  intro x hx
  rcases List.mem_append.1 hx with hx | hx
  · exact h x hx
  · simp at hx; rw [hx]; exact hn
/-- A side: a digest, and whether it comes first. -/
abbrev sideC (x : ByteArray × Bool) : Array Value := #[.string x.1, .bool x.2]
def joinS (h : B → B) (x : ByteArray × Bool) (part : ByteArray) : ByteArray := if x.2 then nodeH h x.1 part else nodeH h part x.1
/-- What a backward range hands over. -/
def backI {α : Type} (f : α → List Value) (xs : List α) (q : Nat) : List Value := .int .i64 ((xs.length - 1 - q : Nat) : Int) :: ((xs[xs.length - 1 - q]?).map f).getD []
theorem backI_at {α : Type} {f : α → List Value} {xs : List α} {q : Nat} {a : α} (h : xs[xs.length - 1 - q]? = some a) : backI f xs q = .int .i64 ((xs.length - 1 - q : Nat) : Int) :: f a := by
  simp only [backI, h, Option.map_some, Option.getD_some]
def strV (s : ByteArray) : List Value := [.string s]
def sideV (x : ByteArray × Bool) : List Value := [.agg (sideC x)]
/-- A backward fold. -/
theorem Steps.back {α σ : Type} {Rl : σ → List Value → σ → Prop} {f : α → List Value} {step : σ → α → σ} {s0 : σ} (xs : List α) (h : ∀ s q a s', xs[xs.length - 1 - q]? = some a → Rl s (backI f xs q) s' → s' = step s a) :
    ∀ (k : Nat) (s' : σ), k ≤ xs.length → Steps Rl s0 ((List.range k).map (backI f xs)) s' → s' = (xs.drop (xs.length - k)).foldr (fun a s => step s a) s0
  | 0, s', _, hs => by
    generalize hx : (List.range 0).map (backI f xs) = X at hs
    cases hs with
    | nil => simp
    | snoc h1 h2 => simp at hx
  | k + 1, s', hk, hs => by
    generalize hx : (List.range (k + 1)).map (backI f xs) = X at hs
    cases hs with
    | nil => simp at hx
    | snoc h1 h2 =>
      rw [List.range_succ, List.map_append] at hx
      obtain ⟨e1, e2⟩ := List.append_inj' hx (by simp)
      subst e1
      simp only [List.map_cons, List.map_nil, List.cons.injEq, and_true] at e2
      subst e2
      obtain ⟨a, ha⟩ := get_some (l := xs) (k := xs.length - 1 - k) (by omega)
      have ih := Steps.back xs h k _ (by omega) h1
      have hd : xs.drop (xs.length - (k + 1)) = a :: xs.drop (xs.length - k) := by
        rw [show xs.length - (k + 1) = xs.length - 1 - k from by omega, List.drop_eq_getElem_cons (by omega), show xs.length - 1 - k + 1 = xs.length - k from by omega]
        congr 1
        rw [List.getElem?_eq_getElem (by omega), Option.some.injEq] at ha
        exact ha
      rw [hd, List.foldr_cons, ← ih]
      exact h _ _ _ _ ha h2
theorem Steps.backAll {α σ : Type} {Rl : σ → List Value → σ → Prop} {f : α → List Value} {step : σ → α → σ} {s0 s' : σ} (xs : List α) (h : ∀ s q a s', xs[xs.length - 1 - q]? = some a → Rl s (backI f xs q) s' → s' = step s a) (hs : Steps Rl s0 ((List.range xs.length).map (backI f xs)) s') : s' = xs.foldr (fun a s => step s a) s0 := by
  have := Steps.back xs h xs.length s' (Nat.le_refl _) hs
  rw [Nat.sub_self, List.drop_zero] at this
  exact this
theorem Rd.nil_of {w : World} {A : Option Addr} {xs : List ByteArray} (h : Rd w A 1 (xs.map strC)) (hA : A.isNone = true) : xs = [] := by
  rcases xs with _ | ⟨x, xs⟩
  · rfl
  · obtain ⟨b, j, e⟩ := Rd.some (k := 0) h (by simp)
    rw [e] at hA; cases hA
/-- Reversing in place: after k exchanges. -/
def RevAt {α : Type} (xs ys : List α) (k : Nat) : Prop := ys.length = xs.length ∧ ∀ j, j < xs.length → ys[j]? = if j < k ∨ xs.length ≤ j + k then xs[xs.length - 1 - j]? else xs[j]?
theorem RevAt.zero {α : Type} (xs : List α) : RevAt xs xs 0 := ⟨rfl, fun j hj => by rw [if_neg (by omega)]⟩
theorem RevAt.step {α : Type} {xs ys : List α} {k : Nat} {a b : α} (h : RevAt xs ys k) (hk : 2 * k + 1 < xs.length) (ha : ys[k]? = some a) (hb : ys[xs.length - 1 - k]? = some b) : RevAt xs ((ys.set k b).set (xs.length - 1 - k) a) (k + 1) := by
  obtain ⟨h1, h2⟩ := h
  refine ⟨by simp [h1], fun j hj => ?_⟩
  rw [List.getElem?_set, List.getElem?_set]
  have ha' := h2 k (by omega)
  rw [if_neg (by omega), ha] at ha'
  have hb' := h2 (xs.length - 1 - k) (by omega)
  rw [if_neg (by omega), hb] at hb'
  by_cases e1 : xs.length - 1 - k = j
  · subst e1
    rw [if_pos rfl, if_pos (by simp; omega), if_pos (by omega), ha']
    congr 1; omega
  · rw [if_neg e1]
    by_cases e2 : k = j
    · subst e2
      rw [if_pos rfl, if_pos (by omega), if_pos (by omega), hb']
    · rw [if_neg e2, h2 j hj]
      by_cases e3 : j < k ∨ xs.length ≤ j + k
      · rw [if_pos e3, if_pos (by omega)]
      · rw [if_neg e3, if_neg (by omega)]
theorem RevAt.done {α : Type} {xs ys : List α} {k : Nat} (h : RevAt xs ys k) (hk : xs.length ≤ 2 * k + 1) : ys = xs.reverse := by
  obtain ⟨h1, h2⟩ := h
  apply List.ext_getElem?
  intro j
  by_cases hj : j < xs.length
  · rw [h2 j hj, List.getElem?_reverse hj]
    split
    · rfl
    · congr 1; omega
  · rw [List.getElem?_eq_none (by omega), List.getElem?_eq_none (by simp; omega)]
end Go.Proofs.YtnadipjlhlbfoaaDoor
namespace Go.Proofs.YtnadipjlhlbfoaaDoor
set_option linter.all false
open Go Go.RowKit
set_option maxRecDepth 100000
theorem ent_45 : ∀ args w, (callFunc 45 args).run Tryd.prog w = .ok (.enter 45 args) w := enters_of Tryd.func45 (by kernel_rfl) rfl
theorem ent_68 : ∀ args w, (callFunc 68 args).run Tryd.prog w = .ok (.enter 68 args) w := enters_of Tryd.func68 (by kernel_rfl) rfl
theorem ent_84 : ∀ args w, (callFunc 84 args).run Tryd.prog w = .ok (.enter 84 args) w := enters_of Tryd.func84 (by kernel_rfl) rfl
theorem ent_69 : ∀ args w, (callFunc 69 args).run Tryd.prog w = .ok (.enter 69 args) w := enters_of Tryd.func69 (by kernel_rfl) rfl
theorem one_35 : One Tryd.prog 35 := ⟨_, Tryd.underlying35, rfl⟩
theorem one_77 : One Tryd.prog 77 := ⟨_, Tryd.underlying77, rfl⟩
theorem slt_77 : SlT Tryd.prog 77 81 2 := ⟨(Tryd.prog.info? 81).get!, Tryd.underlying77, by kernel_rfl, by kernel_rfl⟩
theorem agg_81 : AggT Tryd.prog 81 2 := ⟨_, _, Tryd.underlying81, rfl, (by kernel_rfl : Tryd.prog.info? 81 = some (Tryd.prog.info? 81).get!), by kernel_rfl⟩
set_option maxRecDepth 100000 in
theorem w_isDigest {w : World} (s : ByteArray) :
    Calls Tryd.prog 45 #[.string s] w (fun e w' => e = .returned (.bool (decide (((s.size : Nat) : Int) = 32))) ∧ SL w [] w' []) := by
  refine calls_of_CX (O := []) (L := []) (args := [.string s]) Tryd.func45 rfl (by simp [Tryd.ntmps45]) (SL.refl w) ?_
  refine CX.sub (V' := [(0, .string s)]) ⟨rfl, trivial⟩ ?_
  refine CX.seq ?_
  refine CX.region ?_
  refine RX.cons rfl rfl (op_w (yw_assign rfl rfl) rfl rfl ?_)
  refine RX.nil (XX.next (V' := [(0, .string s)]) ⟨rfl, trivial⟩ ?_)
  refine CX.seq ?_
  refine CX.region ?_
  refine RX.cons rfl rfl (op_w (yw_move rfl rfl) rfl rfl ?_)
  refine RX.cons rfl rfl (op_w (yw_lenStr rfl Tryd.underlying9 rfl) rfl rfl ?_)
  refine RX.cons rfl rfl (op_w (yw_eql rfl rfl rfl) rfl rfl ?_)
  refine RX.cons rfl rfl (op_w (yw_assign rfl rfl) rfl rfl ?_)
  refine RX.nil (XX.next (V' := [(2, .bool (decide (((ByteArray.size s : Nat) : Int) = 32)))]) ⟨rfl, trivial⟩ ?_)
  refine CX.ret ?_
  exact ret_tmp rfl rfl fun w1 hw => ⟨rfl, hw.sub (List.nil_sublist _)⟩

set_option maxRecDepth 100000 in
theorem w_all1 {w : World} (s : ByteArray) :
    Calls Tryd.prog 68 #[.string s] w (fun e w' => e = .returned (.bool (decide (¬ (((s.size : Nat) : Int) = 32)))) ∧ SL w [] w' []) := by
  refine calls_of_CX (O := []) (L := []) (args := [.string s]) Tryd.func68 rfl (by simp [Tryd.ntmps68]) (SL.refl w) ?_
  refine CX.sub (V' := [(0, .string s)]) ⟨rfl, trivial⟩ ?_
  refine CX.seq ?_
  refine CX.region ?_
  refine RX.cons rfl rfl (op_w (yw_assign rfl rfl) rfl rfl ?_)
  refine RX.nil (XX.next (V' := [(0, .string s)]) ⟨rfl, trivial⟩ ?_)
  refine CX.seq ?_
  refine CX.region ?_
  refine RX.cons rfl rfl (op_w (yw_move rfl rfl) rfl rfl ?_)
  refine RX.cons rfl rfl (op_callV (v := .bool (decide (((ByteArray.size s : Nat) : Int) = 32))) rfl rfl rfl rfl rfl ent_45 (fun w hw => w_isDigest s) ?_)
  refine RX.cons rfl rfl (op_w (yw_notD rfl rfl) rfl rfl ?_)
  refine RX.cons rfl rfl (op_w (yw_assign rfl rfl) rfl rfl ?_)
  refine RX.nil (XX.next (V' := [(2, .bool (decide (¬ (((ByteArray.size s : Nat) : Int) = 32))))]) ⟨rfl, trivial⟩ ?_)
  refine CX.ret ?_
  exact ret_tmp rfl rfl fun w1 hw => ⟨rfl, hw.sub (List.nil_sublist _)⟩

set_option maxRecDepth 100000 in
theorem w_indexD {w : World} {A : Option Addr} {cap : Nat} (xs : List ByteArray) (hr : Rd w A 1 (xs.map strC)) (hl : xs.length ≤ 281474976710656) :
    Calls Tryd.prog 84 #[.slice A xs.length cap, .func (.func 68) #[] #[]] w (fun e w' => e = .returned (.int .i64 (oddIdx xs)) ∧ SL w [] w' []) := by
  refine calls_of_CX (O := []) (L := []) (args := [.slice A xs.length cap, .func (.func 68) #[] #[]]) Tryd.func84 rfl (by simp [Tryd.ntmps84]) (SL.refl w) ?_
  refine CX.sub (V' := [(0, .slice A xs.length cap), (1, .func (.func 68) #[] #[])]) ⟨rfl, rfl, trivial⟩ ?_
  refine CX.seq ?_
  refine CX.region ?_
  refine RX.cons rfl rfl (op_w (yw_assign rfl rfl) rfl rfl ?_)
  refine RX.nil (XX.next (V' := [(0, .slice A xs.length cap), (1, .func (.func 68) #[] #[])]) ⟨rfl, rfl, trivial⟩ ?_)
  refine CX.seq ?_
  refine CX.seq ?_
  refine CX.region ?_
  refine RX.cons rfl rfl (op_w (yw_move rfl rfl) rfl rfl ?_)
  refine RX.cons rfl rfl (op_w (yw_lenS rfl Tryd.underlying35 rfl) rfl rfl ?_)
  refine RX.cons rfl rfl (op_w (yw_move rfl rfl) rfl rfl ?_)
  refine RX.nil (XX.next (V' := [(0, .slice A xs.length cap), (1, .func (.func 68) #[] #[]), (7, .int .i64 ((xs.length : Nat) : Int)), (8, .int .i64 0)]) ⟨rfl, rfl, rfl, rfl, trivial⟩ ?_)
  refine CX.block ?_
  refine CX.loop (σ := Nat) (fun i => [(0, .slice A xs.length cap), (1, .func (.func 68) #[] #[]), (7, .int .i64 ((xs.length : Nat) : Int)), (8, .int .i64 ((i : Nat) : Int))]) (fun i => []) (fun i => i ≤ xs.length ∧ ∀ x ∈ xs.take i, x.size = 32) (fun i => xs.length - i) 0 ⟨Nat.zero_le _, by simp⟩ ⟨rfl, rfl, rfl, rfl, trivial⟩ rfl (fun i hI => ?_)
  obtain ⟨hi, hall⟩ := hI
  refine CX.seq ?_
  refine CX.region ?_
  refine RX.cons rfl rfl (op_w (yw_lss rfl rfl rfl) rfl rfl ?_)
  refine RX.nil (XX.next (V' := [(0, .slice A xs.length cap), (1, .func (.func 68) #[] #[]), (7, .int .i64 ((xs.length : Nat) : Int)), (8, .int .i64 ((i : Nat) : Int)), (9, .bool (decide (((i : Nat) : Int) < ((xs.length : Nat) : Int))))]) ⟨rfl, rfl, rfl, rfl, rfl, trivial⟩ ?_)
  refine CX.seq ?_
  refine CX.condD (p := ((i : Nat) : Int) < ((xs.length : Nat) : Int)) rfl (fun c9 => ?_) (fun c9 => ?_)
  · obtain ⟨s0, hs0⟩ := get_some (l := xs) (k := i) (by omega)
    have hA : ∃ b j, A = some ⟨b, j, none⟩ := hr.some (k := 0) (by simp; omega)
    refine CX.skip (XX.next (V' := [(0, .slice A xs.length cap), (1, .func (.func 68) #[] #[]), (7, .int .i64 ((xs.length : Nat) : Int)), (8, .int .i64 ((i : Nat) : Int))]) ⟨rfl, rfl, rfl, rfl, trivial⟩ ?_)
    refine CX.seq ?_
    refine CX.block ?_
    refine CX.seq ?_
    refine CX.region ?_
    refine RX.cons rfl rfl (op_w (yw_move rfl rfl) rfl rfl ?_)
    refine RX.cons rfl rfl (op_w (yw_assign rfl rfl) rfl rfl ?_)
    refine RX.nil (XX.next (V' := [(0, .slice A xs.length cap), (1, .func (.func 68) #[] #[]), (5, .int .i64 ((i : Nat) : Int)), (7, .int .i64 ((xs.length : Nat) : Int)), (8, .int .i64 ((i : Nat) : Int))]) ⟨rfl, rfl, rfl, rfl, rfl, trivial⟩ ?_)
    refine CX.seq ?_
    refine CX.region ?_
    refine RX.cons rfl rfl (op_w (yw_move rfl rfl) rfl rfl ?_)
    refine RX.cons rfl rfl (op_w (yw_move rfl rfl) rfl rfl ?_)
    refine RX.cons rfl rfl (op_w (yw_move rfl rfl) rfl rfl ?_)
    refine RX.cons rfl rfl (op_w (yw_index (k := i) rfl slt_35 rfl rfl (by omega) (by omega) hA) rfl rfl ?_)
    refine RX.cons rfl rfl (op_yld (y_elem1 rfl rfl one_9 hr (by simp) (map_get hs0)) rfl rfl ?_)
    refine RX.cons rfl rfl (op_callV (v := .bool (decide (¬ (((ByteArray.size s0 : Nat) : Int) = 32)))) rfl rfl rfl rfl rfl ent_68 (fun w hw => w_all1 s0) ?_)
    refine RX.nil (XX.next (V' := [(0, .slice A xs.length cap), (1, .func (.func 68) #[] #[]), (5, .int .i64 ((i : Nat) : Int)), (7, .int .i64 ((xs.length : Nat) : Int)), (8, .int .i64 ((i : Nat) : Int)), (16, .bool (decide (¬ (((ByteArray.size s0 : Nat) : Int) = 32))))]) ⟨rfl, rfl, rfl, rfl, rfl, rfl, trivial⟩ ?_)
    refine CX.condD (p := ¬ (((ByteArray.size s0 : Nat) : Int) = 32)) rfl (fun c16 => ?_) (fun c16 => ?_)
    · refine CX.seq ?_
      refine CX.region ?_
      refine RX.cons rfl rfl (op_w (yw_move rfl rfl) rfl rfl ?_)
      refine RX.cons rfl rfl (op_w (yw_assign rfl rfl) rfl rfl ?_)
      refine RX.nil (XX.next (V' := [(4, .int .i64 ((i : Nat) : Int))]) ⟨rfl, trivial⟩ ?_)
      refine CX.ret ?_
      refine XX.block_ret ?_
      refine XX.then_ret ?_
      refine XX.then_ret ?_
      refine XX.block_ret ?_
      refine XX.then_ret ?_
      exact ret_tmp rfl rfl fun w1 hw => ⟨by rw [oddIdx_at hs0 (by omega) hall], hw.sub (List.nil_sublist _)⟩
    · refine CX.skip (XX.inBlock (V' := [(0, .slice A xs.length cap), (1, .func (.func 68) #[] #[]), (7, .int .i64 ((xs.length : Nat) : Int)), (8, .int .i64 ((i : Nat) : Int))]) ⟨rfl, rfl, rfl, rfl, trivial⟩ ?_)
      refine XX.next (V' := [(0, .slice A xs.length cap), (1, .func (.func 68) #[] #[]), (7, .int .i64 ((xs.length : Nat) : Int)), (8, .int .i64 ((i : Nat) : Int))]) ⟨rfl, rfl, rfl, rfl, trivial⟩ ?_
      refine CX.region ?_
      refine RX.cons rfl rfl (op_w (yw_add rfl rfl rfl (by omega) (by omega)) rfl rfl ?_)
      refine RX.cons rfl rfl (op_w (yw_move rfl rfl) rfl rfl ?_)
      refine RX.nil (XX.againP ([]) (i + 1) (by omega) ⟨by omega, all_snoc hs0 (by omega) hall⟩ ⟨rfl, rfl, rfl, rfl, trivial⟩ (List.Perm.refl _))
  · rw [List.take_of_length_le (by omega)] at hall
    refine CX.exit ?_
    refine XX.then_exit ?_
    refine XX.then_exit ?_
    refine XX.block_exit ?_
    refine XX.next (V' := []) trivial ?_
    refine CX.seq ?_
    refine CX.region ?_
    refine RX.cons rfl rfl (op_w (yw_assign rfl rfl) rfl rfl ?_)
    refine RX.nil (XX.next (V' := [(4, .int .i64 (-1))]) ⟨rfl, trivial⟩ ?_)
    refine CX.ret ?_
    exact ret_tmp rfl rfl fun w1 hw => ⟨by rw [oddIdx_none hall], hw.sub (List.nil_sublist _)⟩

set_option maxRecDepth 100000 in
theorem w_containsD {w : World} {A : Option Addr} {cap : Nat} (xs : List ByteArray) (hr : Rd w A 1 (xs.map strC)) (hl : xs.length ≤ 281474976710656) :
    Calls Tryd.prog 69 #[.slice A xs.length cap, .func (.func 68) #[] #[]] w (fun e w' => e = .returned (.bool (decide (0 ≤ oddIdx xs))) ∧ SL w [] w' []) := by
  refine calls_of_CX (O := []) (L := []) (args := [.slice A xs.length cap, .func (.func 68) #[] #[]]) Tryd.func69 rfl (by simp [Tryd.ntmps69]) (SL.refl w) ?_
  refine CX.sub (V' := [(0, .slice A xs.length cap), (1, .func (.func 68) #[] #[])]) ⟨rfl, rfl, trivial⟩ ?_
  refine CX.seq ?_
  refine CX.region ?_
  refine RX.cons rfl rfl (op_w (yw_assign rfl rfl) rfl rfl ?_)
  refine RX.nil (XX.next (V' := [(0, .slice A xs.length cap), (1, .func (.func 68) #[] #[])]) ⟨rfl, rfl, trivial⟩ ?_)
  refine CX.seq ?_
  refine CX.region ?_
  refine RX.cons rfl rfl (op_w (yw_move rfl rfl) rfl rfl ?_)
  refine RX.cons rfl rfl (op_w (yw_move rfl rfl) rfl rfl ?_)
  refine RX.cons rfl rfl (op_callV (v := .int .i64 (oddIdx xs)) rfl rfl rfl rfl rfl ent_84 (fun w hw => w_indexD xs (hw.rd hr (by simp)) hl) ?_)
  refine RX.cons rfl rfl (op_w (yw_geq rfl rfl rfl) rfl rfl ?_)
  refine RX.cons rfl rfl (op_w (yw_assign rfl rfl) rfl rfl ?_)
  refine RX.nil (XX.next (V' := [(4, .bool (decide (0 ≤ oddIdx xs)))]) ⟨rfl, trivial⟩ ?_)
  refine CX.ret ?_
  exact ret_tmp rfl rfl fun w1 hw => ⟨rfl, hw.sub (List.nil_sublist _)⟩

set_option maxRecDepth 100000 in
theorem w_all {w : World} {A : Option Addr} {cap : Nat} (xs : List ByteArray) (hr : Rd w A 1 (xs.map strC)) (hl : xs.length ≤ 281474976710656) :
    Calls Tryd.prog 44 #[.slice A xs.length cap] w (fun e w' => e = .returned (.bool (decide (∀ x ∈ xs, x.size = 32))) ∧ SL w [] w' []) := by
  refine calls_of_CX (O := []) (L := []) (args := [.slice A xs.length cap]) Tryd.func44 rfl (by simp [Tryd.ntmps44]) (SL.refl w) ?_
  refine CX.sub (V' := [(0, .slice A xs.length cap)]) ⟨rfl, trivial⟩ ?_
  refine CX.seq ?_
  refine CX.region ?_
  refine RX.cons rfl rfl (op_w (yw_assign rfl rfl) rfl rfl ?_)
  refine RX.nil (XX.next (V' := [(0, .slice A xs.length cap)]) ⟨rfl, trivial⟩ ?_)
  refine CX.seq ?_
  refine CX.region ?_
  refine RX.cons rfl rfl (op_w (yw_assign rfl rfl) rfl rfl ?_)
  refine RX.nil (XX.next (V' := [(0, .slice A xs.length cap), (3, .func (.func 68) #[] #[])]) ⟨rfl, rfl, trivial⟩ ?_)
  refine CX.seq ?_
  refine CX.region ?_
  refine RX.cons rfl rfl (op_w (yw_move rfl rfl) rfl rfl ?_)
  refine RX.cons rfl rfl (op_w (yw_move rfl rfl) rfl rfl ?_)
  refine RX.cons rfl rfl (op_callV (v := .bool (decide (0 ≤ oddIdx xs))) rfl rfl rfl rfl rfl ent_69 (fun w hw => w_containsD xs (hw.rd hr (by simp)) hl) ?_)
  refine RX.cons rfl rfl (op_w (yw_notD rfl rfl) rfl rfl ?_)
  refine RX.know (t := 7) (u := .bool (decide (∀ x ∈ xs, x.size = 32))) rfl (congrArg Value.bool (decide_eq_decide.2 (by rw [oddIdx_iff]; exact Decidable.not_not))) ?_
  refine RX.cons rfl rfl (op_w (yw_assign rfl rfl) rfl rfl ?_)
  refine RX.nil (XX.next (V' := [(2, .bool (decide (∀ x ∈ xs, x.size = 32)))]) ⟨rfl, trivial⟩ ?_)
  refine CX.ret ?_
  exact ret_tmp rfl rfl fun w1 hw => ⟨rfl, hw.sub (List.nil_sublist _)⟩

set_option maxRecDepth 100000 in
theorem w_take0 {w : World} {A : Option Addr} {cap : Nat} :
    Calls Tryd.prog 47 #[.slice A 0 cap] w (fun e w' => e = .returned (.tuple #[.string .empty, .slice none 0 0, .bool false]) ∧ SL w [] w' []) := by
  refine calls_of_CX (O := []) (L := []) (args := [.slice A 0 cap]) Tryd.func47 rfl (by simp [Tryd.ntmps47]) (SL.refl w) ?_
  refine CX.sub (V' := [(0, .slice A 0 cap)]) ⟨rfl, trivial⟩ ?_
  refine CX.seq ?_
  refine CX.region ?_
  refine RX.cons rfl rfl (op_w (yw_assign rfl rfl) rfl rfl ?_)
  refine RX.cons rfl rfl (op_w (yw_assign rfl rfl) rfl rfl ?_)
  refine RX.cons rfl rfl (op_w (yw_assign rfl rfl) rfl rfl ?_)
  refine RX.nil (XX.next (V' := [(0, .slice A 0 cap)]) ⟨rfl, trivial⟩ ?_)
  refine CX.seq ?_
  refine CX.seq ?_
  refine CX.region ?_
  refine RX.cons rfl rfl (op_w (yw_move rfl rfl) rfl rfl ?_)
  refine RX.cons rfl rfl (op_w (yw_lenS rfl Tryd.underlying35 rfl) rfl rfl ?_)
  refine RX.cons rfl rfl (op_w (yw_eql rfl rfl rfl) rfl rfl ?_)
  refine RX.nil (XX.next (V' := [(0, .slice A 0 cap), (8, .bool (decide (((0 : Nat) : Int) = 0)))]) ⟨rfl, rfl, trivial⟩ ?_)
  refine CX.condD (p := ((0 : Nat) : Int) = 0) rfl (fun c8 => ?_) (fun c8 => ?_)
  · refine CX.seq ?_
    refine CX.region ?_
    refine RX.cons rfl rfl (op_w (yw_assign rfl rfl) rfl rfl ?_)
    refine RX.cons rfl rfl (op_w (yw_assign rfl rfl) rfl rfl ?_)
    refine RX.cons rfl rfl (op_w (yw_assign rfl rfl) rfl rfl ?_)
    refine RX.nil (XX.next (V' := [(2, .string .empty), (3, .slice none 0 0), (4, .bool false)]) ⟨rfl, rfl, rfl, trivial⟩ ?_)
    refine CX.ret ?_
    refine XX.then_ret ?_
    exact ret_tmp3 rfl rfl rfl rfl fun w1 hw => ⟨rfl, hw.sub (List.nil_sublist _)⟩
  · exfalso; omega

set_option maxRecDepth 100000 in
theorem w_take {w : World} {A : Option Addr} {cap : Nat} (xs : List ByteArray) (hr : Rd w A 1 (xs.map strC)) (s : ByteArray) (hs : xs[xs.length - 1]? = some s) (hl : 1 ≤ xs.length) (hcap : xs.length ≤ cap) (hm : xs.length ≤ 281474976710656) :
    Calls Tryd.prog 47 #[.slice A xs.length cap] w (fun e w' => e = .returned (.tuple #[.string s, .slice A (xs.length - 1) cap, .bool true]) ∧ SL w [] w' []) := by
  have hA : ∃ b j, A = some ⟨b, j, none⟩ := hr.some (k := 0) (by simp; omega)
  refine calls_of_CX (O := []) (L := []) (args := [.slice A xs.length cap]) Tryd.func47 rfl (by simp [Tryd.ntmps47]) (SL.refl w) ?_
  refine CX.sub (V' := [(0, .slice A xs.length cap)]) ⟨rfl, trivial⟩ ?_
  refine CX.seq ?_
  refine CX.region ?_
  refine RX.cons rfl rfl (op_w (yw_assign rfl rfl) rfl rfl ?_)
  refine RX.cons rfl rfl (op_w (yw_assign rfl rfl) rfl rfl ?_)
  refine RX.cons rfl rfl (op_w (yw_assign rfl rfl) rfl rfl ?_)
  refine RX.nil (XX.next (V' := [(0, .slice A xs.length cap)]) ⟨rfl, trivial⟩ ?_)
  refine CX.seq ?_
  refine CX.seq ?_
  refine CX.region ?_
  refine RX.cons rfl rfl (op_w (yw_move rfl rfl) rfl rfl ?_)
  refine RX.cons rfl rfl (op_w (yw_lenS rfl Tryd.underlying35 rfl) rfl rfl ?_)
  refine RX.cons rfl rfl (op_w (yw_eql rfl rfl rfl) rfl rfl ?_)
  refine RX.nil (XX.next (V' := [(0, .slice A xs.length cap), (8, .bool (decide (((xs.length : Nat) : Int) = 0)))]) ⟨rfl, rfl, trivial⟩ ?_)
  refine CX.condD (p := ((xs.length : Nat) : Int) = 0) rfl (fun c8 => ?_) (fun c8 => ?_)
  · exfalso; omega
  · refine CX.skip (XX.next (V' := [(0, .slice A xs.length cap)]) ⟨rfl, trivial⟩ ?_)
    refine CX.seq ?_
    refine CX.region ?_
    refine RX.cons rfl rfl (op_w (yw_move rfl rfl) rfl rfl ?_)
    refine RX.cons rfl rfl (op_w (yw_lenS rfl Tryd.underlying35 rfl) rfl rfl ?_)
    refine RX.cons rfl rfl (op_w (yw_sub rfl rfl rfl (by omega) (by omega)) rfl rfl ?_)
    refine RX.know (t := 11) (u := .int .i64 ((xs.length - 1 : Nat) : Int)) rfl (congrArg (Value.int .i64) (by omega)) ?_
    refine RX.cons rfl rfl (op_w (yw_assign rfl rfl) rfl rfl ?_)
    refine RX.nil (XX.next (V' := [(0, .slice A xs.length cap), (5, .int .i64 ((xs.length - 1 : Nat) : Int))]) ⟨rfl, rfl, trivial⟩ ?_)
    refine CX.seq ?_
    refine CX.draw 10 [(0, 1, 4096), (0, 32, 8192), (3, 12288, 16384), (4, 16384, 32768), (0, 1, 65536), (0, 32, 131072), (48, 196608, 262144), (15, 32768, 4), (255, 262144, 8), (511, 0, 16)] (by kernel_rfl) (by kernel_rfl) (by kernel_rfl) ?_
    refine DX.takeW 0 1 (by kernel_rfl) rfl rfl rfl rfl rfl (yw_move rfl rfl) ?_
    refine DX.takeW 1 3 (by kernel_rfl) rfl rfl rfl rfl rfl (yw_move rfl rfl) ?_
    refine DX.takeW 2 7 (by kernel_rfl) rfl rfl rfl rfl rfl (yw_index (k := (xs.length - 1)) rfl slt_35 rfl rfl (by omega) (by omega) hA) ?_
    refine DX.take 3 15 (by kernel_rfl) rfl rfl rfl rfl rfl (List.nil_sublist _) (y_elem1 rfl rfl one_9 hr (by simp) (map_get hs)) ?_
    refine DX.takeW 4 31 (by kernel_rfl) rfl rfl rfl rfl rfl (yw_move rfl rfl) ?_
    refine DX.takeW 5 63 (by kernel_rfl) rfl rfl rfl rfl rfl (yw_move rfl rfl) ?_
    refine DX.takeW 6 127 (by kernel_rfl) rfl rfl rfl rfl rfl (yw_sliceTo (k := (xs.length - 1)) rfl slt_35 rfl rfl (by omega) (by omega)) ?_
    refine DX.takeW 7 255 (by kernel_rfl) rfl rfl rfl rfl rfl (yw_assign rfl rfl) ?_
    refine DX.takeW 8 511 (by kernel_rfl) rfl rfl rfl rfl rfl (yw_assign rfl rfl) ?_
    refine DX.takeW 9 1023 (by kernel_rfl) rfl rfl rfl rfl rfl (yw_assign rfl rfl) ?_
    refine DX.done (by kernel_rfl) (XX.next (V' := [(2, .string s), (3, .slice A (xs.length - 1) cap), (4, .bool true)]) ⟨rfl, rfl, rfl, trivial⟩ ?_)
    refine CX.ret ?_
    exact ret_tmp3 rfl rfl rfl rfl fun w1 hw => ⟨rfl, hw.sub (List.nil_sublist _)⟩

set_option maxRecDepth 100000 in
theorem w_backS {w : World} (A : Option Addr) (n c : Nat) :
    Calls Tryd.prog 55 #[.slice A n c] w (fun e w' => ∃ z : Nat, True ∧ e = .returned (.func (.func 78) #[] #[.pointer (some ⟨z, 0, none⟩)]) ∧ SL w [] w' [.blk z (.cells #[.slice A n c] 35 (0, 0))]) := by
  refine calls_of_CX (O := []) (L := []) (args := [.slice A n c]) Tryd.func55 rfl (by simp [Tryd.ntmps55]) (SL.refl w) ?_
  refine CX.sub (V' := [(0, .slice A n c)]) ⟨rfl, trivial⟩ ?_
  refine CX.seq ?_
  refine CX.region ?_
  refine RX.cons rfl rfl (op_box rfl rfl rfl rfl fun gm => ?_)
  refine RX.cons rfl rfl (op_w (yw_assign rfl rfl) rfl rfl ?_)
  refine RX.nil (XX.next (V' := [(1, .pointer (some ⟨gm, 0, none⟩))]) ⟨rfl, trivial⟩ ?_)
  refine CX.seq ?_
  refine CX.region ?_
  refine RX.cons rfl rfl (op_w (yw_makeFunc rfl rfl rfl) rfl rfl ?_)
  refine RX.cons rfl rfl (op_w (yw_assign rfl rfl) rfl rfl ?_)
  refine RX.nil (XX.next (V' := [(2, .func (.func 78) #[] #[.pointer (some ⟨gm, 0, none⟩)])]) ⟨rfl, trivial⟩ ?_)
  refine CX.ret ?_
  exact ret_tmp rfl rfl fun w1 hw => ⟨gm, trivial, rfl, hw⟩

set_option maxRecDepth 100000 in
theorem w_backS1 {w : World} {l Dk : Nat} {rec : Loop} {σ : Type} {St : σ → List Ent} {Rl : σ → List Value → σ → Prop} {ok : List Value → Prop} (s0 : σ) (hy : YieldG Tryd.prog w ((RB l Dk rec ++ St s0).flatMap Ent.blocks) l Dk rec St Rl ok) {A : Option Addr} {cap g1 : Nat} (xs : List ByteArray) (hr : Rd w A 1 (xs.map strC)) (hAO : ab A ∉ ((RB l Dk rec ++ St s0).flatMap Ent.blocks)) (h1 : w.cell? ⟨g1, 0, none⟩ = some (.slice A xs.length cap)) (hO1 : g1 ∉ ((RB l Dk rec ++ St s0).flatMap Ent.blocks)) (hl : xs.length ≤ 281474976710656) (hok : ∀ q, q < xs.length → ok (backI strV xs q)) (hs : SL w ((RB l Dk rec ++ St s0).flatMap Ent.blocks) w (RB l Dk rec ++ St s0)) :
    Calls Tryd.prog 78 #[.func (.yield l) #[] #[], .pointer (some ⟨g1, 0, none⟩)] w (fun e w' => ∃ s', Steps Rl s0 ((List.range xs.length).map (backI strV xs)) s' ∧ e = .returned (.tuple #[]) ∧ SL w ((RB l Dk rec ++ St s0).flatMap Ent.blocks) w' (RB l Dk rec ++ St s')) := by
  refine calls_of_CX (O := ((RB l Dk rec ++ St s0).flatMap Ent.blocks)) (L := ([.blk l (.loop rec), .blk Dk (.deferred (some []))] ++ (St s0))) (args := [.func (.yield l) #[] #[], .pointer (some ⟨g1, 0, none⟩)]) Tryd.func78 rfl (by simp [Tryd.ntmps78]) hs ?_
  refine CX.sub (V' := [(0, .func (.yield l) #[] #[]), (1, .pointer (some ⟨g1, 0, none⟩))]) ⟨rfl, rfl, trivial⟩ ?_
  refine CX.seq ?_
  refine CX.region ?_
  refine RX.cons rfl rfl (op_yld (y_loadG (v := .slice A xs.length cap) rfl rfl one_35 h1 hO1) rfl rfl ?_)
  refine RX.cons rfl rfl (op_w (yw_lenS rfl Tryd.underlying35 rfl) rfl rfl ?_)
  refine RX.cons rfl rfl (op_w (yw_sub rfl rfl rfl (by omega) (by omega)) rfl rfl ?_)
  refine RX.know (t := 6) (u := .int .i64 (((xs.length : Nat) : Int) - 1 - ((0 : Nat) : Int))) rfl (congrArg (Value.int .i64) (by omega)) ?_
  refine RX.cons rfl rfl (op_w (yw_assign rfl rfl) rfl rfl ?_)
  refine RX.nil (XX.next (V' := [(0, .func (.yield l) #[] #[]), (1, .pointer (some ⟨g1, 0, none⟩)), (3, .int .i64 (((xs.length : Nat) : Int) - 1 - ((0 : Nat) : Int)))]) ⟨rfl, rfl, rfl, trivial⟩ ?_)
  refine CX.block ?_
  refine CX.loop (σ := Nat × σ) (fun z => [(0, .func (.yield l) #[] #[]), (1, .pointer (some ⟨g1, 0, none⟩)), (3, .int .i64 (((xs.length : Nat) : Int) - 1 - ((z.1 : Nat) : Int)))]) (fun z => ([.blk l (.loop rec), .blk Dk (.deferred (some []))] ++ (St z.2))) (fun z => z.1 ≤ xs.length ∧ Steps Rl s0 ((List.range z.1).map (backI strV xs)) z.2) (fun z => xs.length - z.1) (0, s0) ⟨Nat.zero_le _, .nil s0⟩ ⟨rfl, rfl, rfl, trivial⟩ rfl (fun z hI => ?_)
  obtain ⟨q, s⟩ := z
  dsimp only at hI ⊢
  obtain ⟨hq, hst⟩ := hI
  refine CX.seq ?_
  refine CX.seq ?_
  refine CX.region ?_
  refine RX.cons rfl rfl (op_w (yw_move rfl rfl) rfl rfl ?_)
  refine RX.cons rfl rfl (op_w (yw_geq rfl rfl rfl) rfl rfl ?_)
  refine RX.nil (XX.next (V' := [(0, .func (.yield l) #[] #[]), (1, .pointer (some ⟨g1, 0, none⟩)), (3, .int .i64 (((xs.length : Nat) : Int) - 1 - ((q : Nat) : Int))), (8, .bool (decide (0 ≤ ((xs.length : Nat) : Int) - 1 - ((q : Nat) : Int))))]) ⟨rfl, rfl, rfl, rfl, trivial⟩ ?_)
  refine CX.condD (p := 0 ≤ ((xs.length : Nat) : Int) - 1 - ((q : Nat) : Int)) rfl (fun c8 => ?_) (fun c8 => ?_)
  · obtain ⟨a0, ha0⟩ := get_some (l := xs) (k := xs.length - 1 - q) (by omega)
    have hA : ∃ b j, A = some ⟨b, j, none⟩ := hr.some (k := 0) (by simp; omega)
    have hbi : backI strV xs q = [.int .i64 ((xs.length - 1 - q : Nat) : Int), .string a0] := by simp [backI, ha0, strV]
    refine CX.skip (XX.next (V' := [(0, .func (.yield l) #[] #[]), (1, .pointer (some ⟨g1, 0, none⟩)), (3, .int .i64 (((xs.length : Nat) : Int) - 1 - ((q : Nat) : Int)))]) ⟨rfl, rfl, rfl, trivial⟩ ?_)
    refine CX.seq ?_
    refine CX.block ?_
    refine CX.seq ?_
    refine CX.region ?_
    refine RX.cons rfl rfl (op_w (yw_move rfl rfl) rfl rfl ?_)
    refine RX.cons rfl rfl (op_w (yw_move rfl rfl) rfl rfl ?_)
    refine RX.know (t := 12) (u := .int .i64 ((xs.length - 1 - q : Nat) : Int)) rfl (congrArg (Value.int .i64) (by omega)) ?_
    refine RX.cons rfl rfl (op_yld (y_loadG (v := .slice A xs.length cap) rfl rfl one_35 h1 hO1) rfl rfl ?_)
    refine RX.cons rfl rfl (op_w (yw_move rfl rfl) rfl rfl ?_)
    refine RX.know (t := 14) (u := .int .i64 ((xs.length - 1 - q : Nat) : Int)) rfl (congrArg (Value.int .i64) (by omega)) ?_
    refine RX.cons rfl rfl (op_w (yw_index (k := (xs.length - 1 - q)) rfl slt_35 rfl rfl (by omega) (by omega) hA) rfl rfl ?_)
    refine RX.cons rfl rfl (op_yld (y_elem1 rfl rfl one_9 hr hAO (map_get ha0)) rfl rfl ?_)
    refine RX.cons rfl rfl (op_yieldG s hy rfl rfl rfl rfl rfl (by have := hok q (by omega); rw [hbi] at this; exact this) rfl (fun s' hs' => ?_))
    refine RX.cons rfl rfl (op_w (yw_not rfl rfl) rfl rfl ?_)
    refine RX.nil (XX.next (V' := [(0, .func (.yield l) #[] #[]), (1, .pointer (some ⟨g1, 0, none⟩)), (3, .int .i64 (((xs.length : Nat) : Int) - 1 - ((q : Nat) : Int))), (18, .bool false)]) ⟨rfl, rfl, rfl, rfl, trivial⟩ ?_)
    refine CX.condF rfl ?_
    refine CX.skip (XX.inBlock (V' := [(0, .func (.yield l) #[] #[]), (1, .pointer (some ⟨g1, 0, none⟩)), (3, .int .i64 (((xs.length : Nat) : Int) - 1 - ((q : Nat) : Int)))]) ⟨rfl, rfl, rfl, trivial⟩ ?_)
    refine XX.next (V' := [(0, .func (.yield l) #[] #[]), (1, .pointer (some ⟨g1, 0, none⟩)), (3, .int .i64 (((xs.length : Nat) : Int) - 1 - ((q : Nat) : Int)))]) ⟨rfl, rfl, rfl, trivial⟩ ?_
    refine CX.region ?_
    refine RX.cons rfl rfl (op_w (yw_move rfl rfl) rfl rfl ?_)
    refine RX.cons rfl rfl (op_w (yw_sub rfl rfl rfl (by omega) (by omega)) rfl rfl ?_)
    refine RX.know (t := 10) (u := .int .i64 (((xs.length : Nat) : Int) - 1 - (((q + 1 : Nat)) : Int))) rfl (congrArg (Value.int .i64) (by omega)) ?_
    refine RX.cons rfl rfl (op_w (yw_assign rfl rfl) rfl rfl ?_)
    refine RX.nil (XX.againP ([]) (q + 1, s') (by dsimp only; omega) ⟨by dsimp only; omega, by dsimp only; rw [List.range_succ, List.map_append]; refine .snoc hst ?_; rw [hbi]; exact hs'⟩ ⟨rfl, rfl, rfl, trivial⟩ (perm_nil _))
  · refine CX.exit ?_
    refine XX.then_exit ?_
    refine XX.then_exit ?_
    refine XX.block_exit ?_
    exact end_none rfl fun w1 hw => ⟨s, (show xs.length = q from by omega) ▸ hst, rfl, hw⟩

set_option maxRecDepth 100000 in
theorem w_backD {w : World} (A : Option Addr) (n c : Nat) :
    Calls Tryd.prog 49 #[.slice A n c] w (fun e w' => ∃ z : Nat, True ∧ e = .returned (.func (.func 74) #[] #[.pointer (some ⟨z, 0, none⟩)]) ∧ SL w [] w' [.blk z (.cells #[.slice A n c] 77 (0, 0))]) := by
  refine calls_of_CX (O := []) (L := []) (args := [.slice A n c]) Tryd.func49 rfl (by simp [Tryd.ntmps49]) (SL.refl w) ?_
  refine CX.sub (V' := [(0, .slice A n c)]) ⟨rfl, trivial⟩ ?_
  refine CX.seq ?_
  refine CX.region ?_
  refine RX.cons rfl rfl (op_box rfl rfl rfl rfl fun gm => ?_)
  refine RX.cons rfl rfl (op_w (yw_assign rfl rfl) rfl rfl ?_)
  refine RX.nil (XX.next (V' := [(1, .pointer (some ⟨gm, 0, none⟩))]) ⟨rfl, trivial⟩ ?_)
  refine CX.seq ?_
  refine CX.region ?_
  refine RX.cons rfl rfl (op_w (yw_makeFunc rfl rfl rfl) rfl rfl ?_)
  refine RX.cons rfl rfl (op_w (yw_assign rfl rfl) rfl rfl ?_)
  refine RX.nil (XX.next (V' := [(2, .func (.func 74) #[] #[.pointer (some ⟨gm, 0, none⟩)])]) ⟨rfl, trivial⟩ ?_)
  refine CX.ret ?_
  exact ret_tmp rfl rfl fun w1 hw => ⟨gm, trivial, rfl, hw⟩

set_option maxRecDepth 100000 in
theorem w_backD1 {w : World} {l Dk : Nat} {rec : Loop} {σ : Type} {St : σ → List Ent} {Rl : σ → List Value → σ → Prop} {ok : List Value → Prop} (s0 : σ) (hy : YieldG Tryd.prog w ((RB l Dk rec ++ St s0).flatMap Ent.blocks) l Dk rec St Rl ok) {A : Option Addr} {cap g1 : Nat} (xs : List (ByteArray × Bool)) (hr : Rd w A 2 (xs.map sideC)) (hAO : ab A ∉ ((RB l Dk rec ++ St s0).flatMap Ent.blocks)) (h1 : w.cell? ⟨g1, 0, none⟩ = some (.slice A xs.length cap)) (hO1 : g1 ∉ ((RB l Dk rec ++ St s0).flatMap Ent.blocks)) (hl : xs.length ≤ 281474976710656) (hok : ∀ q, q < xs.length → ok (backI sideV xs q)) (hs : SL w ((RB l Dk rec ++ St s0).flatMap Ent.blocks) w (RB l Dk rec ++ St s0)) :
    Calls Tryd.prog 74 #[.func (.yield l) #[] #[], .pointer (some ⟨g1, 0, none⟩)] w (fun e w' => ∃ s', Steps Rl s0 ((List.range xs.length).map (backI sideV xs)) s' ∧ e = .returned (.tuple #[]) ∧ SL w ((RB l Dk rec ++ St s0).flatMap Ent.blocks) w' (RB l Dk rec ++ St s')) := by
  refine calls_of_CX (O := ((RB l Dk rec ++ St s0).flatMap Ent.blocks)) (L := ([.blk l (.loop rec), .blk Dk (.deferred (some []))] ++ (St s0))) (args := [.func (.yield l) #[] #[], .pointer (some ⟨g1, 0, none⟩)]) Tryd.func74 rfl (by simp [Tryd.ntmps74]) hs ?_
  refine CX.sub (V' := [(0, .func (.yield l) #[] #[]), (1, .pointer (some ⟨g1, 0, none⟩))]) ⟨rfl, rfl, trivial⟩ ?_
  refine CX.seq ?_
  refine CX.region ?_
  refine RX.cons rfl rfl (op_yld (y_loadG (v := .slice A xs.length cap) rfl rfl one_77 h1 hO1) rfl rfl ?_)
  refine RX.cons rfl rfl (op_w (yw_lenS rfl Tryd.underlying77 rfl) rfl rfl ?_)
  refine RX.cons rfl rfl (op_w (yw_sub rfl rfl rfl (by omega) (by omega)) rfl rfl ?_)
  refine RX.know (t := 6) (u := .int .i64 (((xs.length : Nat) : Int) - 1 - ((0 : Nat) : Int))) rfl (congrArg (Value.int .i64) (by omega)) ?_
  refine RX.cons rfl rfl (op_w (yw_assign rfl rfl) rfl rfl ?_)
  refine RX.nil (XX.next (V' := [(0, .func (.yield l) #[] #[]), (1, .pointer (some ⟨g1, 0, none⟩)), (3, .int .i64 (((xs.length : Nat) : Int) - 1 - ((0 : Nat) : Int)))]) ⟨rfl, rfl, rfl, trivial⟩ ?_)
  refine CX.block ?_
  refine CX.loop (σ := Nat × σ) (fun z => [(0, .func (.yield l) #[] #[]), (1, .pointer (some ⟨g1, 0, none⟩)), (3, .int .i64 (((xs.length : Nat) : Int) - 1 - ((z.1 : Nat) : Int)))]) (fun z => ([.blk l (.loop rec), .blk Dk (.deferred (some []))] ++ (St z.2))) (fun z => z.1 ≤ xs.length ∧ Steps Rl s0 ((List.range z.1).map (backI sideV xs)) z.2) (fun z => xs.length - z.1) (0, s0) ⟨Nat.zero_le _, .nil s0⟩ ⟨rfl, rfl, rfl, trivial⟩ rfl (fun z hI => ?_)
  obtain ⟨q, s⟩ := z
  dsimp only at hI ⊢
  obtain ⟨hq, hst⟩ := hI
  refine CX.seq ?_
  refine CX.seq ?_
  refine CX.region ?_
  refine RX.cons rfl rfl (op_w (yw_move rfl rfl) rfl rfl ?_)
  refine RX.cons rfl rfl (op_w (yw_geq rfl rfl rfl) rfl rfl ?_)
  refine RX.nil (XX.next (V' := [(0, .func (.yield l) #[] #[]), (1, .pointer (some ⟨g1, 0, none⟩)), (3, .int .i64 (((xs.length : Nat) : Int) - 1 - ((q : Nat) : Int))), (8, .bool (decide (0 ≤ ((xs.length : Nat) : Int) - 1 - ((q : Nat) : Int))))]) ⟨rfl, rfl, rfl, rfl, trivial⟩ ?_)
  refine CX.condD (p := 0 ≤ ((xs.length : Nat) : Int) - 1 - ((q : Nat) : Int)) rfl (fun c8 => ?_) (fun c8 => ?_)
  · obtain ⟨a0, ha0⟩ := get_some (l := xs) (k := xs.length - 1 - q) (by omega)
    have hA : ∃ b j, A = some ⟨b, j, none⟩ := hr.some (k := 0) (by simp; omega)
    have hbi : backI sideV xs q = [.int .i64 ((xs.length - 1 - q : Nat) : Int), .agg (sideC a0)] := by simp [backI, ha0, sideV]
    refine CX.skip (XX.next (V' := [(0, .func (.yield l) #[] #[]), (1, .pointer (some ⟨g1, 0, none⟩)), (3, .int .i64 (((xs.length : Nat) : Int) - 1 - ((q : Nat) : Int)))]) ⟨rfl, rfl, rfl, trivial⟩ ?_)
    refine CX.seq ?_
    refine CX.block ?_
    refine CX.seq ?_
    refine CX.region ?_
    refine RX.cons rfl rfl (op_w (yw_move rfl rfl) rfl rfl ?_)
    refine RX.cons rfl rfl (op_w (yw_move rfl rfl) rfl rfl ?_)
    refine RX.know (t := 12) (u := .int .i64 ((xs.length - 1 - q : Nat) : Int)) rfl (congrArg (Value.int .i64) (by omega)) ?_
    refine RX.cons rfl rfl (op_yld (y_loadG (v := .slice A xs.length cap) rfl rfl one_77 h1 hO1) rfl rfl ?_)
    refine RX.cons rfl rfl (op_w (yw_move rfl rfl) rfl rfl ?_)
    refine RX.know (t := 14) (u := .int .i64 ((xs.length - 1 - q : Nat) : Int)) rfl (congrArg (Value.int .i64) (by omega)) ?_
    refine RX.cons rfl rfl (op_w (yw_index (k := (xs.length - 1 - q)) rfl slt_77 rfl rfl (by omega) (by omega) hA) rfl rfl ?_)
    refine RX.cons rfl rfl (op_yld (y_elem rfl rfl agg_81 hr hAO (map_get ha0)) rfl rfl ?_)
    refine RX.cons rfl rfl (op_yieldG s hy rfl rfl rfl rfl rfl (by have := hok q (by omega); rw [hbi] at this; exact this) rfl (fun s' hs' => ?_))
    refine RX.cons rfl rfl (op_w (yw_not rfl rfl) rfl rfl ?_)
    refine RX.nil (XX.next (V' := [(0, .func (.yield l) #[] #[]), (1, .pointer (some ⟨g1, 0, none⟩)), (3, .int .i64 (((xs.length : Nat) : Int) - 1 - ((q : Nat) : Int))), (18, .bool false)]) ⟨rfl, rfl, rfl, rfl, trivial⟩ ?_)
    refine CX.condF rfl ?_
    refine CX.skip (XX.inBlock (V' := [(0, .func (.yield l) #[] #[]), (1, .pointer (some ⟨g1, 0, none⟩)), (3, .int .i64 (((xs.length : Nat) : Int) - 1 - ((q : Nat) : Int)))]) ⟨rfl, rfl, rfl, trivial⟩ ?_)
    refine XX.next (V' := [(0, .func (.yield l) #[] #[]), (1, .pointer (some ⟨g1, 0, none⟩)), (3, .int .i64 (((xs.length : Nat) : Int) - 1 - ((q : Nat) : Int)))]) ⟨rfl, rfl, rfl, trivial⟩ ?_
    refine CX.region ?_
    refine RX.cons rfl rfl (op_w (yw_move rfl rfl) rfl rfl ?_)
    refine RX.cons rfl rfl (op_w (yw_sub rfl rfl rfl (by omega) (by omega)) rfl rfl ?_)
    refine RX.know (t := 10) (u := .int .i64 (((xs.length : Nat) : Int) - 1 - (((q + 1 : Nat)) : Int))) rfl (congrArg (Value.int .i64) (by omega)) ?_
    refine RX.cons rfl rfl (op_w (yw_assign rfl rfl) rfl rfl ?_)
    refine RX.nil (XX.againP ([]) (q + 1, s') (by dsimp only; omega) ⟨by dsimp only; omega, by dsimp only; rw [List.range_succ, List.map_append]; refine .snoc hst ?_; rw [hbi]; exact hs'⟩ ⟨rfl, rfl, rfl, trivial⟩ (perm_nil _))
  · refine CX.exit ?_
    refine XX.then_exit ?_
    refine XX.then_exit ?_
    refine XX.block_exit ?_
    exact end_none rfl fun w1 hw => ⟨s, (show xs.length = q from by omega) ▸ hst, rfl, hw⟩

end Go.Proofs.YtnadipjlhlbfoaaDoor
namespace Go.Proofs.YtnadipjlhlbfoaaDoor
set_option linter.all false
open Go Go.RowKit
set_option maxRecDepth 100000
theorem fld_81_1 : Fld Tryd.prog 81 1 1 := ⟨_, _, (Tryd.prog.info? 4).get!, Tryd.underlying81, rfl, rfl, by kernel_rfl, by decide +kernel⟩
theorem one_4 : One Tryd.prog 4 := ⟨_, Tryd.underlying4, rfl⟩
theorem fld_81_0 : Fld Tryd.prog 81 0 0 := ⟨_, _, (Tryd.prog.info? 9).get!, Tryd.underlying81, rfl, rfl, by kernel_rfl, by decide +kernel⟩
theorem ent_54 : ∀ args w, (callFunc 54 args).run Tryd.prog w = .ok (.enter 54 args) w := enters_of Tryd.func54 (by kernel_rfl) rfl
theorem szt_9 : SzT Tryd.prog 9 1 := ⟨(Tryd.prog.info? 9).get!, by kernel_rfl, by kernel_rfl⟩
set_option maxRecDepth 100000 in
theorem w_joinS {w : World} (r p : ByteArray) (f : Bool) (hG : Rounds w) (hr : r.size ≤ 4294967296) (hp : p.size ≤ 4294967296) :
    Calls Tryd.prog 50 #[.agg (sideC (r, f)), .string p] w (fun e w' => e = .returned (.string (joinS sum (r, f) p)) ∧ SL w [] w' []) := by
  refine calls_of_CX (O := []) (L := []) (args := [.agg (sideC (r, f)), .string p]) Tryd.func50 rfl (by simp [Tryd.ntmps50]) (SL.refl w) ?_
  refine CX.sub (V' := [(0, .agg (sideC (r, f))), (1, .string p)]) ⟨rfl, rfl, trivial⟩ ?_
  refine CX.seq ?_
  refine CX.region ?_
  refine RX.cons rfl rfl (op_box rfl rfl rfl rfl fun g1 => ?_)
  refine RX.cons rfl rfl (op_w (yw_assign rfl rfl) rfl rfl ?_)
  refine RX.nil (XX.next (V' := [(1, .string p), (2, .pointer (some ⟨g1, 0, none⟩))]) ⟨rfl, rfl, trivial⟩ ?_)
  refine CX.seq ?_
  refine CX.seq ?_
  refine CX.region ?_
  refine RX.cons rfl rfl (op_w (yw_fieldAddr rfl fld_81_1 rfl) rfl rfl ?_)
  refine RX.cons rfl rfl (op_yld (y_load (i := 0) rfl rfl one_4 rfl rfl) rfl rfl ?_)
  refine RX.nil (XX.next (V' := [(1, .string p), (2, .pointer (some ⟨g1, 0, none⟩)), (6, .bool f)]) ⟨rfl, rfl, rfl, trivial⟩ ?_)
  refine CX.cond (b := f) rfl (fun c6 => ?_) (fun c6 => ?_)
  · refine CX.seq ?_
    refine CX.region ?_
    refine RX.cons rfl rfl (op_w (yw_field0 rfl fld_81_0 rfl) rfl rfl ?_)
    refine RX.cons rfl rfl (op_yld (y_load (i := 0) rfl rfl one_9 rfl rfl) rfl rfl ?_)
    refine RX.cons rfl rfl (op_w (yw_move rfl rfl) rfl rfl ?_)
    refine RX.cons rfl rfl (op_callV (v := .string (nodeH sum r p)) rfl rfl rfl rfl rfl ent_54 (fun w hw => w_node r p (hG.keep hw (by simp)) (by omega)) ?_)
    refine RX.cons rfl rfl (op_w (yw_assign rfl rfl) rfl rfl ?_)
    refine RX.nil (XX.next (V' := [(4, .string (nodeH sum r p))]) ⟨rfl, trivial⟩ ?_)
    refine CX.ret ?_
    refine XX.then_ret ?_
    exact ret_tmp rfl rfl fun w1 hw => ⟨by rw [joinS]; simp [c6], hw.sub (List.nil_sublist _)⟩
  · refine CX.skip (XX.next (V' := [(1, .string p), (2, .pointer (some ⟨g1, 0, none⟩))]) ⟨rfl, rfl, trivial⟩ ?_)
    refine CX.seq ?_
    refine CX.region ?_
    refine RX.cons rfl rfl (op_w (yw_move rfl rfl) rfl rfl ?_)
    refine RX.cons rfl rfl (op_w (yw_field0 rfl fld_81_0 rfl) rfl rfl ?_)
    refine RX.cons rfl rfl (op_yld (y_load (i := 0) rfl rfl one_9 rfl rfl) rfl rfl ?_)
    refine RX.cons rfl rfl (op_callV (v := .string (nodeH sum p r)) rfl rfl rfl rfl rfl ent_54 (fun w hw => w_node p r (hG.keep hw (by simp)) (by omega)) ?_)
    refine RX.cons rfl rfl (op_w (yw_assign rfl rfl) rfl rfl ?_)
    refine RX.nil (XX.next (V' := [(4, .string (nodeH sum p r))]) ⟨rfl, trivial⟩ ?_)
    refine CX.ret ?_
    exact ret_tmp rfl rfl fun w1 hw => ⟨by rw [joinS]; simp [c6], hw.sub (List.nil_sublist _)⟩

set_option maxRecDepth 100000 in
theorem w_reverse {w : World} {A : Option Addr} {cap : Nat} (xs : List ByteArray) (hl : xs.length ≤ 281474976710656) (hs : SL w ((A.map Addr.block).toList ++ []) w [.row A cap 9 1 (List.map strC xs)]) :
    Calls Tryd.prog 63 #[.slice A (List.length (xs : List ByteArray)) cap] w (fun e w' => e = .returned (.tuple #[]) ∧ SL w ((A.map Addr.block).toList ++ []) w' [.row A cap 9 1 (List.map strC xs.reverse)]) := by
  refine calls_of_CX (O := ((A.map Addr.block).toList ++ [])) (L := [.row A cap 9 1 (List.map strC xs)]) (args := [.slice A (List.length (xs : List ByteArray)) cap]) Tryd.func63 rfl (by simp [Tryd.ntmps63]) hs ?_
  refine CX.sub (V' := [(0, .slice A (List.length (xs : List ByteArray)) cap)]) ⟨rfl, trivial⟩ ?_
  refine CX.seq ?_
  refine CX.region ?_
  refine RX.cons rfl rfl (op_w (yw_move rfl rfl) rfl rfl ?_)
  refine RX.cons rfl rfl (op_w (yw_lenS rfl Tryd.underlying35 rfl) rfl rfl ?_)
  refine RX.cons rfl rfl (op_w (yw_sub rfl rfl rfl (by omega) (by omega)) rfl rfl ?_)
  refine RX.know (t := 6) (u := .int .i64 (((xs.length : Nat) : Int) - 1 - ((0 : Nat) : Int))) rfl (congrArg (Value.int .i64) (by omega)) ?_
  refine RX.cons rfl rfl (op_w (yw_assign rfl rfl) rfl rfl ?_)
  refine RX.cons rfl rfl (op_w (yw_assign rfl rfl) rfl rfl ?_)
  refine RX.nil (XX.next (V' := [(0, .slice A (List.length (xs : List ByteArray)) cap), (2, .int .i64 0), (3, .int .i64 (((xs.length : Nat) : Int) - 1 - ((0 : Nat) : Int)))]) ⟨rfl, rfl, rfl, trivial⟩ ?_)
  refine CX.block ?_
  refine CX.loop (σ := Nat × List ByteArray) (fun z => [(0, .slice A (List.length (xs : List ByteArray)) cap), (2, .int .i64 ((z.1 : Nat) : Int)), (3, .int .i64 (((xs.length : Nat) : Int) - 1 - ((z.1 : Nat) : Int)))]) (fun z => [.row A cap 9 1 (List.map strC z.2)]) (fun z => RevAt xs z.2 z.1 ∧ z.1 ≤ xs.length) (fun z => xs.length - z.1) (0, xs) ⟨RevAt.zero xs, Nat.zero_le _⟩ ⟨rfl, rfl, rfl, trivial⟩ rfl (fun z hI => ?_)
  obtain ⟨k, ys⟩ := z
  dsimp only at hI ⊢
  obtain ⟨hR, hk⟩ := hI
  have hyl : ys.length = xs.length := hR.1
  refine CX.seq ?_
  refine CX.seq ?_
  refine CX.region ?_
  refine RX.cons rfl rfl (op_w (yw_move rfl rfl) rfl rfl ?_)
  refine RX.cons rfl rfl (op_w (yw_move rfl rfl) rfl rfl ?_)
  refine RX.cons rfl rfl (op_w (yw_lss rfl rfl rfl) rfl rfl ?_)
  refine RX.nil (XX.next (V' := [(0, .slice A (List.length (xs : List ByteArray)) cap), (2, .int .i64 ((k : Nat) : Int)), (3, .int .i64 (((xs.length : Nat) : Int) - 1 - ((k : Nat) : Int))), (9, .bool (decide (((k : Nat) : Int) < ((xs.length : Nat) : Int) - 1 - ((k : Nat) : Int))))]) ⟨rfl, rfl, rfl, rfl, trivial⟩ ?_)
  refine CX.condD (p := ((k : Nat) : Int) < ((xs.length : Nat) : Int) - 1 - ((k : Nat) : Int)) rfl (fun c9 => ?_) (fun c9 => ?_)
  · obtain ⟨s0, hs0⟩ := get_some (l := ys) (k := k) (by omega)
    obtain ⟨s1, hs1⟩ := get_some (l := ys) (k := xs.length - 1 - k) (by omega)
    refine CX.rowSome 0 rfl (by simp; omega) (fun hA => ?_)
    refine CX.skip (XX.next (V' := [(0, .slice A (List.length (xs : List ByteArray)) cap), (2, .int .i64 ((k : Nat) : Int)), (3, .int .i64 (((xs.length : Nat) : Int) - 1 - ((k : Nat) : Int)))]) ⟨rfl, rfl, rfl, trivial⟩ ?_)
    refine CX.seq ?_
    refine CX.block ?_
    refine CX.draw 13 [(0, 1, 16384), (0, 4, 32768), (0, 1, 65536), (0, 8, 131072), (0, 1, 262144), (0, 8, 524288), (48, 786432, 1048576), (64, 1048576, 2097152), (0, 1, 4194304), (0, 4, 8388608), (768, 12582912, 16777216), (1024, 16777216, 33554432), (2291, 49152, 67108864), (6387, 69206016, 0), (16383, 196608, 134217728), (32767, 167772160, 0)] (by kernel_rfl) (by kernel_rfl) (by kernel_rfl) ?_
    refine DX.takeW 0 1 (by kernel_rfl) rfl rfl rfl rfl rfl (yw_move rfl rfl) ?_
    refine DX.takeW 1 3 (by kernel_rfl) rfl rfl rfl rfl rfl (yw_move rfl rfl) ?_
    refine DX.takeW 2 7 (by kernel_rfl) rfl rfl rfl rfl rfl (yw_move rfl rfl) ?_
    refine DX.takeW 3 15 (by kernel_rfl) rfl rfl rfl rfl rfl (yw_move rfl rfl) ?_
    refine DX.know (t := 17) (u := .int .i64 ((xs.length - 1 - k : Nat) : Int)) rfl (congrArg (Value.int .i64) (by omega)) ?_
    refine DX.takeW 4 31 (by kernel_rfl) rfl rfl rfl rfl rfl (yw_move rfl rfl) ?_
    refine DX.takeW 5 63 (by kernel_rfl) rfl rfl rfl rfl rfl (yw_move rfl rfl) ?_
    refine DX.know (t := 19) (u := .int .i64 ((xs.length - 1 - k : Nat) : Int)) rfl (congrArg (Value.int .i64) (by omega)) ?_
    refine DX.takeW 6 127 (by kernel_rfl) rfl rfl rfl rfl rfl (yw_index (k := (xs.length - 1 - k)) rfl slt_35 rfl rfl (by omega) (by omega) hA) ?_
    refine DX.take 7 255 (by kernel_rfl) rfl rfl rfl rfl rfl (List.Sublist.refl _) (y_rowElem1 (i := 0) rfl rfl one_9 rfl (map_get hs1)) ?_
    refine DX.takeW 8 511 (by kernel_rfl) rfl rfl rfl rfl rfl (yw_move rfl rfl) ?_
    refine DX.takeW 9 1023 (by kernel_rfl) rfl rfl rfl rfl rfl (yw_move rfl rfl) ?_
    refine DX.takeW 10 2047 (by kernel_rfl) rfl rfl rfl rfl rfl (yw_index (k := k) rfl slt_35 rfl rfl (by omega) (by omega) hA) ?_
    refine DX.take 11 4095 (by kernel_rfl) rfl rfl rfl rfl rfl (List.Sublist.refl _) (y_rowElem1 (i := 0) rfl rfl one_9 rfl (map_get hs0)) ?_
    refine DX.takeW 12 8191 (by kernel_rfl) rfl rfl rfl rfl rfl (yw_index (k := k) rfl slt_35 rfl rfl (by omega) (by omega) hA) ?_
    refine DX.stepT 13 16383 (by kernel_rfl) rfl rfl rfl rfl (op_storeElemE (i := 0) (k := k) (ys := (List.map strC (ys.set k s1))) rfl rfl rfl rfl szt_9 rfl (plain_of rfl) rfl (by simp; omega) (List.map_set ..).symm ?_)
    refine DX.takeW 14 32767 (by kernel_rfl) rfl rfl rfl rfl rfl (yw_index (k := (xs.length - 1 - k)) rfl slt_35 rfl rfl (by omega) (by omega) hA) ?_
    refine DX.stepT 15 65535 (by kernel_rfl) rfl rfl rfl rfl (op_storeElemE (i := 0) (k := (xs.length - 1 - k)) (ys := (List.map strC ((ys.set k s1).set (xs.length - 1 - k) s0))) rfl rfl rfl rfl szt_9 rfl (plain_of rfl) rfl (by simp; omega) (List.map_set ..).symm ?_)
    refine DX.done (by kernel_rfl) (XX.inBlock (V' := [(0, .slice A (List.length (xs : List ByteArray)) cap), (2, .int .i64 ((k : Nat) : Int)), (3, .int .i64 (((xs.length : Nat) : Int) - 1 - ((k : Nat) : Int)))]) ⟨rfl, rfl, rfl, trivial⟩ ?_)
    refine XX.next (V' := [(0, .slice A (List.length (xs : List ByteArray)) cap), (2, .int .i64 ((k : Nat) : Int)), (3, .int .i64 (((xs.length : Nat) : Int) - 1 - ((k : Nat) : Int)))]) ⟨rfl, rfl, rfl, trivial⟩ ?_
    refine CX.region ?_
    refine RX.cons rfl rfl (op_w (yw_move rfl rfl) rfl rfl ?_)
    refine RX.cons rfl rfl (op_w (yw_add rfl rfl rfl (by omega) (by omega)) rfl rfl ?_)
    refine RX.cons rfl rfl (op_w (yw_move rfl rfl) rfl rfl ?_)
    refine RX.cons rfl rfl (op_w (yw_sub rfl rfl rfl (by omega) (by omega)) rfl rfl ?_)
    refine RX.know (t := 13) (u := .int .i64 (((xs.length : Nat) : Int) - 1 - (((k + 1 : Nat)) : Int))) rfl (congrArg (Value.int .i64) (by omega)) ?_
    refine RX.cons rfl rfl (op_w (yw_assign rfl rfl) rfl rfl ?_)
    refine RX.cons rfl rfl (op_w (yw_assign rfl rfl) rfl rfl ?_)
    refine RX.nil (XX.againP ([]) (k + 1, (ys.set k s1).set (xs.length - 1 - k) s0) (by dsimp only; omega) ⟨hR.step (by omega) hs0 hs1, by dsimp only; omega⟩ ⟨rfl, rfl, rfl, trivial⟩ ((perm_pick 0 rfl).trans (List.Perm.cons _ (List.Perm.refl _))))
  · refine CX.exit ?_
    refine XX.then_exit ?_
    refine XX.then_exit ?_
    refine XX.block_exit ?_
    exact end_none rfl fun w1 hw => ⟨rfl, by rw [← hR.done (by omega)]; exact hw⟩

set_option maxRecDepth 100000 in
theorem w_clone {w : World} {A : Option Addr} {cap : Nat} (xs : List ByteArray) (hr : Rd w A 1 (xs.map strC)) (hl : xs.length ≤ 1099511627776) :
    Calls Tryd.prog 43 #[.slice A xs.length cap] w (fun e w' => ∃ z : Option Addr × Nat, True ∧ e = .returned (.slice z.1 xs.length z.2) ∧ SL w [] w' [.row z.1 z.2 9 1 (List.map strC xs)]) := by
  refine calls_of_CX (O := []) (L := []) (args := [.slice A xs.length cap]) Tryd.func43 rfl (by simp [Tryd.ntmps43]) (SL.refl w) ?_
  refine CX.sub (V' := [(0, .slice A xs.length cap)]) ⟨rfl, trivial⟩ ?_
  refine CX.seq ?_
  refine CX.region ?_
  refine RX.cons rfl rfl (op_w (yw_assign rfl rfl) rfl rfl ?_)
  refine RX.nil (XX.next (V' := [(0, .slice A xs.length cap)]) ⟨rfl, trivial⟩ ?_)
  refine CX.seq ?_
  refine CX.seq ?_
  refine CX.region ?_
  refine RX.cons rfl rfl (op_w (yw_move rfl rfl) rfl rfl ?_)
  refine RX.cons rfl rfl (op_w (yw_slnil rfl Tryd.underlying35 rfl rfl) rfl rfl ?_)
  refine RX.nil (XX.next (V' := [(0, .slice A xs.length cap), (4, .bool (Option.isNone A))]) ⟨rfl, rfl, trivial⟩ ?_)
  refine CX.cond (b := Option.isNone A) rfl (fun c4 => ?_) (fun c4 => ?_)
  · obtain rfl : xs = [] := hr.nil_of (by simpa using c4)
    refine CX.rowNil 9 1 ?_
    refine CX.seq ?_
    refine CX.region ?_
    refine RX.cons rfl rfl (op_w (yw_assign rfl rfl) rfl rfl ?_)
    refine RX.nil (XX.next (V' := [(2, .slice none 0 0)]) ⟨rfl, trivial⟩ ?_)
    refine CX.ret ?_
    refine XX.then_ret ?_
    exact ret_tmp rfl rfl fun w1 hw => ⟨(none, 0), trivial, rfl, hw⟩
  · refine CX.skip (XX.next (V' := [(0, .slice A xs.length cap)]) ⟨rfl, trivial⟩ ?_)
    refine CX.seq ?_
    refine CX.region ?_
    refine RX.cons rfl rfl (op_buildSlice rfl rfl rfl slb_35 rfl rfl (by intro v hv; simp at hv) (by decide) fun sr => ?_)
    refine RX.cons rfl rfl (op_w (yw_move rfl rfl) rfl rfl ?_)
    refine RX.cons rfl rfl (op_appendM0 strC (i := 0) (xs := []) xs rfl rfl rfl slb_35 rfl rfl rfl rfl hr (by simp) (by simp; omega) (by simp; omega) fun A1 c1 => ?_)
    refine RX.cons rfl rfl (op_w (yw_assign rfl rfl) rfl rfl ?_)
    refine RX.nil (XX.next (V' := [(2, .slice A1 (([] ++ xs).length) c1)]) ⟨rfl, trivial⟩ ?_)
    refine CX.ret ?_
    exact ret_tmp rfl rfl fun w1 hw => ⟨(A1, c1), trivial, rfl, hw⟩

end Go.Proofs.YtnadipjlhlbfoaaDoor
namespace Go.Proofs.YtnadipjlhlbfoaaDoor
set_option linter.all false
open Go Go.RowKit
abbrev intC (n : Nat) : Array Value := #[.int .i64 ((n : Nat) : Int)]
/-- Parts whose last one may be as long as the one before it. -/
def Stk (C : List (List B)) : Prop := ∃ P c, C = P ++ [c] ∧ Parts P ∧ Pow2 c.length ∧ ∀ d ∈ P, c.length ≤ d.length
theorem Stk.push {C : List (List B)} (h : Parts C) (s : B) : Stk (C ++ [[s]]) := ⟨C, [s], rfl, h, Pow2.one, fun d hd => (h.1 d hd).pos⟩
theorem Parts.nil : Parts [] := ⟨fun _ h => by simp at h, List.Pairwise.nil⟩
theorem Stk.done {C : List (List B)} (h : Stk C) (hn : ∀ d c, 2 ≤ C.length → C[C.length - 2]? = some d → C[C.length - 1]? = some c → d.length ≠ c.length) : Parts C := by
  obtain ⟨P, c, rfl, hP, hc, hd⟩ := h
  refine ⟨fun x hx => ?_, ?_⟩
  · rcases List.mem_append.1 hx with hx | hx
    · exact hP.1 x hx
    · simp at hx; rw [hx]; exact hc
  · rw [List.pairwise_append]
    refine ⟨hP.2, List.pairwise_singleton _ _, fun a ha b hb => ?_⟩
    simp at hb
    subst hb
    rcases List.eq_nil_or_concat P with rfl | ⟨Q, d, rfl⟩
    · simp at ha
    · rw [List.concat_eq_append] at hn hd ha hP
      have h1 := hn d b (by simp) (by rw [List.append_assoc]; simp) (by simp)
      have h2 := hd d (by simp)
      rcases List.mem_append.1 ha with ha | ha
      · have := (List.pairwise_append.1 hP.2).2.2 a ha d (by simp)
        omega
      · simp at ha; rw [ha]; omega
theorem Stk.merge (h : B → B) {C : List (List B)} (hs : Stk C) {d c : List B} (hl : 2 ≤ C.length) (h1 : C[C.length - 2]? = some d) (h2 : C[C.length - 1]? = some c) (he : d.length = c.length) :
    Stk (C.take (C.length - 2) ++ [d ++ c]) ∧ (C.take (C.length - 2) ++ [d ++ c]).flatten = C.flatten ∧ root h (d ++ c) = nodeH h (root h d) (root h c) := by
  obtain ⟨P, c', rfl, hP, hc, hd⟩ := hs
  rcases List.eq_nil_or_concat P with rfl | ⟨Q, d', rfl⟩
  · simp at hl
  · rw [List.concat_eq_append] at *
    have e1 : d = d' := by rw [List.append_assoc] at h1; simp at h1; exact h1.symm
    have e2 : c = c' := by simp at h2; exact h2.symm
    subst e1; subst e2
    have e3 : (Q ++ [d] ++ [c]).take ((Q ++ [d] ++ [c]).length - 2) = Q := by rw [List.append_assoc]; simp
    rw [e3]
    have hQ : Parts Q := ⟨fun x hx => hP.1 x (List.mem_append_left _ hx), (List.pairwise_append.1 hP.2).1⟩
    have hdp := hP.1 d (by simp)
    refine ⟨⟨Q, d ++ c, rfl, hQ, ?_, fun x hx => ?_⟩, by simp, ?_⟩
    · rw [List.length_append, ← he]; exact hdp.double
    · have := (hP.1 x (List.mem_append_left _ hx)).half_le hdp ((List.pairwise_append.1 hP.2).2.2 x hx d (by simp))
      rw [List.length_append]; omega
    · refine root_append h hdp.pos hc.pos ?_
      obtain ⟨k, hk⟩ := hdp
      rw [← he, hk]; exact lft_double k
theorem Stk.lens {C : List (List B)} {c : List B} (hm : c ∈ C) : c.length ≤ C.flatten.length := by
  induction C with
  | nil => simp at hm
  | cons x C ih =>
    simp only [List.flatten_cons, List.length_append]
    rcases List.mem_cons.1 hm with rfl | hm
    · omega
    · have := ih hm; omega
/-- Strings of 32 bytes. -/
abbrev D32 := { s : ByteArray // s.size = 32 }
theorem sum_root_size (l : List B) : (root sum l).size = 32 := root_size sum sum_size l
def nodeD (h : D32) (a : ByteArray) : D32 := ⟨nodeH sum a h.1, sum_size _⟩
theorem nodeD_fold (xs : List ByteArray) (s : D32) : (xs.foldr (fun a s => nodeD s a) s).1 = xs.foldr (fun r out => nodeH sum r out) s.1 := by
  induction xs with
  | nil => rfl
  | cons x xs ih => rw [List.foldr_cons, List.foldr_cons, ← ih]; rfl
theorem str_inj {i j : Int} {a b : ByteArray} (h : [Value.int .i64 i, .string a] = [.int .i64 j, .string b]) : a = b := by
  injection h with _ h
  injection h with h _
  injection h
theorem side_inj {i j : Int} {a b : ByteArray × Bool} (h : [Value.int .i64 i, .agg (sideC a)] = [.int .i64 j, .agg (sideC b)]) : a = b := by
  injection h with _ h
  injection h with h _
  injection h with h
  simp [sideC] at h
  exact Prod.ext h.1 h.2
theorem Parts.end {C : List (List B)} (hp : Parts C) (hn : C ≠ []) {c : List B} (hc : C[C.length - 1]? = some c) {ws : List ByteArray} (hw : ws = C.map (root sum)) : (ws.take (ws.length - 1)).foldr (fun r out => nodeH sum r out) (root sum c) = root sum C.flatten := by
  have h1 := Parts.fold sum hp hn
  have h2 : C.getLast?.getD [] = c := by rw [List.getLast?_eq_getElem?, hc]; rfl
  rw [h2] at h1
  rw [← h1, hw, List.length_map, ← List.map_take, List.dropLast_eq_take]
theorem flat_ge {C : List (List B)} (h : ∀ c ∈ C, 1 ≤ c.length) : C.length ≤ C.flatten.length := by
  induction C with
  | nil => simp
  | cons x C ih =>
    have h1 := h x List.mem_cons_self
    have h2 := ih (fun c hc => h c (List.mem_cons_of_mem _ hc))
    simp only [List.flatten_cons, List.length_append, List.length_cons]
    omega
theorem parts_le {C : List (List B)} (h : Parts C) : C.length ≤ C.flatten.length := flat_ge fun c hc => (h.1 c hc).pos
theorem stk_le {C : List (List B)} (h : Stk C) : C.length ≤ C.flatten.length := by
  obtain ⟨P, c, rfl, hP, hc, _⟩ := h
  refine flat_ge fun x hx => ?_
  rcases List.mem_append.1 hx with hx | hx
  · exact (hP.1 x hx).pos
  · simp at hx; rw [hx]; exact hc.pos
theorem stk_pos {C : List (List B)} (h : Stk C) : 1 ≤ C.length := by
  obtain ⟨P, c, rfl, _⟩ := h
  simp
end Go.Proofs.YtnadipjlhlbfoaaDoor
