/- Walks, printed by a program. -/
import Derived.Test.YtmndhiaaolfepaaDoorWalkQ
import Derived.Test.YtmndhiaaolfepaaDoorDefs6
import Derived.Test.YtmndhiaaolfepaaDoorOps7
namespace Go.Proofs.YtmndhiaaolfepaaDoor
set_option linter.all false
open Go Go.RowKit
set_option maxRecDepth 100000
theorem fld_30_7 : Fld Tryd.prog 30 7 7 := ⟨_, _, (Tryd.prog.info? 3).get!, Tryd.underlying30, rfl, rfl, by kernel_rfl, by decide +kernel⟩
theorem slb_55 : SlB Tryd.prog 55 5 1 1 (.int .u8 0) := ⟨Tryd.underlying55, ⟨(Tryd.prog.info? 5).get!, by kernel_rfl, by kernel_rfl, by kernel_rfl, by kernel_rfl⟩, by decide, by decide⟩
set_option maxRecDepth 100000 in
theorem w_ids {w : World} {A : Option Addr} {cap : Nat} (ss : List Strm) (hr : Rd w A 9 (ss.map Strm.cells)) (hn : ss.length ≤ 1000) (hp : ∀ s ∈ ss, 0 ≤ s.id ∧ s.id ≤ 1000000 ∧ 0 ≤ s.session ∧ s.session ≤ 1000000) :
    Calls Tryd.prog 19 #[.slice A ss.length cap] w (fun e w' => e = .returned (.string (idsF ss)) ∧ SL w [] w' []) := by
  refine calls_of_CX (O := []) (L := []) (args := [.slice A ss.length cap]) Tryd.func19 rfl (by simp [Tryd.ntmps19]) (SL.refl w) ?_
  refine CX.sub (V' := [(0, .slice A ss.length cap)]) ⟨rfl, trivial⟩ ?_
  refine CX.seq ?_
  refine CX.region ?_
  refine RX.cons rfl rfl (op_w (yw_assign rfl rfl) rfl rfl ?_)
  refine RX.nil (XX.next (V' := [(0, .slice A ss.length cap)]) ⟨rfl, trivial⟩ ?_)
  refine CX.seq ?_
  refine CX.region ?_
  refine RX.cons rfl rfl (op_w (yw_assign rfl rfl) rfl rfl ?_)
  refine RX.nil (XX.next (V' := [(0, .slice A ss.length cap), (3, .string .empty)]) ⟨rfl, rfl, trivial⟩ ?_)
  refine CX.seq ?_
  refine CX.seq ?_
  refine CX.region ?_
  refine RX.cons rfl rfl (op_w (yw_assign rfl rfl) rfl rfl ?_)
  refine RX.nil (XX.next (V' := [(0, .slice A ss.length cap), (3, .string .empty), (4, .int .i64 0)]) ⟨rfl, rfl, rfl, trivial⟩ ?_)
  refine CX.block ?_
  refine CX.loop (σ := Nat × ByteArray) (fun z => [(0, .slice A ss.length cap), (3, .string z.2), (4, .int .i64 ((z.1 : Nat) : Int))]) (fun z => []) (fun z => z.1 ≤ ss.length ∧ z.1 ≤ 9 ∧ z.2 = idsF (ss.take z.1) ∧ z.2.size = 4 * z.1) (fun z => 9 - z.1) (0, ByteArray.empty) ⟨Nat.zero_le _, Nat.zero_le _, rfl, rfl⟩ ⟨rfl, rfl, rfl, trivial⟩ rfl (fun z hI => ?_)
  obtain ⟨i, b⟩ := z
  dsimp only at hI ⊢
  obtain ⟨hi, hi9, hb, hbs⟩ := hI
  refine CX.seq ?_
  refine CX.seq ?_
  refine CX.region ?_
  refine RX.cons rfl rfl (op_w (yw_move rfl rfl) rfl rfl ?_)
  refine RX.cons rfl rfl (op_w (yw_move rfl rfl) rfl rfl ?_)
  refine RX.cons rfl rfl (op_w (yw_lenS rfl Tryd.underlying23 rfl) rfl rfl ?_)
  refine RX.cons rfl rfl (op_w (yw_lss rfl rfl rfl) rfl rfl ?_)
  refine RX.cons rfl rfl (op_w (yw_move rfl rfl) rfl rfl ?_)
  refine RX.splitD (t := 9) (p := ((i : Nat) : Int) < ((ss.length : Nat) : Int)) rfl (fun d9 => ?_) (fun d9 => ?_)
  · refine RX.consG rfl rfl rfl rfl rfl (op_w (yw_move rfl rfl) rfl rfl ?_)
    refine RX.consG rfl rfl rfl rfl rfl (op_w (yw_lss rfl rfl rfl) rfl rfl ?_)
    refine RX.cons rfl rfl (op_w (yw_pickT rfl rfl rfl) rfl rfl ?_)
    refine RX.nil (XX.next (V' := [(0, .slice A ss.length cap), (3, .string b), (4, .int .i64 ((i : Nat) : Int)), (12, .bool (decide (((i : Nat) : Int) < 9)))]) ⟨rfl, rfl, rfl, rfl, trivial⟩ ?_)
    refine CX.condD (p := ((i : Nat) : Int) < 9) rfl (fun c12 => ?_) (fun c12 => ?_)
    · obtain ⟨s, hs⟩ := get_some (l := ss) (k := i) (by omega)
      obtain ⟨h1, h2, h3, h4⟩ := hp s (List.mem_of_getElem? hs)
      refine CX.skip (XX.next (V' := [(0, .slice A ss.length cap), (3, .string b), (4, .int .i64 ((i : Nat) : Int))]) ⟨rfl, rfl, rfl, trivial⟩ ?_)
      refine CX.seq ?_
      refine CX.block ?_
      refine CX.draw 21 (by kernel_rfl) ?_
      refine DX.takeW 0 1 (by kernel_rfl) rfl rfl rfl rfl rfl (yw_move rfl rfl) ?_
      refine DX.takeW 1 3 (by kernel_rfl) rfl rfl rfl rfl rfl (yw_move rfl rfl) ?_
      refine DX.takeW 2 7 (by kernel_rfl) rfl rfl rfl rfl rfl (yw_move rfl rfl) ?_
      refine DX.takeW 3 15 (by kernel_rfl) rfl rfl rfl rfl rfl (yw_index (k := i) rfl slt_23 rfl rfl (by omega) (by omega) (hr.some (k := i) (by simp; omega))) ?_
      refine DX.takeW 4 31 (by kernel_rfl) rfl rfl rfl rfl rfl (yw_fieldAddr rfl fld_30_1 rfl) ?_
      refine DX.take 5 63 (by kernel_rfl) rfl rfl rfl rfl rfl (List.nil_sublist _) (y_elemF rfl rfl one_3 hr (by simp) (map_get hs) rfl) ?_
      refine DX.takeW 6 127 (by kernel_rfl) rfl rfl rfl rfl rfl (yw_rem rfl rfl rfl (by omega) (by omega)) ?_
      refine DX.takeW 7 255 (by kernel_rfl) rfl rfl rfl rfl rfl (yw_add rfl rfl rfl (by omega) (by omega)) ?_
      refine DX.takeW 8 511 (by kernel_rfl) rfl rfl rfl rfl rfl (yw_conv rfl rfl Tryd.underlying3 Tryd.underlying5) ?_
      refine DX.know (t := 23) (u := .int .u8 (48 + s.id % 10)) rfl (congrArg (Value.int .u8) (wrap_u8 (by omega) (by omega))) ?_
      refine DX.takeW 9 1023 (by kernel_rfl) rfl rfl rfl rfl rfl (yw_move rfl rfl) ?_
      refine DX.takeW 10 2047 (by kernel_rfl) rfl rfl rfl rfl rfl (yw_move rfl rfl) ?_
      refine DX.takeW 11 4095 (by kernel_rfl) rfl rfl rfl rfl rfl (yw_index (k := i) rfl slt_23 rfl rfl (by omega) (by omega) (hr.some (k := i) (by simp; omega))) ?_
      refine DX.takeW 12 8191 (by kernel_rfl) rfl rfl rfl rfl rfl (yw_fieldAddr rfl fld_30_7 rfl) ?_
      refine DX.take 13 16383 (by kernel_rfl) rfl rfl rfl rfl rfl (List.nil_sublist _) (y_elemF rfl rfl one_3 hr (by simp) (map_get hs) rfl) ?_
      refine DX.takeW 14 32767 (by kernel_rfl) rfl rfl rfl rfl rfl (yw_rem rfl rfl rfl (by omega) (by omega)) ?_
      refine DX.takeW 15 65535 (by kernel_rfl) rfl rfl rfl rfl rfl (yw_add rfl rfl rfl (by omega) (by omega)) ?_
      refine DX.takeW 16 131071 (by kernel_rfl) rfl rfl rfl rfl rfl (yw_conv rfl rfl Tryd.underlying3 Tryd.underlying5) ?_
      refine DX.know (t := 31) (u := .int .u8 (48 + s.session % 10)) rfl (congrArg (Value.int .u8) (wrap_u8 (by omega) (by omega))) ?_
      refine DX.step 17 262143 (by kernel_rfl) rfl rfl rfl (op_buildSlice rfl rfl rfl slb_55 rfl rfl (by intro v hv; simp only [List.mem_cons, List.not_mem_nil, or_false] at hv; rcases hv with rfl | rfl | rfl | rfl <;> exact ⟨rfl, (plain_of rfl)⟩) (by decide) fun g2 => (DXs.mk (List.nil_sublist _) ?_))
      refine DX.step 18 524287 (by kernel_rfl) rfl rfl rfl (op_yld (y_bytesStr (i := 0) [48 + s.id % 10, 58, 48 + s.session % 10, 32] rfl rfl Tryd.underlying55 Tryd.underlying5 Tryd.underlying9 rfl rfl rfl (by decide)) rfl rfl (DXs.mk (List.nil_sublist _) ?_))
      refine DX.takeW 19 1048575 (by kernel_rfl) rfl rfl rfl rfl rfl (yw_stradd rfl rfl rfl (by rw [bytesOf_size, hbs]; simp; omega)) ?_
      refine DX.takeW 20 2097151 (by kernel_rfl) rfl rfl rfl rfl rfl (yw_assign rfl rfl) ?_
      refine DX.done (by kernel_rfl) (XX.inBlock (V' := [(0, .slice A ss.length cap), (3, .string (b ++ (bytesOf [48 + s.id % 10, 58, 48 + s.session % 10, 32]))), (4, .int .i64 ((i : Nat) : Int))]) ⟨rfl, rfl, rfl, trivial⟩ ?_)
      refine XX.next (V' := [(0, .slice A ss.length cap), (3, .string (b ++ (bytesOf [48 + s.id % 10, 58, 48 + s.session % 10, 32]))), (4, .int .i64 ((i : Nat) : Int))]) ⟨rfl, rfl, rfl, trivial⟩ ?_
      refine CX.region ?_
      refine RX.cons rfl rfl (op_w (yw_move rfl rfl) rfl rfl ?_)
      refine RX.cons rfl rfl (op_w (yw_add rfl rfl rfl (by omega) (by omega)) rfl rfl ?_)
      refine RX.cons rfl rfl (op_w (yw_assign rfl rfl) rfl rfl ?_)
      refine RX.nil (XX.againP ([.row (some ⟨g2, 0, none⟩) 4 5 1 (List.map Value.cells [.int .u8 (48 + s.id % 10), .int .u8 58, .int .u8 (48 + s.session % 10), .int .u8 32])]) (i + 1, b ++ bytesOf [48 + s.id % 10, 58, 48 + s.session % 10, 32]) (by dsimp only; omega) ⟨by dsimp only; omega, by dsimp only; omega, by dsimp only; rw [ids_snoc hs (by omega), ← hb], by dsimp only; rw [ByteArray.size_append, bytesOf_size, hbs]; rfl⟩ ⟨rfl, rfl, rfl, trivial⟩ (List.Perm.refl _))
    · refine CX.exit ?_
      refine XX.then_exit ?_
      refine XX.then_exit ?_
      refine XX.block_exit ?_
      refine XX.next (V' := [(3, .string b)]) ⟨rfl, trivial⟩ ?_
      refine CX.seq ?_
      refine CX.region ?_
      refine RX.cons rfl rfl (op_w (yw_move rfl rfl) rfl rfl ?_)
      refine RX.cons rfl rfl (op_w (yw_assign rfl rfl) rfl rfl ?_)
      refine RX.nil (XX.next (V' := [(2, .string b)]) ⟨rfl, trivial⟩ ?_)
      refine CX.ret ?_
      exact ret_tmp rfl rfl fun w1 hw => ⟨by rw [hb, ids_done (by omega)], hw.sub (List.nil_sublist _)⟩
  · refine RX.skip rfl rfl rfl rfl rfl rfl rfl ?_
    refine RX.skip rfl rfl rfl rfl rfl rfl rfl ?_
    refine RX.cons rfl rfl (op_w (yw_pickF rfl rfl rfl) rfl rfl ?_)
    refine RX.nil (XX.next (V' := [(0, .slice A ss.length cap), (3, .string b), (4, .int .i64 ((i : Nat) : Int)), (12, .bool false)]) ⟨rfl, rfl, rfl, rfl, trivial⟩ ?_)
    refine CX.condF rfl ?_
    refine CX.exit ?_
    refine XX.then_exit ?_
    refine XX.then_exit ?_
    refine XX.block_exit ?_
    refine XX.next (V' := [(3, .string b)]) ⟨rfl, trivial⟩ ?_
    refine CX.seq ?_
    refine CX.region ?_
    refine RX.cons rfl rfl (op_w (yw_move rfl rfl) rfl rfl ?_)
    refine RX.cons rfl rfl (op_w (yw_assign rfl rfl) rfl rfl ?_)
    refine RX.nil (XX.next (V' := [(2, .string b)]) ⟨rfl, trivial⟩ ?_)
    refine CX.ret ?_
    exact ret_tmp rfl rfl fun w1 hw => ⟨by rw [hb, ids_done (by omega)], hw.sub (List.nil_sublist _)⟩

end Go.Proofs.YtmndhiaaolfepaaDoor
