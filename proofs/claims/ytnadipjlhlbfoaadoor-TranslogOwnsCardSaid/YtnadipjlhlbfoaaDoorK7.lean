/- Walks, printed by a program. -/
import Derived.Test.YtnadipjlhlbfoaaDoorK6
namespace Go.Proofs.YtnadipjlhlbfoaaDoor
set_option linter.all false
open Go Go.RowKit
set_option maxRecDepth 100000
theorem ent_44 : ∀ args w, (callFunc 44 args).run Tryd.prog w = .ok (.enter 44 args) w := enters_of Tryd.func44 (by kernel_rfl) rfl
theorem ent_47 : ∀ args w, (callFunc 47 args).run Tryd.prog w = .ok (.enter 47 args) w := enters_of Tryd.func47 (by kernel_rfl) rfl
theorem slb_77 : SlB Tryd.prog 77 81 2 24 (.agg (#[.string .empty, .bool false])) := ⟨Tryd.underlying77, ⟨(Tryd.prog.info? 81).get!, by kernel_rfl, by kernel_rfl, by kernel_rfl, by kernel_rfl⟩, by decide, by decide⟩
theorem ent_49 : ∀ args w, (callFunc 49 args).run Tryd.prog w = .ok (.enter 49 args) w := enters_of Tryd.func49 (by kernel_rfl) rfl
theorem ent_74 : ∀ args w, (callFunc 74 args).run Tryd.prog w = .ok (.enter 74 args) w := enters_of Tryd.func74 (by kernel_rfl) rfl
theorem zero_81 : Zero Tryd.prog 81 (.agg (#[.string .empty, .bool false])) := ⟨(Tryd.prog.info? 81).get!, by kernel_rfl, by kernel_rfl⟩
theorem szt_81 : SzT Tryd.prog 81 2 := ⟨(Tryd.prog.info? 81).get!, by kernel_rfl, by kernel_rfl⟩
theorem ent_50 : ∀ args w, (callFunc 50 args).run Tryd.prog w = .ok (.enter 50 args) w := enters_of Tryd.func50 (by kernel_rfl) rfl
theorem way_snoc {way : List (ByteArray × Bool)} {x : ByteArray} {b : Bool} (h : ∀ x ∈ way, x.1.size = 32) (hx : x.size = 32) : ∀ y ∈ way ++ [(x, b)], y.1.size = 32 := by
  intro y hy
  rcases List.mem_append.1 hy with hy | hy
  · exact h y hy
  · simp at hy; rw [hy]; exact hx
set_option maxRecDepth 100000 in
theorem w_verify {w : World} {A : Option Addr} {cap : Nat} (root : ByteArray) (n i : Nat) (s : ByteArray) (p : List ByteArray) (hG : Rounds w) (hr : Rd w A 1 (p.map strC)) (hcap : p.length ≤ cap) (hl : p.length ≤ 1099511627776) (hs : s.size ≤ 4294967296) (hn : n ≤ 9223372036854775807) (hi : i < n) :
    Calls Tryd.prog 37 #[.string root, .int .i64 ((n : Nat) : Int), .int .i64 ((i : Nat) : Int), .string s, .slice A p.length cap] w (fun e w' => e = .returned (.bool (verN root n i s p)) ∧ SL w [] w' []) := by
  refine calls_of_CXM (O := []) (L := []) (args := [.string root, .int .i64 ((n : Nat) : Int), .int .i64 ((i : Nat) : Int), .string s, .slice A p.length cap]) Tryd.func37 rfl (by simp [Tryd.ntmps37]) (SL.refl w) ?_
  refine CX.sub (V' := [(0, .string root), (1, .int .i64 ((n : Nat) : Int)), (2, .int .i64 ((i : Nat) : Int)), (3, .string s), (4, .slice A p.length cap)]) ⟨rfl, rfl, rfl, rfl, rfl, trivial⟩ ?_
  refine CX.seq ?_
  refine CX.region ?_
  refine RX.cons rfl rfl (op_w (yw_assign rfl rfl) rfl rfl ?_)
  refine RX.nil (XX.next (V' := [(0, .string root), (1, .int .i64 ((n : Nat) : Int)), (2, .int .i64 ((i : Nat) : Int)), (3, .string s), (4, .slice A p.length cap), (10, .bool false)]) ⟨rfl, rfl, rfl, rfl, rfl, rfl, trivial⟩ ?_)
  refine CX.seq ?_
  refine CX.seq ?_
  refine CX.region ?_
  refine RX.cons rfl rfl (op_w (yw_move rfl rfl) rfl rfl ?_)
  refine RX.cons rfl rfl (op_w (yw_lss rfl rfl rfl) rfl rfl ?_)
  refine RX.cons rfl rfl (op_w (yw_move rfl rfl) rfl rfl ?_)
  refine RX.splitD (t := 21) (p := ((i : Nat) : Int) < 0) rfl (fun d21 => ?_) (fun d21 => ?_)
  · exfalso; omega
  · refine RX.consG rfl rfl rfl rfl rfl (op_w (yw_move rfl rfl) rfl rfl ?_)
    refine RX.consG rfl rfl rfl rfl rfl (op_w (yw_move rfl rfl) rfl rfl ?_)
    refine RX.consG rfl rfl rfl rfl rfl (op_w (yw_geq rfl rfl rfl) rfl rfl ?_)
    refine RX.cons rfl rfl (op_w (yw_pickF rfl rfl rfl) rfl rfl ?_)
    refine RX.cons rfl rfl (op_w (yw_move rfl rfl) rfl rfl ?_)
    refine RX.splitD (t := 26) (p := ((n : Nat) : Int) ≤ ((i : Nat) : Int)) rfl (fun d26 => ?_) (fun d26 => ?_)
    · exfalso; omega
    · refine RX.consG rfl rfl rfl rfl rfl (op_w (yw_move rfl rfl) rfl rfl ?_)
      refine RX.consG rfl rfl rfl rfl rfl (op_callV (v := .bool (decide (∀ x ∈ p, ByteArray.size x = 32))) rfl rfl rfl rfl rfl ent_44 (fun w hw => w_all p (hw.rd hr (by simp)) (by omega)) ?_)
      refine RX.consG rfl rfl rfl rfl rfl (op_w (yw_notD rfl rfl) rfl rfl ?_)
      refine RX.cons rfl rfl (op_w (yw_pickF rfl rfl rfl) rfl rfl ?_)
      refine RX.nil (XX.next (V' := [(0, .string root), (1, .int .i64 ((n : Nat) : Int)), (2, .int .i64 ((i : Nat) : Int)), (3, .string s), (4, .slice A p.length cap), (10, .bool false), (19, .int .i64 ((i : Nat) : Int)), (20, .bool (decide (((i : Nat) : Int) < 0))), (21, .bool false), (22, .int .i64 ((i : Nat) : Int)), (23, .int .i64 ((n : Nat) : Int)), (24, .bool (decide (((n : Nat) : Int) ≤ ((i : Nat) : Int)))), (25, .bool (decide (((n : Nat) : Int) ≤ ((i : Nat) : Int)))), (26, .bool false), (27, .slice A p.length cap), (28, .bool (decide (∀ x ∈ p, ByteArray.size x = 32))), (29, .bool (decide (¬ (∀ x ∈ p, ByteArray.size x = 32)))), (30, .bool (decide (¬ (∀ x ∈ p, ByteArray.size x = 32))))]) ⟨rfl, rfl, rfl, rfl, rfl, rfl, rfl, rfl, rfl, rfl, rfl, rfl, rfl, rfl, rfl, rfl, rfl, rfl, trivial⟩ ?_)
      refine CX.condD (p := ¬ (∀ x ∈ p, ByteArray.size x = 32)) rfl (fun c30 => ?_) (fun c30 => ?_)
      · refine CX.seq ?_
        refine CX.region ?_
        refine RX.cons rfl rfl (op_w (yw_assign rfl rfl) rfl rfl ?_)
        refine RX.nil (XX.next (V' := [(10, .bool false)]) ⟨rfl, trivial⟩ ?_)
        refine CX.ret ?_
        refine XX.then_ret ?_
        exact ret_tmpM0 rfl rfl fun w1 hw => ⟨by rw [verN_odd c30], hw.sub (List.nil_sublist _)⟩
      · have hall : ∀ x ∈ p, x.size = 32 := Decidable.not_not.1 c30
        refine CX.skip (XX.next (V' := [(0, .string root), (1, .int .i64 ((n : Nat) : Int)), (2, .int .i64 ((i : Nat) : Int)), (3, .string s), (4, .slice A p.length cap), (10, .bool false), (19, .int .i64 ((i : Nat) : Int)), (20, .bool (decide (((i : Nat) : Int) < 0))), (21, .bool false), (22, .int .i64 ((i : Nat) : Int)), (23, .int .i64 ((n : Nat) : Int)), (24, .bool (decide (((n : Nat) : Int) ≤ ((i : Nat) : Int)))), (25, .bool (decide (((n : Nat) : Int) ≤ ((i : Nat) : Int)))), (26, .bool false), (27, .slice A p.length cap), (28, .bool (decide (∀ x ∈ p, ByteArray.size x = 32))), (29, .bool (decide (¬ (∀ x ∈ p, ByteArray.size x = 32)))), (30, .bool (decide (¬ (∀ x ∈ p, ByteArray.size x = 32))))]) ⟨rfl, rfl, rfl, rfl, rfl, rfl, rfl, rfl, rfl, rfl, rfl, rfl, rfl, rfl, rfl, rfl, rfl, rfl, trivial⟩ ?_)
        refine CX.seq ?_
        refine CX.region ?_
        refine RX.cons rfl rfl (op_w (yw_assign rfl rfl) rfl rfl ?_)
        refine RX.nil (XX.next (V' := [(0, .string root), (1, .int .i64 ((n : Nat) : Int)), (2, .int .i64 ((i : Nat) : Int)), (3, .string s), (4, .slice A p.length cap), (10, .bool false), (11, .slice none 0 0), (19, .int .i64 ((i : Nat) : Int)), (20, .bool (decide (((i : Nat) : Int) < 0))), (21, .bool false), (22, .int .i64 ((i : Nat) : Int)), (23, .int .i64 ((n : Nat) : Int)), (24, .bool (decide (((n : Nat) : Int) ≤ ((i : Nat) : Int)))), (25, .bool (decide (((n : Nat) : Int) ≤ ((i : Nat) : Int)))), (26, .bool false), (27, .slice A p.length cap), (28, .bool (decide (∀ x ∈ p, ByteArray.size x = 32))), (29, .bool (decide (¬ (∀ x ∈ p, ByteArray.size x = 32)))), (30, .bool (decide (¬ (∀ x ∈ p, ByteArray.size x = 32))))]) ⟨rfl, rfl, rfl, rfl, rfl, rfl, rfl, rfl, rfl, rfl, rfl, rfl, rfl, rfl, rfl, rfl, rfl, rfl, rfl, trivial⟩ ?_)
        refine CX.seq ?_
        refine CX.block ?_
        refine CX.rowNil 81 2 ?_
        refine CX.loop (σ := (List ByteArray × Nat × Nat) × (Option Addr × Nat) × List (ByteArray × Bool)) (fun z => [(0, .string root), (1, .int .i64 ((z.1.2.1 : Nat) : Int)), (2, .int .i64 ((z.1.2.2 : Nat) : Int)), (3, .string s), (4, .slice A z.1.1.length cap), (10, .bool false), (11, .slice z.2.1.1 (List.length (z.2.2 : List (ByteArray × Bool))) z.2.1.2), (19, .int .i64 ((i : Nat) : Int)), (20, .bool (decide (((i : Nat) : Int) < 0))), (21, .bool false), (22, .int .i64 ((i : Nat) : Int)), (23, .int .i64 ((n : Nat) : Int)), (24, .bool (decide (((n : Nat) : Int) ≤ ((i : Nat) : Int)))), (25, .bool (decide (((n : Nat) : Int) ≤ ((i : Nat) : Int)))), (26, .bool false), (27, .slice A p.length cap), (28, .bool (decide (∀ x ∈ p, ByteArray.size x = 32))), (29, .bool (decide (¬ (∀ x ∈ p, ByteArray.size x = 32)))), (30, .bool (decide (¬ (∀ x ∈ p, ByteArray.size x = 32))))]) (fun z => [.row z.2.1.1 z.2.1.2 81 2 (List.map sideC z.2.2)]) (fun z => Rd w A 1 (z.1.1.map strC) ∧ z.1.1.length ≤ cap ∧ z.1.1.length + z.2.2.length = p.length ∧ z.1.2.2 < z.1.2.1 ∧ z.1.2.1 ≤ n ∧ (∀ x ∈ z.1.1, x.size = 32) ∧ (∀ x ∈ z.2.2, x.1.size = 32) ∧ value sum s p.reverse n i = (value sum s z.1.1.reverse z.1.2.1 z.1.2.2).map (fun v => z.2.2.foldr (fun x out => joinS sum x out) v)) (fun z => z.1.2.1) ((p, n, i), (none, 0), []) ⟨hr, hcap, by simp, hi, Nat.le_refl _, hall, by simp, by simp⟩ ⟨rfl, rfl, rfl, rfl, rfl, rfl, rfl, rfl, rfl, rfl, rfl, rfl, rfl, rfl, rfl, rfl, rfl, rfl, rfl, trivial⟩ rfl (fun z hI => ?_)
        obtain ⟨⟨ps, k, j⟩, ⟨B1, d1⟩, way⟩ := z
        dsimp only at hI ⊢
        obtain ⟨hR, hpc, hpw, hj, hkn, hps2, hway, hval⟩ := hI
        refine CX.seq ?_
        refine CX.seq ?_
        refine CX.region ?_
        refine RX.cons rfl rfl (op_w (yw_move rfl rfl) rfl rfl ?_)
        refine RX.cons rfl rfl (op_w (yw_gtr rfl rfl rfl) rfl rfl ?_)
        refine RX.nil (XX.next (V' := [(0, .string root), (1, .int .i64 ((k : Nat) : Int)), (2, .int .i64 ((j : Nat) : Int)), (3, .string s), (4, .slice A ps.length cap), (10, .bool false), (11, .slice B1 (List.length (way : List (ByteArray × Bool))) d1), (19, .int .i64 ((i : Nat) : Int)), (20, .bool (decide (((i : Nat) : Int) < 0))), (21, .bool false), (22, .int .i64 ((i : Nat) : Int)), (23, .int .i64 ((n : Nat) : Int)), (24, .bool (decide (((n : Nat) : Int) ≤ ((i : Nat) : Int)))), (25, .bool (decide (((n : Nat) : Int) ≤ ((i : Nat) : Int)))), (26, .bool false), (27, .slice A p.length cap), (28, .bool (decide (∀ x ∈ p, ByteArray.size x = 32))), (29, .bool (decide (¬ (∀ x ∈ p, ByteArray.size x = 32)))), (30, .bool (decide (¬ (∀ x ∈ p, ByteArray.size x = 32)))), (31, .int .i64 ((k : Nat) : Int)), (32, .bool (decide (1 < ((k : Nat) : Int))))]) ⟨rfl, rfl, rfl, rfl, rfl, rfl, rfl, rfl, rfl, rfl, rfl, rfl, rfl, rfl, rfl, rfl, rfl, rfl, rfl, rfl, rfl, trivial⟩ ?_)
        refine CX.condD (p := 1 < ((k : Nat) : Int)) rfl (fun c32 => ?_) (fun c32 => ?_)
        · refine CX.skip (XX.next (V' := [(0, .string root), (1, .int .i64 ((k : Nat) : Int)), (2, .int .i64 ((j : Nat) : Int)), (3, .string s), (4, .slice A ps.length cap), (10, .bool false), (11, .slice B1 (List.length (way : List (ByteArray × Bool))) d1), (19, .int .i64 ((i : Nat) : Int)), (20, .bool (decide (((i : Nat) : Int) < 0))), (21, .bool false), (22, .int .i64 ((i : Nat) : Int)), (23, .int .i64 ((n : Nat) : Int)), (24, .bool (decide (((n : Nat) : Int) ≤ ((i : Nat) : Int)))), (25, .bool (decide (((n : Nat) : Int) ≤ ((i : Nat) : Int)))), (26, .bool false), (27, .slice A p.length cap), (28, .bool (decide (∀ x ∈ p, ByteArray.size x = 32))), (29, .bool (decide (¬ (∀ x ∈ p, ByteArray.size x = 32)))), (30, .bool (decide (¬ (∀ x ∈ p, ByteArray.size x = 32))))]) ⟨rfl, rfl, rfl, rfl, rfl, rfl, rfl, rfl, rfl, rfl, rfl, rfl, rfl, rfl, rfl, rfl, rfl, rfl, rfl, trivial⟩ ?_)
          refine CX.block ?_
          refine CX.seq ?_
          rcases nil_or ps with hps | ⟨x0, hx0, hpl⟩
          · refine CX.region ?_
            refine RX.cons rfl rfl (op_w (yw_move rfl rfl) rfl rfl ?_)
            refine RX.know (t := 34) (u := .slice A 0 cap) rfl (congrArg (fun n => Value.slice A n cap) (by rw [hps]; rfl)) ?_
            refine RX.cons rfl rfl (op_callV (v := .tuple #[.string .empty, .slice none 0 0, .bool false]) rfl rfl rfl rfl rfl ent_47 (fun w hw => w_take0) ?_)
            refine RX.cons rfl rfl (op_w (yw_move rfl rfl) rfl rfl ?_)
            refine RX.cons rfl rfl (op_w (yw_extract rfl rfl rfl) rfl rfl ?_)
            refine RX.cons rfl rfl (op_w (yw_extract rfl rfl rfl) rfl rfl ?_)
            refine RX.cons rfl rfl (op_w (yw_extract rfl rfl rfl) rfl rfl ?_)
            refine RX.cons rfl rfl (op_w (yw_assign rfl rfl) rfl rfl ?_)
            refine RX.cons rfl rfl (op_w (yw_assign rfl rfl) rfl rfl ?_)
            refine RX.cons rfl rfl (op_w (yw_assign rfl rfl) rfl rfl ?_)
            refine RX.nil (XX.next (V' := [(0, .string root), (1, .int .i64 ((k : Nat) : Int)), (2, .int .i64 ((j : Nat) : Int)), (3, .string s), (10, .bool false), (11, .slice B1 (List.length (way : List (ByteArray × Bool))) d1), (12, .string .empty), (13, .slice none 0 0), (14, .bool false), (19, .int .i64 ((i : Nat) : Int)), (20, .bool (decide (((i : Nat) : Int) < 0))), (21, .bool false), (22, .int .i64 ((i : Nat) : Int)), (23, .int .i64 ((n : Nat) : Int)), (24, .bool (decide (((n : Nat) : Int) ≤ ((i : Nat) : Int)))), (25, .bool (decide (((n : Nat) : Int) ≤ ((i : Nat) : Int)))), (26, .bool false), (27, .slice A p.length cap), (28, .bool (decide (∀ x ∈ p, ByteArray.size x = 32))), (29, .bool (decide (¬ (∀ x ∈ p, ByteArray.size x = 32)))), (30, .bool (decide (¬ (∀ x ∈ p, ByteArray.size x = 32)))), (33, .tuple #[.string .empty, .slice none 0 0, .bool false]), (34, .slice A 0 cap), (35, .tuple #[.string .empty, .slice none 0 0, .bool false]), (36, .string .empty), (37, .slice none 0 0), (38, .bool false)]) ⟨rfl, rfl, rfl, rfl, rfl, rfl, rfl, rfl, rfl, rfl, rfl, rfl, rfl, rfl, rfl, rfl, rfl, rfl, rfl, rfl, rfl, rfl, rfl, rfl, rfl, rfl, rfl, trivial⟩ ?_)
            refine CX.seq ?_
            refine CX.seq ?_
            refine CX.region ?_
            refine RX.cons rfl rfl (op_w (yw_move rfl rfl) rfl rfl ?_)
            refine RX.cons rfl rfl (op_w (yw_not rfl rfl) rfl rfl ?_)
            refine RX.nil (XX.next (V' := [(0, .string root), (1, .int .i64 ((k : Nat) : Int)), (2, .int .i64 ((j : Nat) : Int)), (3, .string s), (10, .bool false), (11, .slice B1 (List.length (way : List (ByteArray × Bool))) d1), (12, .string .empty), (13, .slice none 0 0), (14, .bool false), (19, .int .i64 ((i : Nat) : Int)), (20, .bool (decide (((i : Nat) : Int) < 0))), (21, .bool false), (22, .int .i64 ((i : Nat) : Int)), (23, .int .i64 ((n : Nat) : Int)), (24, .bool (decide (((n : Nat) : Int) ≤ ((i : Nat) : Int)))), (25, .bool (decide (((n : Nat) : Int) ≤ ((i : Nat) : Int)))), (26, .bool false), (27, .slice A p.length cap), (28, .bool (decide (∀ x ∈ p, ByteArray.size x = 32))), (29, .bool (decide (¬ (∀ x ∈ p, ByteArray.size x = 32)))), (30, .bool (decide (¬ (∀ x ∈ p, ByteArray.size x = 32)))), (33, .tuple #[.string .empty, .slice none 0 0, .bool false]), (34, .slice A 0 cap), (35, .tuple #[.string .empty, .slice none 0 0, .bool false]), (36, .string .empty), (37, .slice none 0 0), (38, .bool false), (39, .bool false), (40, .bool true)]) ⟨rfl, rfl, rfl, rfl, rfl, rfl, rfl, rfl, rfl, rfl, rfl, rfl, rfl, rfl, rfl, rfl, rfl, rfl, rfl, rfl, rfl, rfl, rfl, rfl, rfl, rfl, rfl, rfl, rfl, trivial⟩ ?_)
            refine CX.condT rfl ?_
            refine CX.seq ?_
            refine CX.region ?_
            refine RX.cons rfl rfl (op_w (yw_assign rfl rfl) rfl rfl ?_)
            refine RX.nil (XX.next (V' := [(10, .bool false)]) ⟨rfl, trivial⟩ ?_)
            refine CX.ret ?_
            refine XX.then_ret ?_
            refine XX.block_ret ?_
            refine XX.then_ret ?_
            refine XX.block_ret ?_
            refine XX.then_ret ?_
            exact ret_tmpM0 rfl rfl fun w1 hw => ⟨by rw [verN_none (by rw [hval, hps, List.reverse_nil, value_out sum s (by omega)]; rfl)], hw.sub (List.nil_sublist _)⟩
          · refine CX.region ?_
            refine RX.cons rfl rfl (op_w (yw_move rfl rfl) rfl rfl ?_)
            refine RX.cons rfl rfl (op_callV (v := .tuple #[.string x0, .slice A (List.length ps - 1) cap, .bool true]) rfl rfl rfl rfl rfl ent_47 (fun w hw => w_take ps (hw.rd hR (by simp)) x0 hx0 hpl hpc (by omega)) ?_)
            refine RX.cons rfl rfl (op_w (yw_move rfl rfl) rfl rfl ?_)
            refine RX.cons rfl rfl (op_w (yw_extract rfl rfl rfl) rfl rfl ?_)
            refine RX.cons rfl rfl (op_w (yw_extract rfl rfl rfl) rfl rfl ?_)
            refine RX.know (t := 37) (u := .slice A ((List.take (ps.length - 1) ps).length) cap) rfl (congrArg (fun n => Value.slice A n cap) (by simp)) ?_
            refine RX.cons rfl rfl (op_w (yw_extract rfl rfl rfl) rfl rfl ?_)
            refine RX.cons rfl rfl (op_w (yw_assign rfl rfl) rfl rfl ?_)
            refine RX.cons rfl rfl (op_w (yw_assign rfl rfl) rfl rfl ?_)
            refine RX.cons rfl rfl (op_w (yw_assign rfl rfl) rfl rfl ?_)
            refine RX.nil (XX.next (V' := [(0, .string root), (1, .int .i64 ((k : Nat) : Int)), (2, .int .i64 ((j : Nat) : Int)), (3, .string s), (10, .bool false), (11, .slice B1 (List.length (way : List (ByteArray × Bool))) d1), (12, .string x0), (13, .slice A ((List.take (ps.length - 1) ps).length) cap), (14, .bool true), (19, .int .i64 ((i : Nat) : Int)), (20, .bool (decide (((i : Nat) : Int) < 0))), (21, .bool false), (22, .int .i64 ((i : Nat) : Int)), (23, .int .i64 ((n : Nat) : Int)), (24, .bool (decide (((n : Nat) : Int) ≤ ((i : Nat) : Int)))), (25, .bool (decide (((n : Nat) : Int) ≤ ((i : Nat) : Int)))), (26, .bool false), (27, .slice A p.length cap), (28, .bool (decide (∀ x ∈ p, ByteArray.size x = 32))), (29, .bool (decide (¬ (∀ x ∈ p, ByteArray.size x = 32)))), (30, .bool (decide (¬ (∀ x ∈ p, ByteArray.size x = 32)))), (33, .tuple #[.string x0, .slice A (List.length ps - 1) cap, .bool true]), (34, .slice A ps.length cap), (35, .tuple #[.string x0, .slice A (List.length ps - 1) cap, .bool true]), (36, .string x0), (37, .slice A ((List.take (ps.length - 1) ps).length) cap), (38, .bool true)]) ⟨rfl, rfl, rfl, rfl, rfl, rfl, rfl, rfl, rfl, rfl, rfl, rfl, rfl, rfl, rfl, rfl, rfl, rfl, rfl, rfl, rfl, rfl, rfl, rfl, rfl, rfl, rfl, trivial⟩ ?_)
            refine CX.seq ?_
            refine CX.seq ?_
            refine CX.region ?_
            refine RX.cons rfl rfl (op_w (yw_move rfl rfl) rfl rfl ?_)
            refine RX.cons rfl rfl (op_w (yw_not rfl rfl) rfl rfl ?_)
            refine RX.nil (XX.next (V' := [(0, .string root), (1, .int .i64 ((k : Nat) : Int)), (2, .int .i64 ((j : Nat) : Int)), (3, .string s), (10, .bool false), (11, .slice B1 (List.length (way : List (ByteArray × Bool))) d1), (12, .string x0), (13, .slice A ((List.take (ps.length - 1) ps).length) cap), (14, .bool true), (19, .int .i64 ((i : Nat) : Int)), (20, .bool (decide (((i : Nat) : Int) < 0))), (21, .bool false), (22, .int .i64 ((i : Nat) : Int)), (23, .int .i64 ((n : Nat) : Int)), (24, .bool (decide (((n : Nat) : Int) ≤ ((i : Nat) : Int)))), (25, .bool (decide (((n : Nat) : Int) ≤ ((i : Nat) : Int)))), (26, .bool false), (27, .slice A p.length cap), (28, .bool (decide (∀ x ∈ p, ByteArray.size x = 32))), (29, .bool (decide (¬ (∀ x ∈ p, ByteArray.size x = 32)))), (30, .bool (decide (¬ (∀ x ∈ p, ByteArray.size x = 32)))), (33, .tuple #[.string x0, .slice A (List.length ps - 1) cap, .bool true]), (34, .slice A ps.length cap), (35, .tuple #[.string x0, .slice A (List.length ps - 1) cap, .bool true]), (36, .string x0), (37, .slice A ((List.take (ps.length - 1) ps).length) cap), (38, .bool true), (39, .bool true), (40, .bool false)]) ⟨rfl, rfl, rfl, rfl, rfl, rfl, rfl, rfl, rfl, rfl, rfl, rfl, rfl, rfl, rfl, rfl, rfl, rfl, rfl, rfl, rfl, rfl, rfl, rfl, rfl, rfl, rfl, rfl, rfl, trivial⟩ ?_)
            refine CX.condF rfl ?_
            refine CX.skip (XX.next (V' := [(0, .string root), (1, .int .i64 ((k : Nat) : Int)), (2, .int .i64 ((j : Nat) : Int)), (3, .string s), (10, .bool false), (11, .slice B1 (List.length (way : List (ByteArray × Bool))) d1), (12, .string x0), (13, .slice A ((List.take (ps.length - 1) ps).length) cap), (14, .bool true), (19, .int .i64 ((i : Nat) : Int)), (20, .bool (decide (((i : Nat) : Int) < 0))), (21, .bool false), (22, .int .i64 ((i : Nat) : Int)), (23, .int .i64 ((n : Nat) : Int)), (24, .bool (decide (((n : Nat) : Int) ≤ ((i : Nat) : Int)))), (25, .bool (decide (((n : Nat) : Int) ≤ ((i : Nat) : Int)))), (26, .bool false), (27, .slice A p.length cap), (28, .bool (decide (∀ x ∈ p, ByteArray.size x = 32))), (29, .bool (decide (¬ (∀ x ∈ p, ByteArray.size x = 32)))), (30, .bool (decide (¬ (∀ x ∈ p, ByteArray.size x = 32)))), (33, .tuple #[.string x0, .slice A (List.length ps - 1) cap, .bool true]), (34, .slice A ps.length cap), (35, .tuple #[.string x0, .slice A (List.length ps - 1) cap, .bool true]), (36, .string x0), (37, .slice A ((List.take (ps.length - 1) ps).length) cap), (38, .bool true), (39, .bool true), (40, .bool false)]) ⟨rfl, rfl, rfl, rfl, rfl, rfl, rfl, rfl, rfl, rfl, rfl, rfl, rfl, rfl, rfl, rfl, rfl, rfl, rfl, rfl, rfl, rfl, rfl, rfl, rfl, rfl, rfl, rfl, rfl, trivial⟩ ?_)
            refine CX.seq ?_
            have hps' := last_split hx0
            have hrev : ps.reverse = x0 :: (List.take (ps.length - 1) ps).reverse := by rw [congrArg List.reverse hps', List.reverse_append]; rfl
            have hx32 : x0.size = 32 := hps2 x0 (List.mem_of_getElem? hx0)
            have hq1 := lft_pos k
            have hq2 := lft_lt (n := k) (by omega)
            refine CX.region ?_
            refine RX.cons rfl rfl (op_w (yw_move rfl rfl) rfl rfl ?_)
            refine RX.cons rfl rfl (op_w (yw_assign rfl rfl) rfl rfl ?_)
            refine RX.nil (XX.next (V' := [(0, .string root), (1, .int .i64 ((k : Nat) : Int)), (2, .int .i64 ((j : Nat) : Int)), (3, .string s), (4, .slice A ((List.take (ps.length - 1) ps).length) cap), (10, .bool false), (11, .slice B1 (List.length (way : List (ByteArray × Bool))) d1), (12, .string x0), (13, .slice A ((List.take (ps.length - 1) ps).length) cap), (14, .bool true), (19, .int .i64 ((i : Nat) : Int)), (20, .bool (decide (((i : Nat) : Int) < 0))), (21, .bool false), (22, .int .i64 ((i : Nat) : Int)), (23, .int .i64 ((n : Nat) : Int)), (24, .bool (decide (((n : Nat) : Int) ≤ ((i : Nat) : Int)))), (25, .bool (decide (((n : Nat) : Int) ≤ ((i : Nat) : Int)))), (26, .bool false), (27, .slice A p.length cap), (28, .bool (decide (∀ x ∈ p, ByteArray.size x = 32))), (29, .bool (decide (¬ (∀ x ∈ p, ByteArray.size x = 32)))), (30, .bool (decide (¬ (∀ x ∈ p, ByteArray.size x = 32)))), (33, .tuple #[.string x0, .slice A (List.length ps - 1) cap, .bool true]), (34, .slice A ps.length cap), (35, .tuple #[.string x0, .slice A (List.length ps - 1) cap, .bool true]), (36, .string x0), (37, .slice A ((List.take (ps.length - 1) ps).length) cap), (38, .bool true), (39, .bool true), (40, .bool false), (41, .slice A ((List.take (ps.length - 1) ps).length) cap)]) ⟨rfl, rfl, rfl, rfl, rfl, rfl, rfl, rfl, rfl, rfl, rfl, rfl, rfl, rfl, rfl, rfl, rfl, rfl, rfl, rfl, rfl, rfl, rfl, rfl, rfl, rfl, rfl, rfl, rfl, rfl, rfl, trivial⟩ ?_)
            refine CX.seq ?_
            refine CX.region ?_
            refine RX.cons rfl rfl (op_w (yw_move rfl rfl) rfl rfl ?_)
            refine RX.cons rfl rfl (op_callV (v := .int .i64 ((lft k : Nat) : Int)) rfl rfl rfl rfl rfl ent_48 (fun w hw => w_left k (by omega) (by omega)) ?_)
            refine RX.cons rfl rfl (op_w (yw_assign rfl rfl) rfl rfl ?_)
            refine RX.nil (XX.next (V' := [(0, .string root), (1, .int .i64 ((k : Nat) : Int)), (2, .int .i64 ((j : Nat) : Int)), (3, .string s), (4, .slice A ((List.take (ps.length - 1) ps).length) cap), (10, .bool false), (11, .slice B1 (List.length (way : List (ByteArray × Bool))) d1), (12, .string x0), (13, .slice A ((List.take (ps.length - 1) ps).length) cap), (14, .bool true), (15, .int .i64 ((lft k : Nat) : Int)), (19, .int .i64 ((i : Nat) : Int)), (20, .bool (decide (((i : Nat) : Int) < 0))), (21, .bool false), (22, .int .i64 ((i : Nat) : Int)), (23, .int .i64 ((n : Nat) : Int)), (24, .bool (decide (((n : Nat) : Int) ≤ ((i : Nat) : Int)))), (25, .bool (decide (((n : Nat) : Int) ≤ ((i : Nat) : Int)))), (26, .bool false), (27, .slice A p.length cap), (28, .bool (decide (∀ x ∈ p, ByteArray.size x = 32))), (29, .bool (decide (¬ (∀ x ∈ p, ByteArray.size x = 32)))), (30, .bool (decide (¬ (∀ x ∈ p, ByteArray.size x = 32)))), (33, .tuple #[.string x0, .slice A (List.length ps - 1) cap, .bool true]), (34, .slice A ps.length cap), (35, .tuple #[.string x0, .slice A (List.length ps - 1) cap, .bool true]), (36, .string x0), (37, .slice A ((List.take (ps.length - 1) ps).length) cap), (38, .bool true), (39, .bool true), (40, .bool false), (41, .slice A ((List.take (ps.length - 1) ps).length) cap), (42, .int .i64 ((k : Nat) : Int)), (43, .int .i64 ((lft k : Nat) : Int))]) ⟨rfl, rfl, rfl, rfl, rfl, rfl, rfl, rfl, rfl, rfl, rfl, rfl, rfl, rfl, rfl, rfl, rfl, rfl, rfl, rfl, rfl, rfl, rfl, rfl, rfl, rfl, rfl, rfl, rfl, rfl, rfl, rfl, rfl, rfl, trivial⟩ ?_)
            refine CX.seq ?_
            refine CX.region ?_
            refine RX.cons rfl rfl (op_w (yw_move rfl rfl) rfl rfl ?_)
            refine RX.cons rfl rfl (op_w (yw_move rfl rfl) rfl rfl ?_)
            refine RX.cons rfl rfl (op_w (yw_move rfl rfl) rfl rfl ?_)
            refine RX.cons rfl rfl (op_w (yw_move rfl rfl) rfl rfl ?_)
            refine RX.cons rfl rfl (op_w (yw_geq rfl rfl rfl) rfl rfl ?_)
            refine RX.cons rfl rfl (op_w (yw_build (v := .agg (#[.string x0, .bool (decide (((lft k : Nat) : Int) ≤ ((j : Nat) : Int)))])) rfl rfl (fun _ => by kernel_rfl)) rfl rfl ?_)
            refine RX.cons rfl rfl (op_buildSlice rfl rfl rfl slb_77 rfl rfl (by intro v hv; simp only [List.mem_cons, List.not_mem_nil, or_false] at hv; subst hv; exact ⟨rfl, (plain_of rfl)⟩) (by decide) fun g1 => ?_)
            refine RX.cons rfl rfl (op_appendM sideC (i := 1) (j := 0) (xs := way) ([(x0, decide (((lft k : Nat) : Int) ≤ ((j : Nat) : Int)))]) rfl rfl rfl slb_77 rfl rfl rfl rfl rfl rfl (by simp only [List.length_singleton]; omega) (by simp only [List.length_singleton]; omega) fun B2 d2 => ?_)
            refine RX.cons rfl rfl (op_w (yw_assign rfl rfl) rfl rfl ?_)
            refine RX.nil (XX.next (V' := [(0, .string root), (1, .int .i64 ((k : Nat) : Int)), (2, .int .i64 ((j : Nat) : Int)), (3, .string s), (4, .slice A ((List.take (ps.length - 1) ps).length) cap), (10, .bool false), (11, .slice B2 ((way ++ [(x0, decide (((lft k : Nat) : Int) ≤ ((j : Nat) : Int)))]).length) d2), (12, .string x0), (13, .slice A ((List.take (ps.length - 1) ps).length) cap), (14, .bool true), (15, .int .i64 ((lft k : Nat) : Int)), (19, .int .i64 ((i : Nat) : Int)), (20, .bool (decide (((i : Nat) : Int) < 0))), (21, .bool false), (22, .int .i64 ((i : Nat) : Int)), (23, .int .i64 ((n : Nat) : Int)), (24, .bool (decide (((n : Nat) : Int) ≤ ((i : Nat) : Int)))), (25, .bool (decide (((n : Nat) : Int) ≤ ((i : Nat) : Int)))), (26, .bool false), (27, .slice A p.length cap), (28, .bool (decide (∀ x ∈ p, ByteArray.size x = 32))), (29, .bool (decide (¬ (∀ x ∈ p, ByteArray.size x = 32)))), (30, .bool (decide (¬ (∀ x ∈ p, ByteArray.size x = 32)))), (33, .tuple #[.string x0, .slice A (List.length ps - 1) cap, .bool true]), (34, .slice A ps.length cap), (35, .tuple #[.string x0, .slice A (List.length ps - 1) cap, .bool true]), (36, .string x0), (37, .slice A ((List.take (ps.length - 1) ps).length) cap), (38, .bool true), (39, .bool true), (40, .bool false), (41, .slice A ((List.take (ps.length - 1) ps).length) cap), (42, .int .i64 ((k : Nat) : Int)), (43, .int .i64 ((lft k : Nat) : Int)), (44, .slice B1 (List.length (way : List (ByteArray × Bool))) d1), (45, .string x0), (46, .int .i64 ((j : Nat) : Int)), (47, .int .i64 ((lft k : Nat) : Int)), (48, .bool (decide (((lft k : Nat) : Int) ≤ ((j : Nat) : Int)))), (49, .agg (#[.string x0, .bool (decide (((lft k : Nat) : Int) ≤ ((j : Nat) : Int)))])), (50, .slice (some ⟨g1, 0, none⟩) 1 1), (51, .slice B2 ((way ++ [(x0, decide (((lft k : Nat) : Int) ≤ ((j : Nat) : Int)))]).length) d2)]) ⟨rfl, rfl, rfl, rfl, rfl, rfl, rfl, rfl, rfl, rfl, rfl, rfl, rfl, rfl, rfl, rfl, rfl, rfl, rfl, rfl, rfl, rfl, rfl, rfl, rfl, rfl, rfl, rfl, rfl, rfl, rfl, rfl, rfl, rfl, rfl, rfl, rfl, rfl, rfl, rfl, rfl, rfl, trivial⟩ ?_)
            refine CX.seq ?_
            refine CX.region ?_
            refine RX.cons rfl rfl (op_w (yw_move rfl rfl) rfl rfl ?_)
            refine RX.cons rfl rfl (op_w (yw_move rfl rfl) rfl rfl ?_)
            refine RX.cons rfl rfl (op_w (yw_geq rfl rfl rfl) rfl rfl ?_)
            refine RX.nil (XX.next (V' := [(0, .string root), (1, .int .i64 ((k : Nat) : Int)), (2, .int .i64 ((j : Nat) : Int)), (3, .string s), (4, .slice A ((List.take (ps.length - 1) ps).length) cap), (10, .bool false), (11, .slice B2 ((way ++ [(x0, decide (((lft k : Nat) : Int) ≤ ((j : Nat) : Int)))]).length) d2), (12, .string x0), (13, .slice A ((List.take (ps.length - 1) ps).length) cap), (14, .bool true), (15, .int .i64 ((lft k : Nat) : Int)), (19, .int .i64 ((i : Nat) : Int)), (20, .bool (decide (((i : Nat) : Int) < 0))), (21, .bool false), (22, .int .i64 ((i : Nat) : Int)), (23, .int .i64 ((n : Nat) : Int)), (24, .bool (decide (((n : Nat) : Int) ≤ ((i : Nat) : Int)))), (25, .bool (decide (((n : Nat) : Int) ≤ ((i : Nat) : Int)))), (26, .bool false), (27, .slice A p.length cap), (28, .bool (decide (∀ x ∈ p, ByteArray.size x = 32))), (29, .bool (decide (¬ (∀ x ∈ p, ByteArray.size x = 32)))), (30, .bool (decide (¬ (∀ x ∈ p, ByteArray.size x = 32)))), (33, .tuple #[.string x0, .slice A (List.length ps - 1) cap, .bool true]), (34, .slice A ps.length cap), (35, .tuple #[.string x0, .slice A (List.length ps - 1) cap, .bool true]), (36, .string x0), (37, .slice A ((List.take (ps.length - 1) ps).length) cap), (38, .bool true), (39, .bool true), (40, .bool false), (41, .slice A ((List.take (ps.length - 1) ps).length) cap), (42, .int .i64 ((k : Nat) : Int)), (43, .int .i64 ((lft k : Nat) : Int)), (44, .slice B1 (List.length (way : List (ByteArray × Bool))) d1), (45, .string x0), (46, .int .i64 ((j : Nat) : Int)), (47, .int .i64 ((lft k : Nat) : Int)), (48, .bool (decide (((lft k : Nat) : Int) ≤ ((j : Nat) : Int)))), (49, .agg (#[.string x0, .bool (decide (((lft k : Nat) : Int) ≤ ((j : Nat) : Int)))])), (50, .slice (some ⟨g1, 0, none⟩) 1 1), (51, .slice B2 ((way ++ [(x0, decide (((lft k : Nat) : Int) ≤ ((j : Nat) : Int)))]).length) d2), (52, .int .i64 ((j : Nat) : Int)), (53, .int .i64 ((lft k : Nat) : Int)), (54, .bool (decide (((lft k : Nat) : Int) ≤ ((j : Nat) : Int))))]) ⟨rfl, rfl, rfl, rfl, rfl, rfl, rfl, rfl, rfl, rfl, rfl, rfl, rfl, rfl, rfl, rfl, rfl, rfl, rfl, rfl, rfl, rfl, rfl, rfl, rfl, rfl, rfl, rfl, rfl, rfl, rfl, rfl, rfl, rfl, rfl, rfl, rfl, rfl, rfl, rfl, rfl, rfl, rfl, rfl, rfl, trivial⟩ ?_)
            refine CX.condD (p := ((lft k : Nat) : Int) ≤ ((j : Nat) : Int)) rfl (fun c54 => ?_) (fun c54 => ?_)
            · refine CX.region ?_
              refine RX.cons rfl rfl (op_w (yw_move rfl rfl) rfl rfl ?_)
              refine RX.cons rfl rfl (op_w (yw_move rfl rfl) rfl rfl ?_)
              refine RX.cons rfl rfl (op_w (yw_sub rfl rfl rfl (by omega) (by omega)) rfl rfl ?_)
              refine RX.know (t := 57) (u := .int .i64 ((k - lft k : Nat) : Int)) rfl (congrArg (Value.int .i64) (by omega)) ?_
              refine RX.cons rfl rfl (op_w (yw_move rfl rfl) rfl rfl ?_)
              refine RX.cons rfl rfl (op_w (yw_move rfl rfl) rfl rfl ?_)
              refine RX.cons rfl rfl (op_w (yw_sub rfl rfl rfl (by omega) (by omega)) rfl rfl ?_)
              refine RX.know (t := 60) (u := .int .i64 ((j - lft k : Nat) : Int)) rfl (congrArg (Value.int .i64) (by omega)) ?_
              refine RX.cons rfl rfl (op_w (yw_assign rfl rfl) rfl rfl ?_)
              refine RX.cons rfl rfl (op_w (yw_assign rfl rfl) rfl rfl ?_)
              refine RX.nil (XX.inBlock (V' := [(0, .string root), (1, .int .i64 ((k - lft k : Nat) : Int)), (2, .int .i64 ((j - lft k : Nat) : Int)), (3, .string s), (4, .slice A ((List.take (ps.length - 1) ps).length) cap), (10, .bool false), (11, .slice B2 ((way ++ [(x0, decide (((lft k : Nat) : Int) ≤ ((j : Nat) : Int)))]).length) d2), (12, .string x0), (13, .slice A ((List.take (ps.length - 1) ps).length) cap), (14, .bool true), (15, .int .i64 ((lft k : Nat) : Int)), (19, .int .i64 ((i : Nat) : Int)), (20, .bool (decide (((i : Nat) : Int) < 0))), (21, .bool false), (22, .int .i64 ((i : Nat) : Int)), (23, .int .i64 ((n : Nat) : Int)), (24, .bool (decide (((n : Nat) : Int) ≤ ((i : Nat) : Int)))), (25, .bool (decide (((n : Nat) : Int) ≤ ((i : Nat) : Int)))), (26, .bool false), (27, .slice A p.length cap), (28, .bool (decide (∀ x ∈ p, ByteArray.size x = 32))), (29, .bool (decide (¬ (∀ x ∈ p, ByteArray.size x = 32)))), (30, .bool (decide (¬ (∀ x ∈ p, ByteArray.size x = 32)))), (33, .tuple #[.string x0, .slice A (List.length ps - 1) cap, .bool true]), (34, .slice A ps.length cap), (35, .tuple #[.string x0, .slice A (List.length ps - 1) cap, .bool true]), (36, .string x0), (37, .slice A ((List.take (ps.length - 1) ps).length) cap), (38, .bool true), (39, .bool true), (40, .bool false), (41, .slice A ((List.take (ps.length - 1) ps).length) cap), (42, .int .i64 ((k : Nat) : Int)), (43, .int .i64 ((lft k : Nat) : Int)), (44, .slice B1 (List.length (way : List (ByteArray × Bool))) d1), (45, .string x0), (46, .int .i64 ((j : Nat) : Int)), (47, .int .i64 ((lft k : Nat) : Int)), (48, .bool (decide (((lft k : Nat) : Int) ≤ ((j : Nat) : Int)))), (49, .agg (#[.string x0, .bool (decide (((lft k : Nat) : Int) ≤ ((j : Nat) : Int)))])), (50, .slice (some ⟨g1, 0, none⟩) 1 1), (51, .slice B2 ((way ++ [(x0, decide (((lft k : Nat) : Int) ≤ ((j : Nat) : Int)))]).length) d2), (52, .int .i64 ((j : Nat) : Int)), (53, .int .i64 ((lft k : Nat) : Int)), (54, .bool (decide (((lft k : Nat) : Int) ≤ ((j : Nat) : Int)))), (55, .int .i64 ((k : Nat) : Int)), (56, .int .i64 ((lft k : Nat) : Int)), (57, .int .i64 ((k - lft k : Nat) : Int)), (58, .int .i64 ((j : Nat) : Int)), (59, .int .i64 ((lft k : Nat) : Int)), (60, .int .i64 ((j - lft k : Nat) : Int))]) ⟨rfl, rfl, rfl, rfl, rfl, rfl, rfl, rfl, rfl, rfl, rfl, rfl, rfl, rfl, rfl, rfl, rfl, rfl, rfl, rfl, rfl, rfl, rfl, rfl, rfl, rfl, rfl, rfl, rfl, rfl, rfl, rfl, rfl, rfl, rfl, rfl, rfl, rfl, rfl, rfl, rfl, rfl, rfl, rfl, rfl, rfl, rfl, rfl, rfl, rfl, rfl, trivial⟩ ?_)
              refine XX.againP ([.row (some ⟨g1, 0, none⟩) 1 81 2 (List.map sideC ([(x0, decide (((lft k : Nat) : Int) ≤ ((j : Nat) : Int)))]))]) ((List.take (ps.length - 1) ps, k - lft k, j - lft k), (B2, d2), way ++ [(x0, decide (((lft k : Nat) : Int) ≤ ((j : Nat) : Int)))]) (by dsimp only; omega) ⟨hR.takeM _, by simp; omega, by simp; omega, by dsimp only; omega, by dsimp only; omega, fun x hx => hps2 x (List.mem_of_mem_take hx), way_snoc hway hx32, by dsimp only; rw [hval, hrev, value_ge sum s x0 _ (by omega) (by omega), Option.map_map, decide_eq_true c54]; simp only [List.foldr_append, List.foldr_cons, List.foldr_nil]; rfl⟩ ⟨rfl, rfl, rfl, rfl, rfl, rfl, rfl, rfl, rfl, rfl, rfl, rfl, rfl, rfl, rfl, rfl, rfl, rfl, rfl, trivial⟩ ((perm_pick 1 rfl).trans (List.Perm.cons _ (List.Perm.refl _)))
            · refine CX.region ?_
              refine RX.cons rfl rfl (op_w (yw_move rfl rfl) rfl rfl ?_)
              refine RX.cons rfl rfl (op_w (yw_assign rfl rfl) rfl rfl ?_)
              refine RX.nil (XX.inBlock (V' := [(0, .string root), (1, .int .i64 ((lft k : Nat) : Int)), (2, .int .i64 ((j : Nat) : Int)), (3, .string s), (4, .slice A ((List.take (ps.length - 1) ps).length) cap), (10, .bool false), (11, .slice B2 ((way ++ [(x0, decide (((lft k : Nat) : Int) ≤ ((j : Nat) : Int)))]).length) d2), (12, .string x0), (13, .slice A ((List.take (ps.length - 1) ps).length) cap), (14, .bool true), (15, .int .i64 ((lft k : Nat) : Int)), (19, .int .i64 ((i : Nat) : Int)), (20, .bool (decide (((i : Nat) : Int) < 0))), (21, .bool false), (22, .int .i64 ((i : Nat) : Int)), (23, .int .i64 ((n : Nat) : Int)), (24, .bool (decide (((n : Nat) : Int) ≤ ((i : Nat) : Int)))), (25, .bool (decide (((n : Nat) : Int) ≤ ((i : Nat) : Int)))), (26, .bool false), (27, .slice A p.length cap), (28, .bool (decide (∀ x ∈ p, ByteArray.size x = 32))), (29, .bool (decide (¬ (∀ x ∈ p, ByteArray.size x = 32)))), (30, .bool (decide (¬ (∀ x ∈ p, ByteArray.size x = 32)))), (33, .tuple #[.string x0, .slice A (List.length ps - 1) cap, .bool true]), (34, .slice A ps.length cap), (35, .tuple #[.string x0, .slice A (List.length ps - 1) cap, .bool true]), (36, .string x0), (37, .slice A ((List.take (ps.length - 1) ps).length) cap), (38, .bool true), (39, .bool true), (40, .bool false), (41, .slice A ((List.take (ps.length - 1) ps).length) cap), (42, .int .i64 ((k : Nat) : Int)), (43, .int .i64 ((lft k : Nat) : Int)), (44, .slice B1 (List.length (way : List (ByteArray × Bool))) d1), (45, .string x0), (46, .int .i64 ((j : Nat) : Int)), (47, .int .i64 ((lft k : Nat) : Int)), (48, .bool (decide (((lft k : Nat) : Int) ≤ ((j : Nat) : Int)))), (49, .agg (#[.string x0, .bool (decide (((lft k : Nat) : Int) ≤ ((j : Nat) : Int)))])), (50, .slice (some ⟨g1, 0, none⟩) 1 1), (51, .slice B2 ((way ++ [(x0, decide (((lft k : Nat) : Int) ≤ ((j : Nat) : Int)))]).length) d2), (52, .int .i64 ((j : Nat) : Int)), (53, .int .i64 ((lft k : Nat) : Int)), (54, .bool (decide (((lft k : Nat) : Int) ≤ ((j : Nat) : Int)))), (61, .int .i64 ((lft k : Nat) : Int))]) ⟨rfl, rfl, rfl, rfl, rfl, rfl, rfl, rfl, rfl, rfl, rfl, rfl, rfl, rfl, rfl, rfl, rfl, rfl, rfl, rfl, rfl, rfl, rfl, rfl, rfl, rfl, rfl, rfl, rfl, rfl, rfl, rfl, rfl, rfl, rfl, rfl, rfl, rfl, rfl, rfl, rfl, rfl, rfl, rfl, rfl, rfl, trivial⟩ ?_)
              refine XX.againP ([.row (some ⟨g1, 0, none⟩) 1 81 2 (List.map sideC ([(x0, decide (((lft k : Nat) : Int) ≤ ((j : Nat) : Int)))]))]) ((List.take (ps.length - 1) ps, lft k, j), (B2, d2), way ++ [(x0, decide (((lft k : Nat) : Int) ≤ ((j : Nat) : Int)))]) (by dsimp only; omega) ⟨hR.takeM _, by simp; omega, by simp; omega, by dsimp only; omega, by dsimp only; omega, fun x hx => hps2 x (List.mem_of_mem_take hx), way_snoc hway hx32, by dsimp only; rw [hval, hrev, value_lt sum s x0 _ (by omega) (by omega), Option.map_map, decide_eq_false c54]; simp only [List.foldr_append, List.foldr_cons, List.foldr_nil]; rfl⟩ ⟨rfl, rfl, rfl, rfl, rfl, rfl, rfl, rfl, rfl, rfl, rfl, rfl, rfl, rfl, rfl, rfl, rfl, rfl, rfl, trivial⟩ ((perm_pick 1 rfl).trans (List.Perm.cons _ (List.Perm.refl _)))
        · refine CX.exit ?_
          refine XX.then_exit ?_
          refine XX.then_exit ?_
          refine XX.block_exit ?_
          refine XX.next (V' := [(0, .string root), (1, .int .i64 ((k : Nat) : Int)), (2, .int .i64 ((j : Nat) : Int)), (3, .string s), (4, .slice A ps.length cap), (10, .bool false), (11, .slice B1 (List.length (way : List (ByteArray × Bool))) d1), (19, .int .i64 ((i : Nat) : Int)), (20, .bool (decide (((i : Nat) : Int) < 0))), (21, .bool false), (22, .int .i64 ((i : Nat) : Int)), (23, .int .i64 ((n : Nat) : Int)), (24, .bool (decide (((n : Nat) : Int) ≤ ((i : Nat) : Int)))), (25, .bool (decide (((n : Nat) : Int) ≤ ((i : Nat) : Int)))), (26, .bool false), (27, .slice A p.length cap), (28, .bool (decide (∀ x ∈ p, ByteArray.size x = 32))), (29, .bool (decide (¬ (∀ x ∈ p, ByteArray.size x = 32)))), (30, .bool (decide (¬ (∀ x ∈ p, ByteArray.size x = 32)))), (31, .int .i64 ((k : Nat) : Int)), (32, .bool (decide (1 < ((k : Nat) : Int))))]) ⟨rfl, rfl, rfl, rfl, rfl, rfl, rfl, rfl, rfl, rfl, rfl, rfl, rfl, rfl, rfl, rfl, rfl, rfl, rfl, rfl, rfl, trivial⟩ ?_
          refine CX.seq ?_
          have hve := value_end sum s (n := k) (i := j) (by omega) ps.reverse
          refine CX.region ?_
          refine RX.cons rfl rfl (op_w (yw_move rfl rfl) rfl rfl ?_)
          refine RX.cons rfl rfl (op_callV (v := .string (leafH sum s)) rfl rfl rfl rfl rfl ent_53 (fun w hw => w_leaf s (hG.keep hw (by simp)) (by omega)) ?_)
          refine RX.cons rfl rfl (op_alloc rfl rfl rfl zero_9 fun go => ?_)
          refine RX.cons rfl rfl (op_storeAll (i := 0) rfl rfl rfl rfl szt_9 rfl (plain_of rfl) rfl rfl ?_)
          refine RX.nil (XX.next (V' := [(0, .string root), (1, .int .i64 ((k : Nat) : Int)), (2, .int .i64 ((j : Nat) : Int)), (3, .string s), (4, .slice A ps.length cap), (10, .bool false), (11, .slice B1 (List.length (way : List (ByteArray × Bool))) d1), (16, .pointer (some ⟨go, 0, none⟩)), (19, .int .i64 ((i : Nat) : Int)), (20, .bool (decide (((i : Nat) : Int) < 0))), (21, .bool false), (22, .int .i64 ((i : Nat) : Int)), (23, .int .i64 ((n : Nat) : Int)), (24, .bool (decide (((n : Nat) : Int) ≤ ((i : Nat) : Int)))), (25, .bool (decide (((n : Nat) : Int) ≤ ((i : Nat) : Int)))), (26, .bool false), (27, .slice A p.length cap), (28, .bool (decide (∀ x ∈ p, ByteArray.size x = 32))), (29, .bool (decide (¬ (∀ x ∈ p, ByteArray.size x = 32)))), (30, .bool (decide (¬ (∀ x ∈ p, ByteArray.size x = 32)))), (31, .int .i64 ((k : Nat) : Int)), (32, .bool (decide (1 < ((k : Nat) : Int)))), (62, .string s), (63, .string (leafH sum s))]) ⟨rfl, rfl, rfl, rfl, rfl, rfl, rfl, rfl, rfl, rfl, rfl, rfl, rfl, rfl, rfl, rfl, rfl, rfl, rfl, rfl, rfl, rfl, rfl, rfl, trivial⟩ ?_)
          refine CX.seq ?_
          refine CX.seq ?_
          refine CX.region ?_
          refine RX.cons rfl rfl (op_w (yw_move rfl rfl) rfl rfl ?_)
          refine RX.cons rfl rfl (op_callE rfl rfl rfl rfl rfl ent_49 (fun w _ => w_backD B1 (List.length (way : List (ByteArray × Bool))) d1) (fun zbbackD _ => ?_))
          refine RX.nil (XX.next (V' := [(0, .string root), (1, .int .i64 ((k : Nat) : Int)), (2, .int .i64 ((j : Nat) : Int)), (3, .string s), (4, .slice A ps.length cap), (10, .bool false), (11, .slice B1 (List.length (way : List (ByteArray × Bool))) d1), (16, .pointer (some ⟨go, 0, none⟩)), (19, .int .i64 ((i : Nat) : Int)), (20, .bool (decide (((i : Nat) : Int) < 0))), (21, .bool false), (22, .int .i64 ((i : Nat) : Int)), (23, .int .i64 ((n : Nat) : Int)), (24, .bool (decide (((n : Nat) : Int) ≤ ((i : Nat) : Int)))), (25, .bool (decide (((n : Nat) : Int) ≤ ((i : Nat) : Int)))), (26, .bool false), (27, .slice A p.length cap), (28, .bool (decide (∀ x ∈ p, ByteArray.size x = 32))), (29, .bool (decide (¬ (∀ x ∈ p, ByteArray.size x = 32)))), (30, .bool (decide (¬ (∀ x ∈ p, ByteArray.size x = 32)))), (31, .int .i64 ((k : Nat) : Int)), (32, .bool (decide (1 < ((k : Nat) : Int)))), (62, .string s), (63, .string (leafH sum s)), (64, .slice B1 (List.length (way : List (ByteArray × Bool))) d1), (65, .func (.func 74) #[] #[.pointer (some ⟨zbbackD, 0, none⟩)])]) ⟨rfl, rfl, rfl, rfl, rfl, rfl, rfl, rfl, rfl, rfl, rfl, rfl, rfl, rfl, rfl, rfl, rfl, rfl, rfl, rfl, rfl, rfl, rfl, rfl, rfl, rfl, trivial⟩ ?_)
          refine CX.block ?_
          refine CX.rangeFunc (σ := D32) (LL := fun h => [.blk go (.cells (#[.string (Subtype.val h)]) 9 (0, 0))]) (post := fun h => h = (List.foldr (fun a s => stepJ s a) (⟨leafH sum s, sum_size _⟩ : D32) way)) [.blk go (.cells (#[.string (Subtype.val (⟨leafH sum s, sum_size _⟩ : D32))]) 9 (0, 0))] [.blk zbbackD (.cells (#[.slice B1 (List.length (way : List (ByteArray × Bool))) d1]) 77 (0, 0)), .row B1 d1 81 2 (List.map sideC way)] ((perm_pick 1 rfl).trans (List.Perm.cons _ (List.Perm.refl _))) rfl ent_74 ?_ ?_
          · intro l Dk fn a w1 ha hw hs
            have hM : SL w [] w1 ((RB l Dk (mkRec fn a.tmps _ _ _ Dk) ++ (fun h : D32 => [.blk go (.cells (#[.string (Subtype.val h)]) 9 (0, 0))]) (⟨leafH sum s, sum_size _⟩ : D32)) ++ [.blk zbbackD (.cells (#[.slice B1 (List.length (way : List (ByteArray × Bool))) d1]) 77 (0, 0)), .row B1 d1 81 2 (List.map sideC way)]) := hw
            have hO0 := hM.fresh (List.subset_append_left _ _) (World.block_lt_of_cell? w _ (hG 0 _ rfl))
            have hGw : Rounds w1 := hG.keep hw (by simp)
            refine (w_backD1 (l := l) (Dk := Dk) (St := (fun h : D32 => [.blk go (.cells (#[.string (Subtype.val h)]) 9 (0, 0))])) (Rl := (fun (h : D32) (x : List Value) (h' : D32) => ∀ q a0, way[List.length way - 1 - q]? = some a0 → x = [.int .i64 ((List.length way - 1 - q : Nat) : Int), .agg (sideC a0)] → h' = stepJ h a0)) (ok := (fun x => ∃ q a0, way[List.length way - 1 - q]? = some a0 ∧ x = [.int .i64 ((List.length way - 1 - q : Nat) : Int), .agg (sideC a0)])) (⟨leafH sum s, sum_size _⟩ : D32) ?_ way (Ent.rd (hM.ents _ (List.mem_of_getElem? (i := 4) rfl))) (hM.apartA hO0 1 rfl) (hM.cellOf (i := 3) rfl (by rfl)) (hM.apart 0 rfl (by simp [Ent.blocks])) (by omega) (fun q hq => by obtain ⟨a0, ha0⟩ := get_some (l := way) (k := List.length way - 1 - q) (by omega); exact ⟨q, a0, ha0, backI_at ha0⟩) hs).mono ?_
            · rintro h x w2 ⟨q, a0, ha0, rfl⟩ hag hs2
              have ha32 := hway a0 (List.mem_of_getElem? ha0)
              have hh32 := h.2
              have hO3 := hO0
              simp [Ent.blocks, mrow] at hO3
              have hnd := hs2.nodup
              simp [Ent.blocks, mrow] at hnd
              have hG2 : Rounds w2 := fun p y hp => by
                have h0 := hGw p y hp
                rw [← h0]
                exact World.cell?_of_block (hag 0 (World.block_lt_of_cell? w1 _ h0) hO0)
              refine round_of_CX2 (n := Tryd.f37.ntmps) (V0 := [(67, .agg (sideC a0)), (66, .int .i64 ((List.length way - 1 - q : Nat) : Int)), (16, .pointer (some ⟨go, 0, none⟩))]) (σ := Nat) (τ := D32) (M := [.blk go (.cells (#[.string (Subtype.val h)]) 9 (0, 0))]) (fun gx => [(16, .pointer (some ⟨go, 0, none⟩)), (18, .pointer (some ⟨gx, 0, none⟩))]) (fun gx => [.blk gx (.cells (sideC a0) 81 (0, 0)), .blk go (.cells (#[.string (Subtype.val h)]) 9 (0, 0))]) (fun _ => True) (LL := (fun h : D32 => [.blk go (.cells (#[.string (Subtype.val h)]) 9 (0, 0))])) (post := fun h' => ∀ q' a', way[List.length way - 1 - q']? = some a' → [Value.int .i64 ((List.length way - 1 - q : Nat) : Int), .agg (sideC a0)] = [.int .i64 ((List.length way - 1 - q' : Nat) : Int), .agg (sideC a')] → h' = stepJ h a') rfl rfl rfl ?_ ?_ ?_ hs2
              · exact ((ha.sub (V' := [(16, .pointer (some ⟨go, 0, none⟩))]) ⟨rfl, trivial⟩).round 66 rfl _).round 67 rfl _
              · refine CX.region ?_
                refine RX.cons rfl rfl (op_alloc rfl rfl rfl zero_81 fun gx => ?_)
                refine RX.cons rfl rfl (op_storeAll (i := 0) rfl rfl rfl rfl szt_81 rfl (plain_of rfl) rfl rfl ?_)
                refine RX.nil (XX.meetP ([]) gx trivial ⟨rfl, rfl, trivial⟩ ((perm_pick 1 rfl).trans (List.Perm.cons _ ((perm_pick 1 rfl).trans (List.Perm.cons _ ((perm_pick 0 rfl).trans (List.Perm.cons _ ((perm_pick 0 rfl).trans (List.Perm.cons _ (List.Perm.refl _))))))))))
              · intro gx _
                refine CX.block ?_
                refine CX.region ?_
                refine RX.cons rfl rfl (op_yld (y_loadA (i := 2) rfl rfl agg_81 rfl rfl) rfl rfl ?_)
                refine RX.cons rfl rfl (op_yld (y_load (i := 3) rfl rfl one_9 rfl rfl) rfl rfl ?_)
                refine RX.cons rfl rfl (op_callV (v := .string (joinS sum a0 (Subtype.val h))) rfl rfl rfl rfl rfl ent_50 (fun w hw => w_joinS a0.1 (Subtype.val h) a0.2 (hG2.keep hw hO0) (by omega) (by omega)) ?_)
                refine RX.cons rfl rfl (op_storeAll (i := 3) rfl rfl rfl rfl szt_9 rfl (plain_of rfl) rfl rfl ?_)
                refine RX.nil (XX.inBlock (V' := []) trivial ?_)
                refine XX.meetP ([.blk gx (.cells (sideC a0) 81 (0, 0))]) (stepJ h a0) (fun q' a' _ he => by rw [side_inj he]) trivial ((perm_pick 0 rfl).trans (List.Perm.cons _ ((perm_pick 0 rfl).trans (List.Perm.cons _ ((perm_pick 1 rfl).trans (List.Perm.cons _ (List.Perm.refl _)))))))
            · exact fun e w' ⟨h, hst, he, hz⟩ => ⟨h, Steps.backAll (f := sideV) (step := fun (h : D32) (a : (ByteArray × Bool)) => stepJ h a) way (fun s q a0 s' h0 hr => hr q a0 h0 (backI_at h0)) hst, ⟨_, he⟩, hz⟩
          · intro h l Dk ob hh
            have hhv : h.1 = way.foldr (fun x out => joinS sum x out) (leafH sum s) := by rw [hh, stepJ_fold]
            refine XX.inBlock (V' := [(0, .string root), (4, .slice A ps.length cap), (16, .pointer (some ⟨go, 0, none⟩))]) ⟨rfl, rfl, rfl, trivial⟩ ?_
            refine XX.next (V' := [(0, .string root), (4, .slice A ps.length cap), (16, .pointer (some ⟨go, 0, none⟩))]) ⟨rfl, rfl, rfl, trivial⟩ ?_
            refine CX.seq ?_
            refine CX.region ?_
            refine RX.cons rfl rfl (op_w (yw_move rfl rfl) rfl rfl ?_)
            refine RX.cons rfl rfl (op_w (yw_lenS rfl Tryd.underlying35 rfl) rfl rfl ?_)
            refine RX.cons rfl rfl (op_w (yw_eql rfl rfl rfl) rfl rfl ?_)
            refine RX.cons rfl rfl (op_w (yw_move rfl rfl) rfl rfl ?_)
            refine RX.splitD (t := 74) (p := ((ps.length : Nat) : Int) = 0) rfl (fun d74 => ?_) (fun d74 => ?_)
            · refine RX.consG rfl rfl rfl rfl rfl (op_yld (y_load (i := 2) rfl rfl one_9 rfl rfl) rfl rfl ?_)
              refine RX.consG rfl rfl rfl rfl rfl (op_w (yw_move rfl rfl) rfl rfl ?_)
              refine RX.consG rfl rfl rfl rfl rfl (op_w (yw_streq rfl rfl rfl) rfl rfl ?_)
              refine RX.cons rfl rfl (op_w (yw_pickT rfl rfl rfl) rfl rfl ?_)
              refine RX.cons rfl rfl (op_w (yw_assign rfl rfl) rfl rfl ?_)
              refine RX.nil (XX.next (V' := [(10, .bool (decide (ByteArray.toList (Subtype.val h) = ByteArray.toList root)))]) ⟨rfl, trivial⟩ ?_)
              refine CX.ret ?_
              exact ret_tmpM (k := 1) rfl rfl rfl fun w1 hw => ⟨by rw [verN_some (v := h.1) hall (by rw [hval, hve, if_pos (by rw [List.eq_nil_of_length_eq_zero (l := ps) (by omega)]; rfl), hhv]; rfl)], hw.sub (List.nil_sublist _)⟩
            · refine RX.skip rfl rfl rfl rfl rfl rfl rfl ?_
              refine RX.skip rfl rfl rfl rfl rfl rfl rfl ?_
              refine RX.skip rfl rfl rfl rfl rfl rfl rfl ?_
              refine RX.cons rfl rfl (op_w (yw_pickF rfl rfl rfl) rfl rfl ?_)
              refine RX.cons rfl rfl (op_w (yw_assign rfl rfl) rfl rfl ?_)
              refine RX.nil (XX.next (V' := [(10, .bool false)]) ⟨rfl, trivial⟩ ?_)
              refine CX.ret ?_
              exact ret_tmpM (k := 1) rfl rfl rfl fun w1 hw => ⟨by rw [verN_none (by rw [hval, hve, if_neg (by intro e; have := congrArg List.length e; simp at this; simp [this] at d74)]; rfl)], hw.sub (List.nil_sublist _)⟩

end Go.Proofs.YtnadipjlhlbfoaaDoor
