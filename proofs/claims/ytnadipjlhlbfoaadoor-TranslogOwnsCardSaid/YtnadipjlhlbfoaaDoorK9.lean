/- Numbers as bytes: the plain side of PutInt. Walks, printed by a program. Walks, printed by a program. Statements and their encodings: the plain side. Walks, printed by a program. Walks, printed by a program. Walks, printed by a program. Walks, printed by a program. Several entries as one. make of a slice; a copy of all of a slice into it. Walks, printed by a program. Walks, printed by a program. -/
import Derived.Test.YtnadipjlhlbfoaaDoorK5
import Derived.Test.YtnadipjlhlbfoaaDoorK8
import Derived.Test.YtnadipjlhlbfoaaDoorK4
import Derived.Laws.OwnMore
import Derived.Laws.CopyRow
namespace Go.Proofs.YtnadipjlhlbfoaaDoor
set_option linter.all false
open Go Go.RowKit
/-- The groups of seven bits, and whether each is the last. -/
def putW : Nat → BitVec 64 → List (BitVec 8 × Bool)
  | 0, _ => []
  | f + 1, z => if z.toNat < 128 then [((z &&& 127#64).setWidth 8, true)] else ((z &&& 127#64).setWidth 8, false) :: putW f (z >>> 7)
theorem putW_last {f : Nat} {z : BitVec 64} (h : z.toNat < 128) : putW (f + 1) z = [((z &&& 127#64).setWidth 8, true)] := if_pos h
theorem putW_more {f : Nat} {z : BitVec 64} (h : ¬ z.toNat < 128) : putW (f + 1) z = ((z &&& 127#64).setWidth 8, false) :: putW f (z >>> 7) := if_neg h
def grpV (x : BitVec 8 × Bool) : List Value := [.int .u8 (wi x.1), .bool x.2]
def grpB (x : BitVec 8 × Bool) : UInt8 := UInt8.ofBitVec (if x.2 then x.1 else x.1 ||| 128#8)
theorem grp_lt {n f : Nat} (h : n < 2 ^ (7 * (f + 1))) : n / 2 ^ 7 < 2 ^ (7 * f) := by
  rw [Nat.div_lt_iff_lt_mul (by decide), ← Nat.pow_add]
  exact h
/-- A number's encoding. -/
def encI (n : Nat) : List UInt8 := (putW 10 (BitVec.ofNat 64 (2 * n))).map grpB
theorem grp_inj {a b : BitVec 8 × Bool} (h : grpV a = grpV b) : a = b := by
  unfold grpV at h
  injection h with h1 h2
  injection h2 with h2 _
  injection h1 with _ h1
  injection h2 with h2
  refine Prod.ext ?_ h2
  apply BitVec.eq_of_toNat_eq
  have : ((a.1.toNat : Nat) : Int) = ((b.1.toNat : Nat) : Int) := h1
  omega
theorem Steps.foldG {σ τ : Type} (π : σ → τ) {Rl : σ → List Value → σ → Prop} {step : τ → (BitVec 8 × Bool) → τ} {s0 : σ} (h : ∀ s x s', Rl s (grpV x) s' → π s' = step (π s) x) : ∀ (n : Nat) (l : List (BitVec 8 × Bool)), l.length = n → ∀ s', Steps Rl s0 (l.map grpV) s' → π s' = l.foldl step (π s0) := by
  intro n
  induction n with
  | zero =>
    intro l hl s' hs
    obtain rfl := List.eq_nil_of_length_eq_zero hl
    generalize hx : List.map grpV [] = X at hs
    cases hs with
    | nil => rfl
    | snoc h1 h2 => simp at hx
  | succ n ih =>
    intro l hl s' hs
    rcases List.eq_nil_or_concat l with rfl | ⟨l', a, rfl⟩
    · simp at hl
    · rw [List.concat_eq_append] at *
      generalize hx : List.map grpV (l' ++ [a]) = X at hs
      cases hs with
      | nil => simp at hx
      | snoc h1 h2 =>
        rw [List.map_append] at hx
        obtain ⟨e1, e2⟩ := List.append_inj' hx (by simp)
        subst e1
        simp only [List.map_cons, List.map_nil, List.cons.injEq, and_true] at e2
        subst e2
        rw [List.foldl_append, ← ih l' (by simp at hl; omega) _ h1]
        exact h _ _ _ h2
theorem foldl_grp (l : List (BitVec 8 × Bool)) (bs : List UInt8) : l.foldl (fun bs x => bs ++ [grpB x]) bs = bs ++ l.map grpB := by
  induction l generalizing bs with
  | nil => simp
  | cons x l ih => rw [List.foldl_cons, ih, List.append_assoc]; rfl
/-- The bytes that the rounds of PutInt gather. -/
theorem Steps.put {σ : Type} (π : σ → List UInt8) {Rl : σ → List Value → σ → Prop} {s0 : σ} (h : ∀ s x s', Rl s (grpV x) s' → π s' = π s ++ [grpB x]) (l : List (BitVec 8 × Bool)) (s' : σ) (hs : Steps Rl s0 (l.map grpV) s') : π s' = π s0 ++ l.map grpB := by
  rw [← foldl_grp]
  exact Steps.foldG π h l.length l rfl s' hs
theorem zig (n : Nat) (hn : n ≤ 4611686018427387903) : (BitVec.ofInt 64 ((n : Nat) : Int) <<< 1) ^^^ BitVec.ofInt 64 (((n : Nat) : Int) / 2 ^ 63) = BitVec.ofNat 64 (2 * n) := by
  have e1 : ((n : Nat) : Int) / 2 ^ 63 = 0 := by omega
  rw [e1]
  have e2 : BitVec.ofInt 64 0 = 0#64 := rfl
  rw [e2, BitVec.xor_zero]
  apply BitVec.eq_of_toNat_eq
  rw [BitVec.toNat_shiftLeft, BitVec.toNat_ofInt, BitVec.toNat_ofNat, Nat.shiftLeft_eq]
  omega
theorem encI_pos (n : Nat) : 0 < (encI n).length := by
  unfold encI
  rw [List.length_map]
  by_cases h : (BitVec.ofNat 64 (2 * n)).toNat < 128
  · rw [putW_last h]; simp
  · rw [putW_more h]; simp
theorem putW_length : ∀ (f : Nat) (z : BitVec 64), (putW f z).length ≤ f
  | 0, _ => Nat.le_refl _
  | f + 1, z => by
    by_cases h : z.toNat < 128
    · rw [putW_last h]; simp
    · rw [putW_more h]; simp [putW_length f]
theorem encI_le (n : Nat) : (encI n).length ≤ 10 := by unfold encI; rw [List.length_map]; exact putW_length 10 _
theorem put_more {x : BitVec 8} {b : Bool} {bs : List UInt8} (h : b = false) : bs ++ [UInt8.ofBitVec (x ||| 128#8)] = bs ++ [grpB (x, b)] := by subst h; rfl
theorem put_last {x : BitVec 8} {b : Bool} {bs : List UInt8} (h : b = true) : bs ++ [UInt8.ofBitVec x] = bs ++ [grpB (x, b)] := by subst h; rfl
end Go.Proofs.YtnadipjlhlbfoaaDoor
namespace Go.Proofs.YtnadipjlhlbfoaaDoor
set_option linter.all false
open Go Go.RowKit
set_option maxRecDepth 100000
theorem one_100 : One Tryd.prog 100 := ⟨_, Tryd.underlying100, rfl⟩
theorem szt_100 : SzT Tryd.prog 100 1 := ⟨(Tryd.prog.info? 100).get!, by kernel_rfl, by kernel_rfl⟩
set_option maxRecDepth 100000 in
theorem w_groups1 {w : World} {l Dk : Nat} {rec : Loop} {σ : Type} {St : σ → List Ent} {Rl : σ → List Value → σ → Prop} {ok : σ → List Value → Prop} {g1 : Nat} (z0 : BitVec 64) (s0 : σ) (hy : YieldS Tryd.prog w ((RB l Dk rec ++ ([Ent.blk g1 (.cells #[.int .u64 (wi z0)] 100 (0, 0))] ++ St s0)).flatMap Ent.blocks) l Dk rec St Rl ok) (hok : ∀ (pre : List (BitVec 8 × Bool)) s x b, Steps Rl s0 (pre.map grpV) s → pre.length < 10 → ok s (grpV (x, b))) (hs : SL w ((RB l Dk rec ++ ([Ent.blk g1 (.cells #[.int .u64 (wi z0)] 100 (0, 0))] ++ St s0)).flatMap Ent.blocks) w (RB l Dk rec ++ ([Ent.blk g1 (.cells #[.int .u64 (wi z0)] 100 (0, 0))] ++ St s0))) :
    Calls Tryd.prog 94 #[.func (.yield l) #[] #[], .pointer (some ⟨g1, 0, none⟩)] w (fun e w' => ∃ y : σ × BitVec 64, Steps Rl s0 ((putW 10 z0).map grpV) y.1 ∧ e = .returned (.tuple #[]) ∧ SL w ((RB l Dk rec ++ ([Ent.blk g1 (.cells #[.int .u64 (wi z0)] 100 (0, 0))] ++ St s0)).flatMap Ent.blocks) w' (RB l Dk rec ++ ([Ent.blk g1 (.cells #[.int .u64 (wi y.2)] 100 (0, 0))] ++ St y.1))) := by
  refine calls_of_CX (O := ((RB l Dk rec ++ ([Ent.blk g1 (.cells #[.int .u64 (wi z0)] 100 (0, 0))] ++ St s0)).flatMap Ent.blocks)) (L := ([.blk l (.loop rec), .blk Dk (.deferred (some [])), .blk g1 (.cells (#[.int .u64 (wi z0)]) 100 (0, 0))] ++ (St s0))) (args := [.func (.yield l) #[] #[], .pointer (some ⟨g1, 0, none⟩)]) Tryd.func94 rfl (by simp [Tryd.ntmps94]) hs ?_
  refine CX.sub (V' := [(0, .func (.yield l) #[] #[]), (1, .pointer (some ⟨g1, 0, none⟩))]) ⟨rfl, rfl, trivial⟩ ?_
  refine CX.block ?_
  refine CX.loop (σ := Nat × BitVec 64 × List (BitVec 8 × Bool) × σ) (fun y => [(0, .func (.yield l) #[] #[]), (1, .pointer (some ⟨g1, 0, none⟩))]) (fun y => ([.blk l (.loop rec), .blk Dk (.deferred (some [])), .blk g1 (.cells (#[.int .u64 (wi y.2.1)]) 100 (0, 0))] ++ (St y.2.2.2))) (fun y => 1 ≤ y.1 ∧ y.2.1.toNat < 2 ^ (7 * y.1) ∧ y.2.2.1.length + y.1 = 10 ∧ y.2.2.1 ++ putW y.1 y.2.1 = putW 10 z0 ∧ Steps Rl s0 (y.2.2.1.map grpV) y.2.2.2) (fun y => y.1) (10, z0, [], s0) ⟨Nat.le_of_ble_eq_true rfl, Nat.lt_trans z0.isLt (show 2 ^ 64 < 2 ^ (7 * 10) by decide), rfl, rfl, .nil s0⟩ ⟨rfl, rfl, trivial⟩ rfl (fun y hI => ?_)
  obtain ⟨f, z, pre, s⟩ := y
  dsimp only at hI ⊢
  obtain ⟨hf, hz, hpl, hp, hst⟩ := hI
  obtain ⟨f, rfl⟩ : ∃ k, f = k + 1 := ⟨f - 1, by omega⟩
  have hwi : wi z = ((z.toNat : Nat) : Int) := rfl
  refine CX.block ?_
  refine CX.seq ?_
  refine CX.region ?_
  refine RX.cons rfl rfl (op_yld (y_load (i := 2) rfl rfl one_100 rfl rfl) rfl rfl ?_)
  refine RX.cons rfl rfl (op_w (yw_lss rfl rfl rfl) rfl rfl ?_)
  refine RX.cons rfl rfl (op_w (yw_assign rfl rfl) rfl rfl ?_)
  refine RX.nil (XX.next (V' := [(0, .func (.yield l) #[] #[]), (1, .pointer (some ⟨g1, 0, none⟩)), (3, .bool (decide (wi z < 128)))]) ⟨rfl, rfl, rfl, trivial⟩ ?_)
  refine CX.seq ?_
  refine CX.seq ?_
  refine CX.region ?_
  refine RX.cons rfl rfl (op_w (yw_move rfl rfl) rfl rfl ?_)
  refine RX.cons rfl rfl (op_yld (y_load (i := 2) rfl rfl one_100 rfl rfl) rfl rfl ?_)
  refine RX.cons rfl rfl (op_w (yw_bvAnd (a := z) (b := 127#64) UK.u64 rfl rfl rfl) rfl rfl ?_)
  refine RX.cons rfl rfl (op_w (yw_bvConv (a := z &&& (127#64)) UK.u8 rfl rfl Tryd.underlying100 Tryd.underlying5) rfl rfl ?_)
  refine RX.cons rfl rfl (op_w (yw_move rfl rfl) rfl rfl ?_)
  refine RX.cons rfl rfl (op_yieldGR s [.blk g1 (.cells (#[.int .u64 (wi z)]) 100 (0, 0))] hy rfl rfl rfl rfl rfl (hok pre s _ _ hst (by omega)) rfl (fun s' hs' => ?_))
  refine RX.cons rfl rfl (op_w (yw_not rfl rfl) rfl rfl ?_)
  refine RX.cons rfl rfl (op_w (yw_move rfl rfl) rfl rfl ?_)
  refine RX.consG rfl rfl rfl rfl rfl (op_w (yw_move rfl rfl) rfl rfl ?_)
  refine RX.cons rfl rfl (op_w (yw_pickF rfl rfl rfl) rfl rfl ?_)
  refine RX.nil (XX.next (V' := [(0, .func (.yield l) #[] #[]), (1, .pointer (some ⟨g1, 0, none⟩)), (15, .bool (decide (wi z < 128)))]) ⟨rfl, rfl, rfl, trivial⟩ ?_)
  refine CX.condD (p := wi z < 128) rfl (fun c15 => ?_) (fun c15 => ?_)
  · refine CX.ret ?_
    refine XX.then_ret ?_
    refine XX.block_ret ?_
    refine XX.then_ret ?_
    refine XX.block_ret ?_
    exact ret_none rfl fun w1 hw => ⟨(s', z), by rw [← hp, putW_last (by omega), List.map_append]; rw [decide_eq_true c15] at hs'; exact .snoc hst hs', rfl, hw⟩
  · refine CX.skip (XX.next (V' := [(0, .func (.yield l) #[] #[]), (1, .pointer (some ⟨g1, 0, none⟩))]) ⟨rfl, rfl, trivial⟩ ?_)
    refine CX.region ?_
    refine RX.cons rfl rfl (op_yld (y_load (i := 2) rfl rfl one_100 rfl rfl) rfl rfl ?_)
    refine RX.cons rfl rfl (op_w (yw_bvShr (a := z) 7 UK.u64 rfl rfl rfl rfl) rfl rfl ?_)
    refine RX.cons rfl rfl (op_storeAll (i := 2) rfl rfl rfl rfl szt_100 rfl (plain_of rfl) rfl rfl ?_)
    refine RX.nil (XX.inBlock (V' := [(0, .func (.yield l) #[] #[]), (1, .pointer (some ⟨g1, 0, none⟩))]) ⟨rfl, rfl, trivial⟩ ?_)
    refine XX.againP ([]) (f, z >>> 7, pre ++ [((z &&& 127#64).setWidth 8, decide (wi z < 128))], s') (by dsimp only; omega) ⟨by dsimp only; exact Nat.one_le_iff_ne_zero.2 (by rintro rfl; simp at hz; omega), by dsimp only; rw [shr_toNat]; exact grp_lt hz, by simp; omega, by dsimp only; rw [← hp, putW_more (by omega), decide_eq_false c15, List.append_assoc]; rfl, by dsimp only; rw [List.map_append]; exact .snoc hst hs'⟩ ⟨rfl, rfl, trivial⟩ (perm_nil _)

end Go.Proofs.YtnadipjlhlbfoaaDoor
namespace Go.Proofs.YtnadipjlhlbfoaaDoor
set_option linter.all false
open Go Go.RowKit
set_option maxRecDepth 100000
theorem zero_60 : Zero Tryd.prog 60 (.slice none 0 0) := ⟨(Tryd.prog.info? 60).get!, by kernel_rfl, by kernel_rfl⟩
theorem ent_80 : ∀ args w, (callFunc 80 args).run Tryd.prog w = .ok (.enter 80 args) w := enters_of Tryd.func80 (by kernel_rfl) rfl
theorem ent_94 : ∀ args w, (callFunc 94 args).run Tryd.prog w = .ok (.enter 94 args) w := enters_of Tryd.func94 (by kernel_rfl) rfl
set_option maxRecDepth 100000 in
theorem w_groups {w : World} (z : BitVec 64) :
    Calls Tryd.prog 80 #[.int .u64 (wi z)] w (fun e w' => ∃ g : Nat, True ∧ e = .returned (.func (.func 94) #[] #[.pointer (some ⟨g, 0, none⟩)]) ∧ SL w [] w' [.blk g (.cells #[.int .u64 (wi z)] 100 (0, 0))]) := by
  refine calls_of_CX (O := []) (L := []) (args := [.int .u64 (wi z)]) Tryd.func80 rfl (by simp [Tryd.ntmps80]) (SL.refl w) ?_
  refine CX.sub (V' := [(0, .int .u64 (wi z))]) ⟨rfl, trivial⟩ ?_
  refine CX.seq ?_
  refine CX.region ?_
  refine RX.cons rfl rfl (op_box rfl rfl rfl rfl fun gm => ?_)
  refine RX.cons rfl rfl (op_w (yw_assign rfl rfl) rfl rfl ?_)
  refine RX.nil (XX.next (V' := [(1, .pointer (some ⟨gm, 0, none⟩))]) ⟨rfl, trivial⟩ ?_)
  refine CX.seq ?_
  refine CX.region ?_
  refine RX.cons rfl rfl (op_w (yw_makeFunc rfl rfl rfl) rfl rfl ?_)
  refine RX.cons rfl rfl (op_w (yw_assign rfl rfl) rfl rfl ?_)
  refine RX.nil (XX.next (V' := [(2, .func (.func 94) #[] #[.pointer (some ⟨gm, 0, none⟩)])]) ⟨rfl, trivial⟩ ?_)
  refine CX.ret ?_
  exact ret_tmp rfl rfl fun w1 hw => ⟨gm, trivial, rfl, hw⟩

set_option maxRecDepth 100000 in
theorem w_putInt {w : World} (n : Nat) (hn : n ≤ 4611686018427387903) :
    Calls Tryd.prog 58 #[.int .i64 ((n : Nat) : Int)] w (fun e w' => e = .returned (.tuple #[.string (⟨(encI n).toArray⟩), .int .i64 0]) ∧ SL w [] w' []) := by
  refine calls_of_CXM (O := []) (L := []) (args := [.int .i64 ((n : Nat) : Int)]) Tryd.func58 rfl (by simp [Tryd.ntmps58]) (SL.refl w) ?_
  refine CX.sub (V' := [(0, .int .i64 ((n : Nat) : Int))]) ⟨rfl, trivial⟩ ?_
  refine CX.seq ?_
  refine CX.region ?_
  refine RX.cons rfl rfl (op_w (yw_assign rfl rfl) rfl rfl ?_)
  refine RX.cons rfl rfl (op_w (yw_assign rfl rfl) rfl rfl ?_)
  refine RX.nil (XX.next (V' := [(0, .int .i64 ((n : Nat) : Int)), (2, .string .empty), (3, .int .i64 0)]) ⟨rfl, rfl, rfl, trivial⟩ ?_)
  refine CX.seq ?_
  refine CX.seq ?_
  refine CX.region ?_
  refine RX.cons rfl rfl (op_w (yw_move rfl rfl) rfl rfl ?_)
  refine RX.cons rfl rfl (op_w (yw_lss rfl rfl rfl) rfl rfl ?_)
  refine RX.cons rfl rfl (op_w (yw_move rfl rfl) rfl rfl ?_)
  refine RX.splitD (t := 9) (p := ((n : Nat) : Int) < (-4611686018427387903)) rfl (fun d9 => ?_) (fun d9 => ?_)
  · exfalso; omega
  · refine RX.consG rfl rfl rfl rfl rfl (op_w (yw_move rfl rfl) rfl rfl ?_)
    refine RX.consG rfl rfl rfl rfl rfl (op_w (yw_gtr rfl rfl rfl) rfl rfl ?_)
    refine RX.cons rfl rfl (op_w (yw_pickF rfl rfl rfl) rfl rfl ?_)
    refine RX.nil (XX.next (V' := [(0, .int .i64 ((n : Nat) : Int)), (2, .string .empty), (3, .int .i64 0), (7, .int .i64 ((n : Nat) : Int)), (8, .bool (decide (((n : Nat) : Int) < (-4611686018427387903)))), (9, .bool false), (10, .int .i64 ((n : Nat) : Int)), (11, .bool (decide (4611686018427387903 < ((n : Nat) : Int)))), (12, .bool (decide (4611686018427387903 < ((n : Nat) : Int))))]) ⟨rfl, rfl, rfl, rfl, rfl, rfl, rfl, rfl, rfl, trivial⟩ ?_)
    refine CX.condD (p := 4611686018427387903 < ((n : Nat) : Int)) rfl (fun c12 => ?_) (fun c12 => ?_)
    · exfalso; omega
    · refine CX.skip (XX.next (V' := [(0, .int .i64 ((n : Nat) : Int)), (2, .string .empty), (3, .int .i64 0), (7, .int .i64 ((n : Nat) : Int)), (8, .bool (decide (((n : Nat) : Int) < (-4611686018427387903)))), (9, .bool false), (10, .int .i64 ((n : Nat) : Int)), (11, .bool (decide (4611686018427387903 < ((n : Nat) : Int)))), (12, .bool (decide (4611686018427387903 < ((n : Nat) : Int))))]) ⟨rfl, rfl, rfl, rfl, rfl, rfl, rfl, rfl, rfl, trivial⟩ ?_)
      refine CX.seq ?_
      refine CX.region ?_
      refine RX.cons rfl rfl (op_alloc rfl rfl rfl zero_60 fun g4 => ?_)
      refine RX.nil (XX.next (V' := [(0, .int .i64 ((n : Nat) : Int)), (2, .string .empty), (3, .int .i64 0), (4, .pointer (some ⟨g4, 0, none⟩)), (7, .int .i64 ((n : Nat) : Int)), (8, .bool (decide (((n : Nat) : Int) < (-4611686018427387903)))), (9, .bool false), (10, .int .i64 ((n : Nat) : Int)), (11, .bool (decide (4611686018427387903 < ((n : Nat) : Int)))), (12, .bool (decide (4611686018427387903 < ((n : Nat) : Int))))]) ⟨rfl, rfl, rfl, rfl, rfl, rfl, rfl, rfl, rfl, rfl, trivial⟩ ?_)
      refine CX.seq ?_
      refine CX.seq ?_
      refine CX.region ?_
      refine RX.cons rfl rfl (op_w (yw_move rfl rfl) rfl rfl ?_)
      refine RX.cons rfl rfl (op_w (yw_bvOf UK.u64 rfl rfl Tryd.underlying3 Tryd.underlying100) rfl rfl ?_)
      refine RX.cons rfl rfl (op_w (yw_bvShl (a := BitVec.ofInt 64 ((n : Nat) : Int)) 1 UK.u64 rfl rfl rfl rfl) rfl rfl ?_)
      refine RX.cons rfl rfl (op_w (yw_move rfl rfl) rfl rfl ?_)
      refine RX.cons rfl rfl (op_w (yw_shr_i 63 rfl rfl rfl rfl (by omega)) rfl rfl ?_)
      refine RX.cons rfl rfl (op_w (yw_bvOf UK.u64 rfl rfl Tryd.underlying3 Tryd.underlying100) rfl rfl ?_)
      refine RX.cons rfl rfl (op_w (yw_bvXor (a := (BitVec.ofInt 64 ((n : Nat) : Int)) <<< 1) (b := BitVec.ofInt 64 (((n : Nat) : Int) / 2 ^ 63)) UK.u64 rfl rfl rfl) rfl rfl ?_)
      refine RX.cons rfl rfl (op_callE rfl rfl rfl rfl rfl ent_80 (fun w _ => w_groups (((BitVec.ofInt 64 ((n : Nat) : Int)) <<< 1) ^^^ (BitVec.ofInt 64 (((n : Nat) : Int) / 2 ^ 63)))) (fun zgr _ => ?_))
      refine RX.nil (XX.next (V' := [(0, .int .i64 ((n : Nat) : Int)), (2, .string .empty), (3, .int .i64 0), (4, .pointer (some ⟨g4, 0, none⟩)), (7, .int .i64 ((n : Nat) : Int)), (8, .bool (decide (((n : Nat) : Int) < (-4611686018427387903)))), (9, .bool false), (10, .int .i64 ((n : Nat) : Int)), (11, .bool (decide (4611686018427387903 < ((n : Nat) : Int)))), (12, .bool (decide (4611686018427387903 < ((n : Nat) : Int)))), (13, .int .i64 ((n : Nat) : Int)), (14, .int .u64 (wi (BitVec.ofInt 64 ((n : Nat) : Int)))), (15, .int .u64 (wi ((BitVec.ofInt 64 ((n : Nat) : Int)) <<< 1))), (16, .int .i64 ((n : Nat) : Int)), (17, .int .i64 (((n : Nat) : Int) / 2 ^ 63)), (18, .int .u64 (wi (BitVec.ofInt 64 (((n : Nat) : Int) / 2 ^ 63)))), (19, .int .u64 (wi (((BitVec.ofInt 64 ((n : Nat) : Int)) <<< 1) ^^^ (BitVec.ofInt 64 (((n : Nat) : Int) / 2 ^ 63))))), (20, .func (.func 94) #[] #[.pointer (some ⟨zgr, 0, none⟩)])]) ⟨rfl, rfl, rfl, rfl, rfl, rfl, rfl, rfl, rfl, rfl, rfl, rfl, rfl, rfl, rfl, rfl, rfl, rfl, trivial⟩ ?_)
      refine CX.block ?_
      refine CX.rowNil 5 1 ?_
      refine CX.rangeFunc (σ := (Option Addr × Nat × List UInt8) × BitVec 64) (LL := fun h => [.blk zgr (.cells (#[.int .u64 (wi (h.2 : BitVec 64))]) 100 (0, 0)), .blk g4 (.cells (#[.slice h.1.1 (List.length (h.1.2.2 : List UInt8)) h.1.2.1]) 60 (0, 0)), .row h.1.1 h.1.2.1 5 1 (List.map u8c h.1.2.2)]) (post := fun h => h.1.2.2 = (putW 10 (((BitVec.ofInt 64 ((n : Nat) : Int)) <<< 1) ^^^ (BitVec.ofInt 64 (((n : Nat) : Int) / 2 ^ 63)))).map grpB) [.blk zgr (.cells (#[.int .u64 (wi (((BitVec.ofInt 64 ((n : Nat) : Int)) <<< 1) ^^^ (BitVec.ofInt 64 (((n : Nat) : Int) / 2 ^ 63))))]) 100 (0, 0)), .blk g4 (.cells (#[.slice none 0 0]) 60 (0, 0)), .row none 0 5 1 (List.map u8c ([]))] [] ((perm_pick 1 rfl).trans (List.Perm.cons _ ((perm_pick 1 rfl).trans (List.Perm.cons _ ((perm_pick 0 rfl).trans (List.Perm.cons _ (List.Perm.refl _))))))) rfl ent_94 ?_ ?_
      · intro l Dk fn a w1 ha hw hs
        have hRl : ∀ (s : Option Addr × Nat × List UInt8) (y : BitVec 8 × Bool) (s' : Option Addr × Nat × List UInt8), (fun (s : Option Addr × Nat × List UInt8) (x : List Value) (s' : Option Addr × Nat × List UInt8) => ∀ y, x = grpV y → s'.2.2 = s.2.2 ++ [grpB y]) s (grpV y) s' → s'.2.2 = s.2.2 ++ [grpB y] := fun s y s' h => h y rfl
        refine (w_groups1 (l := l) (Dk := Dk) (St := (fun s : Option Addr × Nat × List UInt8 => [.blk g4 (.cells (#[.slice s.1 (List.length (s.2.2 : List UInt8)) s.2.1]) 60 (0, 0)), .row s.1 s.2.1 5 1 (List.map u8c s.2.2)])) (Rl := (fun (s : Option Addr × Nat × List UInt8) (x : List Value) (s' : Option Addr × Nat × List UInt8) => ∀ y, x = grpV y → s'.2.2 = s.2.2 ++ [grpB y])) (ok := (fun (s : Option Addr × Nat × List UInt8) x => s.2.2.length ≤ 9 ∧ ∃ y, x = grpV y)) (g1 := zgr) (((BitVec.ofInt 64 ((n : Nat) : Int)) <<< 1) ^^^ (BitVec.ofInt 64 (((n : Nat) : Int) / 2 ^ 63))) ((none, 0, []) : Option Addr × Nat × List UInt8) ?_ (fun pre s x b hst hl => ⟨by have := Steps.put (fun s : Option Addr × Nat × List UInt8 => s.2.2) hRl pre s hst; rw [this]; simp; omega, (x, b), rfl⟩) hs).mono ?_
        · rintro ⟨A2, c2, bs⟩ x w2 ⟨hb9, ⟨x8, b0⟩, rfl⟩ hag hs2
          dsimp only at hb9
          refine round_of_CX2 (n := Tryd.f58.ntmps) (V0 := [(22, .bool b0), (21, .int .u8 (wi x8)), (4, .pointer (some ⟨g4, 0, none⟩))]) (σ := Unit) (τ := Option Addr × Nat × List UInt8) (M := [.blk g4 (.cells (#[.slice A2 (List.length (bs : List UInt8)) c2]) 60 (0, 0)), .row A2 c2 5 1 (List.map u8c bs)]) (fun _ => [(4, .pointer (some ⟨g4, 0, none⟩)), (5, .int .u8 (wi x8)), (6, .bool b0)]) (fun _ => [.blk g4 (.cells (#[.slice A2 (List.length (bs : List UInt8)) c2]) 60 (0, 0)), .row A2 c2 5 1 (List.map u8c bs)]) (fun _ => True) (LL := (fun s : Option Addr × Nat × List UInt8 => [.blk g4 (.cells (#[.slice s.1 (List.length (s.2.2 : List UInt8)) s.2.1]) 60 (0, 0)), .row s.1 s.2.1 5 1 (List.map u8c s.2.2)])) (post := fun s' => ∀ y, grpV (x8, b0) = grpV y → s'.2.2 = bs ++ [grpB y]) rfl rfl rfl ?_ ?_ ?_ hs2
          · exact ((ha.sub (V' := [(4, .pointer (some ⟨g4, 0, none⟩))]) ⟨rfl, trivial⟩).round 21 rfl _).round 22 rfl _
          · refine CX.seq ?_
            refine CX.region ?_
            refine RX.cons rfl rfl (op_w (yw_assign rfl rfl) rfl rfl ?_)
            refine RX.nil (XX.next (V' := [(4, .pointer (some ⟨g4, 0, none⟩)), (5, .int .u8 (wi x8)), (22, .bool b0)]) ⟨rfl, rfl, rfl, trivial⟩ ?_)
            refine CX.region ?_
            refine RX.cons rfl rfl (op_w (yw_assign rfl rfl) rfl rfl ?_)
            refine RX.nil (XX.meetP ([]) () trivial ⟨rfl, rfl, rfl, trivial⟩ ((perm_pick 0 rfl).trans (List.Perm.cons _ ((perm_pick 0 rfl).trans (List.Perm.cons _ ((perm_pick 0 rfl).trans (List.Perm.cons _ ((perm_pick 0 rfl).trans (List.Perm.cons _ (List.Perm.refl _))))))))))
          · intro _ _
            refine CX.block ?_
            refine CX.seq ?_
            refine CX.seq ?_
            refine CX.region ?_
            refine RX.cons rfl rfl (op_w (yw_move rfl rfl) rfl rfl ?_)
            refine RX.cons rfl rfl (op_w (yw_not rfl rfl) rfl rfl ?_)
            refine RX.nil (XX.next (V' := [(4, .pointer (some ⟨g4, 0, none⟩)), (5, .int .u8 (wi x8)), (24, .bool (!b0))]) ⟨rfl, rfl, rfl, trivial⟩ ?_)
            refine CX.cond (b := !b0) rfl (fun c24 => ?_) (fun c24 => ?_)
            · refine CX.region ?_
              refine RX.cons rfl rfl (op_w (yw_move rfl rfl) rfl rfl ?_)
              refine RX.cons rfl rfl (op_w (yw_bvOr (a := x8) (b := 128#8) UK.u8 rfl rfl rfl) rfl rfl ?_)
              refine RX.cons rfl rfl (op_w (yw_assign rfl rfl) rfl rfl ?_)
              refine RX.nil (XX.next (V' := [(4, .pointer (some ⟨g4, 0, none⟩)), (5, .int .u8 (wi (x8 ||| (128#8))))]) ⟨rfl, rfl, trivial⟩ ?_)
              refine CX.region ?_
              refine RX.cons rfl rfl (op_yld (y_load (i := 2) rfl rfl one_60 rfl rfl) rfl rfl ?_)
              refine RX.cons rfl rfl (op_w (yw_move rfl rfl) rfl rfl ?_)
              refine RX.cons rfl rfl (op_buildSlice rfl rfl rfl slb_60 rfl rfl (by intro v hv; simp only [List.mem_cons, List.not_mem_nil, or_false] at hv; subst hv; exact ⟨rfl, (plain_of rfl)⟩) (by decide) fun g9 => ?_)
              refine RX.cons rfl rfl (op_appendM u8c (i := 4) (j := 0) (xs := bs) ([UInt8.ofBitVec (x8 ||| (128#8))]) rfl rfl rfl slb_60 rfl rfl rfl rfl rfl rfl (by simp only [List.length_singleton]; omega) (by simp only [List.length_singleton]; omega) fun A3 c3 => ?_)
              refine RX.cons rfl rfl (op_storeAll (i := 3) rfl rfl rfl rfl szt_60 rfl (plain_of rfl) rfl rfl ?_)
              refine RX.nil (XX.inBlock (V' := []) trivial ?_)
              refine XX.meetP ([.row (some ⟨g9, 0, none⟩) 1 5 1 (List.map u8c ([UInt8.ofBitVec (x8 ||| (128#8))]))]) ((A3, c3, bs ++ [UInt8.ofBitVec (x8 ||| 128#8)]) : Option Addr × Nat × List UInt8) (fun y he => by rw [← grp_inj he]; exact put_more (by simpa using c24)) trivial ((perm_pick 1 rfl).trans (List.Perm.cons _ ((perm_pick 1 rfl).trans (List.Perm.cons _ ((perm_pick 1 rfl).trans (List.Perm.cons _ ((perm_pick 1 rfl).trans (List.Perm.cons _ (List.Perm.refl _)))))))))
            · refine CX.skip (XX.next (V' := [(4, .pointer (some ⟨g4, 0, none⟩)), (5, .int .u8 (wi x8))]) ⟨rfl, rfl, trivial⟩ ?_)
              refine CX.region ?_
              refine RX.cons rfl rfl (op_yld (y_load (i := 2) rfl rfl one_60 rfl rfl) rfl rfl ?_)
              refine RX.cons rfl rfl (op_w (yw_move rfl rfl) rfl rfl ?_)
              refine RX.cons rfl rfl (op_buildSlice rfl rfl rfl slb_60 rfl rfl (by intro v hv; simp only [List.mem_cons, List.not_mem_nil, or_false] at hv; subst hv; exact ⟨rfl, (plain_of rfl)⟩) (by decide) fun g9 => ?_)
              refine RX.cons rfl rfl (op_appendM u8c (i := 4) (j := 0) (xs := bs) ([UInt8.ofBitVec (x8)]) rfl rfl rfl slb_60 rfl rfl rfl rfl rfl rfl (by simp only [List.length_singleton]; omega) (by simp only [List.length_singleton]; omega) fun A3 c3 => ?_)
              refine RX.cons rfl rfl (op_storeAll (i := 3) rfl rfl rfl rfl szt_60 rfl (plain_of rfl) rfl rfl ?_)
              refine RX.nil (XX.inBlock (V' := []) trivial ?_)
              refine XX.meetP ([.row (some ⟨g9, 0, none⟩) 1 5 1 (List.map u8c ([UInt8.ofBitVec (x8)]))]) ((A3, c3, bs ++ [UInt8.ofBitVec (x8)]) : Option Addr × Nat × List UInt8) (fun y he => by rw [← grp_inj he]; exact put_last (by simpa using c24)) trivial ((perm_pick 1 rfl).trans (List.Perm.cons _ ((perm_pick 1 rfl).trans (List.Perm.cons _ ((perm_pick 1 rfl).trans (List.Perm.cons _ ((perm_pick 1 rfl).trans (List.Perm.cons _ (List.Perm.refl _)))))))))
        · exact fun e w' ⟨y, hst, he, hz⟩ => ⟨y, (Steps.put (fun s : Option Addr × Nat × List UInt8 => s.2.2) hRl _ y.1 hst).trans (List.nil_append _), ⟨_, he⟩, hz⟩
      · intro h l Dk ob hh
        obtain ⟨⟨A5, c5, bs⟩, z5⟩ := h
        dsimp only at hh ⊢
        rw [zig n hn] at hh
        refine XX.inBlock (V' := [(4, .pointer (some ⟨g4, 0, none⟩))]) ⟨rfl, trivial⟩ ?_
        refine XX.next (V' := [(4, .pointer (some ⟨g4, 0, none⟩))]) ⟨rfl, trivial⟩ ?_
        refine CX.seq ?_
        refine CX.region ?_
        refine RX.cons rfl rfl (op_yld (y_load (i := 3) rfl rfl one_60 rfl rfl) rfl rfl ?_)
        refine RX.cons rfl rfl (op_yld (y_bytesRow (i := 4) (l := bs) rfl rfl Tryd.underlying60 Tryd.underlying5 Tryd.underlying9 rfl (by rw [hh]; exact encI_pos n)) rfl rfl ?_)
        refine RX.cons rfl rfl (op_w (yw_assign rfl rfl) rfl rfl ?_)
        refine RX.cons rfl rfl (op_w (yw_assign rfl rfl) rfl rfl ?_)
        refine RX.nil (XX.next (V' := [(2, .string (⟨List.toArray bs⟩)), (3, .int .i64 0)]) ⟨rfl, rfl, trivial⟩ ?_)
        refine CX.ret ?_
        exact ret_tmp2M (k := 1) rfl rfl rfl rfl fun w1 hw => ⟨by rw [hh]; rfl, hw.sub (List.nil_sublist _)⟩

end Go.Proofs.YtnadipjlhlbfoaaDoor
namespace Go.Proofs.YtnadipjlhlbfoaaDoor
set_option linter.all false
open Go Go.RowKit
abbrev iC (n : Int) : Array Value := #[.int .i64 n]
/-- An amount. -/
def okM (n : Int) : Bool := decide (0 ≤ n ∧ n ≤ 1000000000000000)
theorem okM_iff {n : Int} : okM n = true ↔ 0 ≤ n ∧ n ≤ 1000000000000000 := decide_eq_true_iff
theorem okM_neg {n : Int} (h : n < 0) : (!okM n) = true := by simp [okM]; omega
theorem okM_big {n : Int} (h : ¬ n < 0) : decide (1000000000000000 < n) = !okM n := by
  unfold okM
  rw [← decide_not]
  exact decide_eq_decide.2 (by omega)
/-- The place of the first one that is none, or -1. -/
def oddG {α : Type} (p : α → Bool) (xs : List α) : Int := if xs.all p then -1 else ((xs.findIdx fun x => !p x : Nat) : Int)
theorem oddG_none {α : Type} {p : α → Bool} {xs : List α} (h : ∀ x ∈ xs, p x = true) : oddG p xs = -1 := if_pos (List.all_eq_true.2 h)
theorem oddG_at {α : Type} {p : α → Bool} {xs : List α} {i : Nat} {s : α} (hs : xs[i]? = some s) (hn : p s = false) (h : ∀ x ∈ xs.take i, p x = true) : oddG p xs = ((i : Nat) : Int) := by
  have hm := List.mem_of_getElem? hs
  have hi := (List.getElem?_eq_some_iff.1 hs).1
  rw [oddG, if_neg (fun hall => by rw [List.all_eq_true.1 hall s hm] at hn; cases hn)]
  congr 1
  rw [List.findIdx_eq hi]
  refine ⟨by rw [List.getElem?_eq_getElem hi, Option.some.injEq] at hs; rw [hs, hn]; rfl, fun j hj => ?_⟩
  have : xs[j]'(by omega) ∈ xs.take i := by
    rw [List.mem_take_iff_getElem]
    exact ⟨j, by omega, rfl⟩
  rw [h _ this]; rfl
theorem oddG_dec {α : Type} (p : α → Bool) (xs : List α) : (!decide (0 ≤ oddG p xs)) = xs.all p := by
  unfold oddG
  split <;> rename_i h
  · rw [h]; rfl
  · have : xs.all p = false := by simpa using h
    rw [this, decide_eq_true (by omega)]; rfl
theorem all_snocG {α : Type} {p : α → Bool} {xs : List α} {i : Nat} {s : α} (hs : xs[i]? = some s) (hn : p s = true) (h : ∀ x ∈ xs.take i, p x = true) : ∀ x ∈ xs.take (i + 1), p x = true := by
  rw [take_succ hs]
  intro x hx
  rcases List.mem_append.1 hx with hx | hx
  · exact h x hx
  · simp at hx; rw [hx]; exact hn

/-! ### Statements -/
structure Ln where
  p : Int
  b : Int
  a : Int
deriving DecidableEq
structure Stm where
  h : Int
  c : Int
  ls : List Ln
deriving DecidableEq
abbrev lnC (x : Ln) : Array Value := #[.int .i64 x.p, .int .i64 x.b, .int .i64 x.a]
/-- One line behind a period. -/
def okL (last : Int) (x : Ln) : Bool := decide (last < x.p) && decide (x.p < 1200) && okM x.b && okM x.a && decide (x.b ≠ x.a)
def okLs : Int → List Ln → Bool
  | _, [] => true
  | last, x :: r => okL last x && okLs x.p r
/-- A valid statement. -/
def okS (s : Stm) : Bool := okLs (-1) s.ls && decide (1 ≤ s.h) && decide (s.h ≤ 1000000) && decide (0 ≤ s.c) && decide (s.c < 1200) && decide (1 ≤ s.ls.length)
def numsL (ls : List Ln) : List Int := ls.flatMap fun x => [x.p, x.b, x.a]
def putL (ns : List Int) : List UInt8 := ns.flatMap fun n => encI n.toNat
/-- A statement's encoding. -/
def encL (s : Stm) : List UInt8 := putL [s.h, s.c, (s.ls.length : Int)] ++ putL (numsL s.ls)
def encS (s : Stm) : ByteArray := ⟨(encL s).toArray⟩
theorem putL_append (a b : List Int) : putL (a ++ b) = putL a ++ putL b := by simp [putL]
theorem putL_snoc (a : List Int) (n : Int) : putL (a ++ [n]) = putL a ++ encI n.toNat := by simp [putL]
theorem putL_le (a : List Int) : (putL a).length ≤ 10 * a.length := by
  induction a with
  | nil => simp [putL]
  | cons x a ih =>
    have := encI_le x.toNat
    simp only [putL, List.flatMap_cons, List.length_append, List.length_cons] at ih ⊢
    omega
theorem okLs_cons {last : Int} {x : Ln} {r : List Ln} : okLs last (x :: r) = (okL last x && okLs x.p r) := rfl
theorem okL_all {ls : List Ln} : ∀ {last : Int}, okLs last ls = true → ∀ x ∈ ls, last < x.p ∧ x.p < 1200 ∧ (0 ≤ x.b ∧ x.b ≤ 1000000000000000) ∧ (0 ≤ x.a ∧ x.a ≤ 1000000000000000) ∧ x.b ≠ x.a := by
  induction ls with
  | nil => intro _ _ x hx; simp at hx
  | cons y r ih =>
    intro last h x hx
    rw [okLs_cons, Bool.and_eq_true] at h
    have hy : last < y.p ∧ y.p < 1200 ∧ (0 ≤ y.b ∧ y.b ≤ 1000000000000000) ∧ (0 ≤ y.a ∧ y.a ≤ 1000000000000000) ∧ y.b ≠ y.a := by
      have := h.1
      simp only [okL, Bool.and_eq_true, decide_eq_true_iff, okM_iff] at this
      obtain ⟨⟨⟨⟨h1, h2⟩, h3⟩, h4⟩, h5⟩ := this
      exact ⟨h1, h2, h3, h4, h5⟩
    rcases List.mem_cons.1 hx with rfl | hx
    · exact hy
    · obtain ⟨h1, h2⟩ := ih h.2 x hx
      exact ⟨by omega, h2⟩
theorem okS_parts {s : Stm} (h : okS s = true) : okLs (-1) s.ls = true ∧ 1 ≤ s.h ∧ s.h ≤ 1000000 ∧ 0 ≤ s.c ∧ s.c < 1200 ∧ 1 ≤ s.ls.length := by
  simp only [okS, Bool.and_eq_true, decide_eq_true_iff] at h
  obtain ⟨⟨⟨⟨⟨h1, h2⟩, h3⟩, h4⟩, h5⟩, h6⟩ := h
  exact ⟨h1, h2, h3, h4, h5, h6⟩
theorem drop_cons {α : Type} {l : List α} {i : Nat} {x : α} (h : l[i]? = some x) : l.drop i = x :: l.drop (i + 1) := by
  have hi := (List.getElem?_eq_some_iff.1 h).1
  rw [List.drop_eq_getElem_cons hi]
  rw [List.getElem?_eq_getElem hi, Option.some.injEq] at h
  rw [h]
theorem okL_false {last : Int} {x : Ln} (h : x.p ≤ last ∨ 1200 ≤ x.p ∨ [x.b, x.a].all okM = false ∨ x.b = x.a) : okL last x = false := by
  have h2 : [x.b, x.a].all okM = (okM x.b && okM x.a) := by simp
  rw [h2] at h
  unfold okL
  rcases h with h | h | h | h
  · rw [decide_eq_false (by omega)]; rfl
  · rw [decide_eq_false (p := x.p < 1200) (by omega)]; simp
  · rw [Bool.and_assoc (decide (last < x.p) && _), h]; simp
  · rw [decide_eq_false (p := x.b ≠ x.a) (by simpa using h)]; simp
theorem okL_true {last : Int} {x : Ln} (h1 : ¬ x.p ≤ last) (h2 : ¬ 1200 ≤ x.p) (h3 : ¬ (!([x.b, x.a].all okM)) = true) (h4 : ¬ x.b = x.a) : okL last x = true := by
  have h5 : (okM x.b && okM x.a) = true := by simpa using h3
  rw [Bool.and_eq_true] at h5
  simp only [okL, Bool.and_eq_true, decide_eq_true_iff]
  exact ⟨⟨⟨⟨by omega, by omega⟩, h5.1⟩, h5.2⟩, h4⟩
theorem okS_bad {s : Stm} (h : okLs (-1) s.ls = false) : okS s = false := by simp [okS, h]
theorem okS_end {s : Stm} (h : okLs (-1) s.ls = true) : okS s = (decide (1 ≤ s.h) && decide (s.h ≤ 1000000) && decide (0 ≤ s.c) && decide (s.c < 1200) && decide (1 ≤ ((s.ls.length : Nat) : Int))) := by
  have e : decide (1 ≤ ((s.ls.length : Nat) : Int)) = decide (1 ≤ s.ls.length) := decide_eq_decide.2 (by omega)
  rw [e, okS, h, Bool.true_and]
theorem numsL_succ {ls : List Ln} {i : Nat} {x : Ln} (h : ls[i]? = some x) : numsL (ls.take (i + 1)) = numsL (ls.take i) ++ [x.p, x.b, x.a] := by
  rw [take_succ h]; simp [numsL]
theorem numsL_length (ls : List Ln) : (numsL ls).length = 3 * ls.length := by
  induction ls with
  | nil => rfl
  | cons x l ih => simp only [numsL, List.flatMap_cons, List.length_append, List.length_cons, List.length_nil] at ih ⊢; omega
theorem not_tt {b : Bool} (h : (!b) = true) : b = false := by cases b; rfl; cases h
end Go.Proofs.YtnadipjlhlbfoaaDoor
namespace Go.Proofs.YtnadipjlhlbfoaaDoor
set_option linter.all false
open Go Go.RowKit
set_option maxRecDepth 100000
theorem ent_93 : ∀ args w, (callFunc 93 args).run Tryd.prog w = .ok (.enter 93 args) w := enters_of Tryd.func93 (by kernel_rfl) rfl
theorem ent_98 : ∀ args w, (callFunc 98 args).run Tryd.prog w = .ok (.enter 98 args) w := enters_of Tryd.func98 (by kernel_rfl) rfl
theorem ent_92 : ∀ args w, (callFunc 92 args).run Tryd.prog w = .ok (.enter 92 args) w := enters_of Tryd.func92 (by kernel_rfl) rfl
set_option maxRecDepth 100000 in
theorem w_money1 {w : World} (n : Int) :
    Calls Tryd.prog 93 #[.int .i64 n] w (fun e w' => e = .returned (.bool (!okM n)) ∧ SL w [] w' []) := by
  refine calls_of_CX (O := []) (L := []) (args := [.int .i64 n]) Tryd.func93 rfl (by simp [Tryd.ntmps93]) (SL.refl w) ?_
  refine CX.sub (V' := [(0, .int .i64 n)]) ⟨rfl, trivial⟩ ?_
  refine CX.seq ?_
  refine CX.region ?_
  refine RX.cons rfl rfl (op_w (yw_assign rfl rfl) rfl rfl ?_)
  refine RX.nil (XX.next (V' := [(0, .int .i64 n)]) ⟨rfl, trivial⟩ ?_)
  refine CX.seq ?_
  refine CX.region ?_
  refine RX.cons rfl rfl (op_w (yw_move rfl rfl) rfl rfl ?_)
  refine RX.cons rfl rfl (op_w (yw_lss rfl rfl rfl) rfl rfl ?_)
  refine RX.cons rfl rfl (op_w (yw_move rfl rfl) rfl rfl ?_)
  refine RX.splitD (t := 5) (p := n < 0) rfl (fun d5 => ?_) (fun d5 => ?_)
  · refine RX.skip rfl rfl rfl rfl rfl rfl rfl ?_
    refine RX.skip rfl rfl rfl rfl rfl rfl rfl ?_
    refine RX.cons rfl rfl (op_w (yw_pickT rfl rfl rfl) rfl rfl ?_)
    refine RX.cons rfl rfl (op_w (yw_assign rfl rfl) rfl rfl ?_)
    refine RX.nil (XX.next (V' := [(2, .bool true)]) ⟨rfl, trivial⟩ ?_)
    refine CX.ret ?_
    exact ret_tmp rfl rfl fun w1 hw => ⟨by rw [okM_neg d5], hw.sub (List.nil_sublist _)⟩
  · refine RX.consG rfl rfl rfl rfl rfl (op_w (yw_move rfl rfl) rfl rfl ?_)
    refine RX.consG rfl rfl rfl rfl rfl (op_w (yw_gtr rfl rfl rfl) rfl rfl ?_)
    refine RX.cons rfl rfl (op_w (yw_pickF rfl rfl rfl) rfl rfl ?_)
    refine RX.cons rfl rfl (op_w (yw_assign rfl rfl) rfl rfl ?_)
    refine RX.nil (XX.next (V' := [(2, .bool (decide (1000000000000000 < n)))]) ⟨rfl, trivial⟩ ?_)
    refine CX.ret ?_
    exact ret_tmp rfl rfl fun w1 hw => ⟨by rw [← okM_big d5], hw.sub (List.nil_sublist _)⟩

set_option maxRecDepth 100000 in
theorem w_indexM {w : World} {A : Option Addr} {cap : Nat} (xs : List Int) (hr : Rd w A 1 (xs.map iC)) (hl : xs.length ≤ 281474976710656) :
    Calls Tryd.prog 98 #[.slice A xs.length cap, .func (.func 93) #[] #[]] w (fun e w' => e = .returned (.int .i64 (oddG okM xs)) ∧ SL w [] w' []) := by
  refine calls_of_CX (O := []) (L := []) (args := [.slice A xs.length cap, .func (.func 93) #[] #[]]) Tryd.func98 rfl (by simp [Tryd.ntmps98]) (SL.refl w) ?_
  refine CX.sub (V' := [(0, .slice A xs.length cap), (1, .func (.func 93) #[] #[])]) ⟨rfl, rfl, trivial⟩ ?_
  refine CX.seq ?_
  refine CX.region ?_
  refine RX.cons rfl rfl (op_w (yw_assign rfl rfl) rfl rfl ?_)
  refine RX.nil (XX.next (V' := [(0, .slice A xs.length cap), (1, .func (.func 93) #[] #[])]) ⟨rfl, rfl, trivial⟩ ?_)
  refine CX.seq ?_
  refine CX.seq ?_
  refine CX.region ?_
  refine RX.cons rfl rfl (op_w (yw_move rfl rfl) rfl rfl ?_)
  refine RX.cons rfl rfl (op_w (yw_lenS rfl Tryd.underlying71 rfl) rfl rfl ?_)
  refine RX.cons rfl rfl (op_w (yw_move rfl rfl) rfl rfl ?_)
  refine RX.nil (XX.next (V' := [(0, .slice A xs.length cap), (1, .func (.func 93) #[] #[]), (7, .int .i64 ((xs.length : Nat) : Int)), (8, .int .i64 0)]) ⟨rfl, rfl, rfl, rfl, trivial⟩ ?_)
  refine CX.block ?_
  refine CX.loop (σ := Nat) (fun i => [(0, .slice A xs.length cap), (1, .func (.func 93) #[] #[]), (7, .int .i64 ((xs.length : Nat) : Int)), (8, .int .i64 ((i : Nat) : Int))]) (fun i => []) (fun i => i ≤ xs.length ∧ ∀ x ∈ xs.take i, okM x = true) (fun i => xs.length - i) 0 ⟨Nat.zero_le _, by simp⟩ ⟨rfl, rfl, rfl, rfl, trivial⟩ rfl (fun i hI => ?_)
  obtain ⟨hi, hall⟩ := hI
  refine CX.seq ?_
  refine CX.region ?_
  refine RX.cons rfl rfl (op_w (yw_lss rfl rfl rfl) rfl rfl ?_)
  refine RX.nil (XX.next (V' := [(0, .slice A xs.length cap), (1, .func (.func 93) #[] #[]), (7, .int .i64 ((xs.length : Nat) : Int)), (8, .int .i64 ((i : Nat) : Int)), (9, .bool (decide (((i : Nat) : Int) < ((xs.length : Nat) : Int))))]) ⟨rfl, rfl, rfl, rfl, rfl, trivial⟩ ?_)
  refine CX.seq ?_
  refine CX.condD (p := ((i : Nat) : Int) < ((xs.length : Nat) : Int)) rfl (fun c9 => ?_) (fun c9 => ?_)
  · obtain ⟨s0, hs0⟩ := get_some (l := xs) (k := i) (by omega)
    have hA : ∃ b j, A = some ⟨b, j, none⟩ := hr.some (k := 0) (by simp; omega)
    refine CX.skip (XX.next (V' := [(0, .slice A xs.length cap), (1, .func (.func 93) #[] #[]), (7, .int .i64 ((xs.length : Nat) : Int)), (8, .int .i64 ((i : Nat) : Int))]) ⟨rfl, rfl, rfl, rfl, trivial⟩ ?_)
    refine CX.seq ?_
    refine CX.block ?_
    refine CX.seq ?_
    refine CX.region ?_
    refine RX.cons rfl rfl (op_w (yw_move rfl rfl) rfl rfl ?_)
    refine RX.cons rfl rfl (op_w (yw_assign rfl rfl) rfl rfl ?_)
    refine RX.nil (XX.next (V' := [(0, .slice A xs.length cap), (1, .func (.func 93) #[] #[]), (5, .int .i64 ((i : Nat) : Int)), (7, .int .i64 ((xs.length : Nat) : Int)), (8, .int .i64 ((i : Nat) : Int))]) ⟨rfl, rfl, rfl, rfl, rfl, trivial⟩ ?_)
    refine CX.seq ?_
    refine CX.region ?_
    refine RX.cons rfl rfl (op_w (yw_move rfl rfl) rfl rfl ?_)
    refine RX.cons rfl rfl (op_w (yw_move rfl rfl) rfl rfl ?_)
    refine RX.cons rfl rfl (op_w (yw_move rfl rfl) rfl rfl ?_)
    refine RX.cons rfl rfl (op_w (yw_index (k := i) rfl slt_71 rfl rfl (by omega) (by omega) hA) rfl rfl ?_)
    refine RX.cons rfl rfl (op_yld (y_elem1 rfl rfl one_3 hr (by simp) (map_get hs0)) rfl rfl ?_)
    refine RX.cons rfl rfl (op_callV (v := .bool (!okM s0)) rfl rfl rfl rfl rfl ent_93 (fun w hw => w_money1 s0) ?_)
    refine RX.nil (XX.next (V' := [(0, .slice A xs.length cap), (1, .func (.func 93) #[] #[]), (5, .int .i64 ((i : Nat) : Int)), (7, .int .i64 ((xs.length : Nat) : Int)), (8, .int .i64 ((i : Nat) : Int)), (16, .bool (!okM s0))]) ⟨rfl, rfl, rfl, rfl, rfl, rfl, trivial⟩ ?_)
    refine CX.cond (b := !okM s0) rfl (fun c16 => ?_) (fun c16 => ?_)
    · refine CX.seq ?_
      refine CX.region ?_
      refine RX.cons rfl rfl (op_w (yw_move rfl rfl) rfl rfl ?_)
      refine RX.cons rfl rfl (op_w (yw_assign rfl rfl) rfl rfl ?_)
      refine RX.nil (XX.next (V' := [(4, .int .i64 ((i : Nat) : Int))]) ⟨rfl, trivial⟩ ?_)
      refine CX.ret ?_
      refine XX.block_ret ?_
      refine XX.then_ret ?_
      refine XX.then_ret ?_
      refine XX.block_ret ?_
      refine XX.then_ret ?_
      exact ret_tmp rfl rfl fun w1 hw => ⟨by rw [oddG_at hs0 (by simpa using c16) hall], hw.sub (List.nil_sublist _)⟩
    · refine CX.skip (XX.inBlock (V' := [(0, .slice A xs.length cap), (1, .func (.func 93) #[] #[]), (7, .int .i64 ((xs.length : Nat) : Int)), (8, .int .i64 ((i : Nat) : Int))]) ⟨rfl, rfl, rfl, rfl, trivial⟩ ?_)
      refine XX.next (V' := [(0, .slice A xs.length cap), (1, .func (.func 93) #[] #[]), (7, .int .i64 ((xs.length : Nat) : Int)), (8, .int .i64 ((i : Nat) : Int))]) ⟨rfl, rfl, rfl, rfl, trivial⟩ ?_
      refine CX.region ?_
      refine RX.cons rfl rfl (op_w (yw_add rfl rfl rfl (by omega) (by omega)) rfl rfl ?_)
      refine RX.cons rfl rfl (op_w (yw_move rfl rfl) rfl rfl ?_)
      refine RX.nil (XX.againP ([]) (i + 1) (by omega) ⟨by omega, all_snocG hs0 (by simpa using c16) hall⟩ ⟨rfl, rfl, rfl, rfl, trivial⟩ (List.Perm.refl _))
  · rw [List.take_of_length_le (by omega)] at hall
    refine CX.exit ?_
    refine XX.then_exit ?_
    refine XX.then_exit ?_
    refine XX.block_exit ?_
    refine XX.next (V' := []) trivial ?_
    refine CX.seq ?_
    refine CX.region ?_
    refine RX.cons rfl rfl (op_w (yw_assign rfl rfl) rfl rfl ?_)
    refine RX.nil (XX.next (V' := [(4, .int .i64 (-1))]) ⟨rfl, trivial⟩ ?_)
    refine CX.ret ?_
    exact ret_tmp rfl rfl fun w1 hw => ⟨by rw [oddG_none hall], hw.sub (List.nil_sublist _)⟩

set_option maxRecDepth 100000 in
theorem w_containsM {w : World} {A : Option Addr} {cap : Nat} (xs : List Int) (hr : Rd w A 1 (xs.map iC)) (hl : xs.length ≤ 281474976710656) :
    Calls Tryd.prog 92 #[.slice A xs.length cap, .func (.func 93) #[] #[]] w (fun e w' => e = .returned (.bool (decide (0 ≤ oddG okM xs))) ∧ SL w [] w' []) := by
  refine calls_of_CX (O := []) (L := []) (args := [.slice A xs.length cap, .func (.func 93) #[] #[]]) Tryd.func92 rfl (by simp [Tryd.ntmps92]) (SL.refl w) ?_
  refine CX.sub (V' := [(0, .slice A xs.length cap), (1, .func (.func 93) #[] #[])]) ⟨rfl, rfl, trivial⟩ ?_
  refine CX.seq ?_
  refine CX.region ?_
  refine RX.cons rfl rfl (op_w (yw_assign rfl rfl) rfl rfl ?_)
  refine RX.nil (XX.next (V' := [(0, .slice A xs.length cap), (1, .func (.func 93) #[] #[])]) ⟨rfl, rfl, trivial⟩ ?_)
  refine CX.seq ?_
  refine CX.region ?_
  refine RX.cons rfl rfl (op_w (yw_move rfl rfl) rfl rfl ?_)
  refine RX.cons rfl rfl (op_w (yw_move rfl rfl) rfl rfl ?_)
  refine RX.cons rfl rfl (op_callV (v := .int .i64 (oddG okM xs)) rfl rfl rfl rfl rfl ent_98 (fun w hw => w_indexM xs (hw.rd hr (by simp)) hl) ?_)
  refine RX.cons rfl rfl (op_w (yw_geq rfl rfl rfl) rfl rfl ?_)
  refine RX.cons rfl rfl (op_w (yw_assign rfl rfl) rfl rfl ?_)
  refine RX.nil (XX.next (V' := [(4, .bool (decide (0 ≤ oddG okM xs)))]) ⟨rfl, trivial⟩ ?_)
  refine CX.ret ?_
  exact ret_tmp rfl rfl fun w1 hw => ⟨rfl, hw.sub (List.nil_sublist _)⟩

set_option maxRecDepth 100000 in
theorem w_money {w : World} {A : Option Addr} {cap : Nat} (xs : List Int) (hr : Rd w A 1 (xs.map iC)) (hl : xs.length ≤ 281474976710656) :
    Calls Tryd.prog 79 #[.slice A xs.length cap] w (fun e w' => e = .returned (.bool (xs.all okM)) ∧ SL w [] w' []) := by
  refine calls_of_CX (O := []) (L := []) (args := [.slice A xs.length cap]) Tryd.func79 rfl (by simp [Tryd.ntmps79]) (SL.refl w) ?_
  refine CX.sub (V' := [(0, .slice A xs.length cap)]) ⟨rfl, trivial⟩ ?_
  refine CX.seq ?_
  refine CX.region ?_
  refine RX.cons rfl rfl (op_w (yw_assign rfl rfl) rfl rfl ?_)
  refine RX.nil (XX.next (V' := [(0, .slice A xs.length cap)]) ⟨rfl, trivial⟩ ?_)
  refine CX.seq ?_
  refine CX.region ?_
  refine RX.cons rfl rfl (op_w (yw_move rfl rfl) rfl rfl ?_)
  refine RX.cons rfl rfl (op_callV (v := .bool (decide (0 ≤ oddG okM xs))) rfl rfl rfl rfl rfl ent_92 (fun w hw => w_containsM xs (hw.rd hr (by simp)) hl) ?_)
  refine RX.cons rfl rfl (op_w (yw_notD rfl rfl) rfl rfl ?_)
  refine RX.know (t := 5) (u := .bool (xs.all okM)) rfl (congrArg Value.bool (by rw [← oddG_dec, ← decide_not])) ?_
  refine RX.cons rfl rfl (op_w (yw_assign rfl rfl) rfl rfl ?_)
  refine RX.nil (XX.next (V' := [(2, .bool (xs.all okM))]) ⟨rfl, trivial⟩ ?_)
  refine CX.ret ?_
  exact ret_tmp rfl rfl fun w1 hw => ⟨rfl, hw.sub (List.nil_sublist _)⟩

end Go.Proofs.YtnadipjlhlbfoaaDoor
namespace Go.Proofs.YtnadipjlhlbfoaaDoor
set_option linter.all false
open Go Go.RowKit
set_option maxRecDepth 100000
theorem fld_34_2 : Fld Tryd.prog 34 2 2 := ⟨_, _, (Tryd.prog.info? 32).get!, Tryd.underlying34, rfl, rfl, by kernel_rfl, by decide +kernel⟩
theorem one_32 : One Tryd.prog 32 := ⟨_, Tryd.underlying32, rfl⟩
theorem slt_32 : SlT Tryd.prog 32 57 3 := ⟨(Tryd.prog.info? 57).get!, Tryd.underlying32, by kernel_rfl, by kernel_rfl⟩
theorem agg_57 : AggT Tryd.prog 57 3 := ⟨_, _, Tryd.underlying57, rfl, (by kernel_rfl : Tryd.prog.info? 57 = some (Tryd.prog.info? 57).get!), by kernel_rfl⟩
theorem zero_57 : Zero Tryd.prog 57 (.agg (#[.int .i64 0, .int .i64 0, .int .i64 0])) := ⟨(Tryd.prog.info? 57).get!, by kernel_rfl, by kernel_rfl⟩
theorem szt_57 : SzT Tryd.prog 57 3 := ⟨(Tryd.prog.info? 57).get!, by kernel_rfl, by kernel_rfl⟩
theorem fld_57_0 : Fld Tryd.prog 57 0 0 := ⟨_, _, (Tryd.prog.info? 3).get!, Tryd.underlying57, rfl, rfl, by kernel_rfl, by decide +kernel⟩
theorem fld_57_1 : Fld Tryd.prog 57 1 1 := ⟨_, _, (Tryd.prog.info? 3).get!, Tryd.underlying57, rfl, rfl, by kernel_rfl, by decide +kernel⟩
theorem fld_57_2 : Fld Tryd.prog 57 2 2 := ⟨_, _, (Tryd.prog.info? 3).get!, Tryd.underlying57, rfl, rfl, by kernel_rfl, by decide +kernel⟩
theorem ent_79 : ∀ args w, (callFunc 79 args).run Tryd.prog w = .ok (.enter 79 args) w := enters_of Tryd.func79 (by kernel_rfl) rfl
theorem fld_34_0 : Fld Tryd.prog 34 0 0 := ⟨_, _, (Tryd.prog.info? 3).get!, Tryd.underlying34, rfl, rfl, by kernel_rfl, by decide +kernel⟩
theorem fld_34_1 : Fld Tryd.prog 34 1 1 := ⟨_, _, (Tryd.prog.info? 3).get!, Tryd.underlying34, rfl, rfl, by kernel_rfl, by decide +kernel⟩
set_option maxRecDepth 100000 in
theorem w_valid {w : World} {A : Option Addr} {cap : Nat} (s : Stm) (hr : Rd w A 3 (s.ls.map lnC)) (hl : s.ls.length ≤ 1000000) :
    Calls Tryd.prog 56 #[.agg (#[.int .i64 (Stm.h s), .int .i64 (Stm.c s), .slice A (List.length (Stm.ls s)) cap])] w (fun e w' => e = .returned (.bool (okS s)) ∧ SL w [] w' []) := by
  refine calls_of_CX (O := []) (L := []) (args := [.agg (#[.int .i64 (Stm.h s), .int .i64 (Stm.c s), .slice A (List.length (Stm.ls s)) cap])]) Tryd.func56 rfl (by simp [Tryd.ntmps56]) (SL.refl w) ?_
  refine CX.sub (V' := [(0, .agg (#[.int .i64 (Stm.h s), .int .i64 (Stm.c s), .slice A (List.length (Stm.ls s)) cap]))]) ⟨rfl, trivial⟩ ?_
  refine CX.seq ?_
  refine CX.region ?_
  refine RX.cons rfl rfl (op_box rfl rfl rfl rfl fun gs => ?_)
  refine RX.cons rfl rfl (op_w (yw_assign rfl rfl) rfl rfl ?_)
  refine RX.nil (XX.next (V' := [(1, .pointer (some ⟨gs, 0, none⟩))]) ⟨rfl, trivial⟩ ?_)
  refine CX.seq ?_
  refine CX.region ?_
  refine RX.cons rfl rfl (op_w (yw_assign rfl rfl) rfl rfl ?_)
  refine RX.nil (XX.next (V' := [(1, .pointer (some ⟨gs, 0, none⟩)), (3, .int .i64 (-1))]) ⟨rfl, rfl, trivial⟩ ?_)
  refine CX.seq ?_
  refine CX.seq ?_
  refine CX.region ?_
  refine RX.cons rfl rfl (op_w (yw_fieldAddr rfl fld_34_2 rfl) rfl rfl ?_)
  refine RX.cons rfl rfl (op_yld (y_load (i := 0) rfl rfl one_32 rfl rfl) rfl rfl ?_)
  refine RX.cons rfl rfl (op_w (yw_lenS rfl Tryd.underlying32 rfl) rfl rfl ?_)
  refine RX.cons rfl rfl (op_w (yw_move rfl rfl) rfl rfl ?_)
  refine RX.nil (XX.next (V' := [(1, .pointer (some ⟨gs, 0, none⟩)), (3, .int .i64 (-1)), (7, .slice A (List.length (Stm.ls s)) cap), (8, .int .i64 ((List.length (Stm.ls s) : Nat) : Int)), (9, .int .i64 0)]) ⟨rfl, rfl, rfl, rfl, rfl, trivial⟩ ?_)
  refine CX.block ?_
  refine CX.loop (σ := Nat × Int) (fun z => [(1, .pointer (some ⟨gs, 0, none⟩)), (3, .int .i64 z.2), (7, .slice A (List.length (Stm.ls s)) cap), (8, .int .i64 ((List.length (Stm.ls s) : Nat) : Int)), (9, .int .i64 ((z.1 : Nat) : Int))]) (fun z => [.blk gs (.cells (#[.int .i64 (Stm.h s), .int .i64 (Stm.c s), .slice A (List.length (Stm.ls s)) cap]) 34 (0, 0))]) (fun z => z.1 ≤ s.ls.length ∧ okLs (-1) s.ls = okLs z.2 (s.ls.drop z.1)) (fun z => s.ls.length - z.1) (0, -1) ⟨Nat.zero_le _, rfl⟩ ⟨rfl, rfl, rfl, rfl, rfl, trivial⟩ rfl (fun z hI => ?_)
  obtain ⟨i, last⟩ := z
  dsimp only at hI ⊢
  obtain ⟨hi, hok⟩ := hI
  refine CX.seq ?_
  refine CX.region ?_
  refine RX.cons rfl rfl (op_w (yw_lss rfl rfl rfl) rfl rfl ?_)
  refine RX.nil (XX.next (V' := [(1, .pointer (some ⟨gs, 0, none⟩)), (3, .int .i64 last), (7, .slice A (List.length (Stm.ls s)) cap), (8, .int .i64 ((List.length (Stm.ls s) : Nat) : Int)), (9, .int .i64 ((i : Nat) : Int)), (10, .bool (decide (((i : Nat) : Int) < ((List.length (Stm.ls s) : Nat) : Int))))]) ⟨rfl, rfl, rfl, rfl, rfl, rfl, trivial⟩ ?_)
  refine CX.seq ?_
  refine CX.condD (p := ((i : Nat) : Int) < ((List.length (Stm.ls s) : Nat) : Int)) rfl (fun c10 => ?_) (fun c10 => ?_)
  · obtain ⟨x0, hx0⟩ := get_some (l := s.ls) (k := i) (by omega)
    have hA : ∃ b j, A = some ⟨b, j, none⟩ := hr.some (k := 0) (by simp; omega)
    refine CX.skip (XX.next (V' := [(1, .pointer (some ⟨gs, 0, none⟩)), (3, .int .i64 last), (7, .slice A (List.length (Stm.ls s)) cap), (8, .int .i64 ((List.length (Stm.ls s) : Nat) : Int)), (9, .int .i64 ((i : Nat) : Int))]) ⟨rfl, rfl, rfl, rfl, rfl, trivial⟩ ?_)
    refine CX.seq ?_
    refine CX.block ?_
    refine CX.seq ?_
    refine CX.region ?_
    refine RX.cons rfl rfl (op_w (yw_index (k := i) rfl slt_32 rfl rfl (by omega) (by omega) hA) rfl rfl ?_)
    refine RX.cons rfl rfl (op_yld (y_elem rfl rfl agg_57 hr (by simp) (map_get hx0)) rfl rfl ?_)
    refine RX.cons rfl rfl (op_alloc rfl rfl rfl zero_57 fun gl => ?_)
    refine RX.cons rfl rfl (op_storeAll (i := 0) rfl rfl rfl rfl szt_57 rfl (plain_of rfl) rfl rfl ?_)
    refine RX.nil (XX.next (V' := [(1, .pointer (some ⟨gs, 0, none⟩)), (3, .int .i64 last), (5, .pointer (some ⟨gl, 0, none⟩)), (7, .slice A (List.length (Stm.ls s)) cap), (8, .int .i64 ((List.length (Stm.ls s) : Nat) : Int)), (9, .int .i64 ((i : Nat) : Int))]) ⟨rfl, rfl, rfl, rfl, rfl, rfl, trivial⟩ ?_)
    refine CX.seq ?_
    refine CX.seq ?_
    refine CX.region ?_
    refine RX.cons rfl rfl (op_w (yw_field0 rfl fld_57_0 rfl) rfl rfl ?_)
    refine RX.cons rfl rfl (op_yld (y_load (i := 0) rfl rfl one_3 rfl rfl) rfl rfl ?_)
    refine RX.cons rfl rfl (op_w (yw_move rfl rfl) rfl rfl ?_)
    refine RX.cons rfl rfl (op_w (yw_leq rfl rfl rfl) rfl rfl ?_)
    refine RX.cons rfl rfl (op_w (yw_move rfl rfl) rfl rfl ?_)
    refine RX.splitD (t := 17) (p := Ln.p x0 ≤ last) rfl (fun d17 => ?_) (fun d17 => ?_)
    · refine RX.skip rfl rfl rfl rfl rfl rfl rfl ?_
      refine RX.skip rfl rfl rfl rfl rfl rfl rfl ?_
      refine RX.skip rfl rfl rfl rfl rfl rfl rfl ?_
      refine RX.cons rfl rfl (op_w (yw_pickT rfl rfl rfl) rfl rfl ?_)
      refine RX.cons rfl rfl (op_w (yw_move rfl rfl) rfl rfl ?_)
      refine RX.skip rfl rfl rfl rfl rfl rfl rfl ?_
      refine RX.skip rfl rfl rfl rfl rfl rfl rfl ?_
      refine RX.skip rfl rfl rfl rfl rfl rfl rfl ?_
      refine RX.skip rfl rfl rfl rfl rfl rfl rfl ?_
      refine RX.skip rfl rfl rfl rfl rfl rfl rfl ?_
      refine RX.skip rfl rfl rfl rfl rfl rfl rfl ?_
      refine RX.skip rfl rfl rfl rfl rfl rfl rfl ?_
      refine RX.cons rfl rfl (op_w (yw_pickT rfl rfl rfl) rfl rfl ?_)
      refine RX.cons rfl rfl (op_w (yw_move rfl rfl) rfl rfl ?_)
      refine RX.skip rfl rfl rfl rfl rfl rfl rfl ?_
      refine RX.skip rfl rfl rfl rfl rfl rfl rfl ?_
      refine RX.skip rfl rfl rfl rfl rfl rfl rfl ?_
      refine RX.skip rfl rfl rfl rfl rfl rfl rfl ?_
      refine RX.skip rfl rfl rfl rfl rfl rfl rfl ?_
      refine RX.cons rfl rfl (op_w (yw_pickT rfl rfl rfl) rfl rfl ?_)
      refine RX.nil (XX.next (V' := [(1, .pointer (some ⟨gs, 0, none⟩)), (5, .pointer (some ⟨gl, 0, none⟩)), (7, .slice A (List.length (Stm.ls s)) cap), (8, .int .i64 ((List.length (Stm.ls s) : Nat) : Int)), (9, .int .i64 ((i : Nat) : Int)), (37, .bool true)]) ⟨rfl, rfl, rfl, rfl, rfl, rfl, trivial⟩ ?_)
      refine CX.condT rfl ?_
      refine CX.seq ?_
      refine CX.region ?_
      refine RX.cons rfl rfl (op_w (yw_assign rfl rfl) rfl rfl ?_)
      refine RX.nil (XX.next (V' := [(2, .bool false)]) ⟨rfl, trivial⟩ ?_)
      refine CX.ret ?_
      refine XX.then_ret ?_
      refine XX.block_ret ?_
      refine XX.then_ret ?_
      refine XX.then_ret ?_
      refine XX.block_ret ?_
      refine XX.then_ret ?_
      exact ret_tmp rfl rfl fun w1 hw => ⟨by rw [okS_bad (by rw [hok, drop_cons hx0, okLs_cons, okL_false (.inl d17)]; rfl)], hw.sub (List.nil_sublist _)⟩
    · refine RX.consG rfl rfl rfl rfl rfl (op_w (yw_field0 rfl fld_57_0 rfl) rfl rfl ?_)
      refine RX.consG rfl rfl rfl rfl rfl (op_yld (y_load (i := 0) rfl rfl one_3 rfl rfl) rfl rfl ?_)
      refine RX.consG rfl rfl rfl rfl rfl (op_w (yw_geq rfl rfl rfl) rfl rfl ?_)
      refine RX.cons rfl rfl (op_w (yw_pickF rfl rfl rfl) rfl rfl ?_)
      refine RX.cons rfl rfl (op_w (yw_move rfl rfl) rfl rfl ?_)
      refine RX.splitD (t := 22) (p := 1200 ≤ Ln.p x0) rfl (fun d22 => ?_) (fun d22 => ?_)
      · refine RX.skip rfl rfl rfl rfl rfl rfl rfl ?_
        refine RX.skip rfl rfl rfl rfl rfl rfl rfl ?_
        refine RX.skip rfl rfl rfl rfl rfl rfl rfl ?_
        refine RX.skip rfl rfl rfl rfl rfl rfl rfl ?_
        refine RX.skip rfl rfl rfl rfl rfl rfl rfl ?_
        refine RX.skip rfl rfl rfl rfl rfl rfl rfl ?_
        refine RX.skip rfl rfl rfl rfl rfl rfl rfl ?_
        refine RX.cons rfl rfl (op_w (yw_pickT rfl rfl rfl) rfl rfl ?_)
        refine RX.cons rfl rfl (op_w (yw_move rfl rfl) rfl rfl ?_)
        refine RX.skip rfl rfl rfl rfl rfl rfl rfl ?_
        refine RX.skip rfl rfl rfl rfl rfl rfl rfl ?_
        refine RX.skip rfl rfl rfl rfl rfl rfl rfl ?_
        refine RX.skip rfl rfl rfl rfl rfl rfl rfl ?_
        refine RX.skip rfl rfl rfl rfl rfl rfl rfl ?_
        refine RX.cons rfl rfl (op_w (yw_pickT rfl rfl rfl) rfl rfl ?_)
        refine RX.nil (XX.next (V' := [(1, .pointer (some ⟨gs, 0, none⟩)), (5, .pointer (some ⟨gl, 0, none⟩)), (7, .slice A (List.length (Stm.ls s)) cap), (8, .int .i64 ((List.length (Stm.ls s) : Nat) : Int)), (9, .int .i64 ((i : Nat) : Int)), (37, .bool true)]) ⟨rfl, rfl, rfl, rfl, rfl, rfl, trivial⟩ ?_)
        refine CX.condT rfl ?_
        refine CX.seq ?_
        refine CX.region ?_
        refine RX.cons rfl rfl (op_w (yw_assign rfl rfl) rfl rfl ?_)
        refine RX.nil (XX.next (V' := [(2, .bool false)]) ⟨rfl, trivial⟩ ?_)
        refine CX.ret ?_
        refine XX.then_ret ?_
        refine XX.block_ret ?_
        refine XX.then_ret ?_
        refine XX.then_ret ?_
        refine XX.block_ret ?_
        refine XX.then_ret ?_
        exact ret_tmp rfl rfl fun w1 hw => ⟨by rw [okS_bad (by rw [hok, drop_cons hx0, okLs_cons, okL_false (.inr (.inl d22))]; rfl)], hw.sub (List.nil_sublist _)⟩
      · refine RX.consG rfl rfl rfl rfl rfl (op_w (yw_fieldAddr rfl fld_57_1 rfl) rfl rfl ?_)
        refine RX.consG rfl rfl rfl rfl rfl (op_yld (y_load (i := 0) rfl rfl one_3 rfl rfl) rfl rfl ?_)
        refine RX.consG rfl rfl rfl rfl rfl (op_w (yw_fieldAddr rfl fld_57_2 rfl) rfl rfl ?_)
        refine RX.consG rfl rfl rfl rfl rfl (op_yld (y_load (i := 0) rfl rfl one_3 rfl rfl) rfl rfl ?_)
        refine RX.consG rfl rfl rfl rfl rfl (op_buildSlice rfl rfl rfl slb_71 rfl rfl (by intro v hv; simp only [List.mem_cons, List.not_mem_nil, or_false] at hv; rcases hv with rfl | rfl <;> exact ⟨rfl, (plain_of rfl)⟩) (by decide) fun g9 => ?_)
        refine RX.consG rfl rfl rfl rfl rfl (op_callV (v := .bool (List.all ([Ln.b x0, Ln.a x0]) okM)) rfl rfl rfl rfl rfl ent_79 (fun w hw => w_money ([Ln.b x0, Ln.a x0]) (Ent.rd (hw.ents _ (List.mem_of_getElem? (i := 0) rfl))) (by simp)) ?_)
        refine RX.consG rfl rfl rfl rfl rfl (op_w (yw_not rfl rfl) rfl rfl ?_)
        refine RX.cons rfl rfl (op_w (yw_pickF rfl rfl rfl) rfl rfl ?_)
        refine RX.cons rfl rfl (op_w (yw_move rfl rfl) rfl rfl ?_)
        refine RX.split (t := 31) (b := !(List.all ([Ln.b x0, Ln.a x0]) okM)) rfl (fun d31 => ?_) (fun d31 => ?_)
        · refine RX.skip rfl rfl rfl rfl rfl rfl rfl ?_
          refine RX.skip rfl rfl rfl rfl rfl rfl rfl ?_
          refine RX.skip rfl rfl rfl rfl rfl rfl rfl ?_
          refine RX.skip rfl rfl rfl rfl rfl rfl rfl ?_
          refine RX.skip rfl rfl rfl rfl rfl rfl rfl ?_
          refine RX.cons rfl rfl (op_w (yw_pickT rfl rfl rfl) rfl rfl ?_)
          refine RX.nil (XX.next (V' := [(1, .pointer (some ⟨gs, 0, none⟩)), (5, .pointer (some ⟨gl, 0, none⟩)), (7, .slice A (List.length (Stm.ls s)) cap), (8, .int .i64 ((List.length (Stm.ls s) : Nat) : Int)), (9, .int .i64 ((i : Nat) : Int)), (37, .bool true)]) ⟨rfl, rfl, rfl, rfl, rfl, rfl, trivial⟩ ?_)
          refine CX.condT rfl ?_
          refine CX.seq ?_
          refine CX.region ?_
          refine RX.cons rfl rfl (op_w (yw_assign rfl rfl) rfl rfl ?_)
          refine RX.nil (XX.next (V' := [(2, .bool false)]) ⟨rfl, trivial⟩ ?_)
          refine CX.ret ?_
          refine XX.then_ret ?_
          refine XX.block_ret ?_
          refine XX.then_ret ?_
          refine XX.then_ret ?_
          refine XX.block_ret ?_
          refine XX.then_ret ?_
          exact ret_tmp rfl rfl fun w1 hw => ⟨by rw [okS_bad (by rw [hok, drop_cons hx0, okLs_cons, okL_false (.inr (.inr (.inl (not_tt d31))))]; rfl)], hw.sub (List.nil_sublist _)⟩
        · refine RX.consG rfl rfl rfl rfl rfl (op_w (yw_fieldAddr rfl fld_57_1 rfl) rfl rfl ?_)
          refine RX.consG rfl rfl rfl rfl rfl (op_yld (y_load (i := 1) rfl rfl one_3 rfl rfl) rfl rfl ?_)
          refine RX.consG rfl rfl rfl rfl rfl (op_w (yw_fieldAddr rfl fld_57_2 rfl) rfl rfl ?_)
          refine RX.consG rfl rfl rfl rfl rfl (op_yld (y_load (i := 1) rfl rfl one_3 rfl rfl) rfl rfl ?_)
          refine RX.consG rfl rfl rfl rfl rfl (op_w (yw_eql rfl rfl rfl) rfl rfl ?_)
          refine RX.cons rfl rfl (op_w (yw_pickF rfl rfl rfl) rfl rfl ?_)
          refine RX.nil (XX.next (V' := [(1, .pointer (some ⟨gs, 0, none⟩)), (5, .pointer (some ⟨gl, 0, none⟩)), (7, .slice A (List.length (Stm.ls s)) cap), (8, .int .i64 ((List.length (Stm.ls s) : Nat) : Int)), (9, .int .i64 ((i : Nat) : Int)), (37, .bool (decide (Ln.b x0 = Ln.a x0)))]) ⟨rfl, rfl, rfl, rfl, rfl, rfl, trivial⟩ ?_)
          refine CX.condD (p := Ln.b x0 = Ln.a x0) rfl (fun c37 => ?_) (fun c37 => ?_)
          · refine CX.seq ?_
            refine CX.region ?_
            refine RX.cons rfl rfl (op_w (yw_assign rfl rfl) rfl rfl ?_)
            refine RX.nil (XX.next (V' := [(2, .bool false)]) ⟨rfl, trivial⟩ ?_)
            refine CX.ret ?_
            refine XX.then_ret ?_
            refine XX.block_ret ?_
            refine XX.then_ret ?_
            refine XX.then_ret ?_
            refine XX.block_ret ?_
            refine XX.then_ret ?_
            exact ret_tmp rfl rfl fun w1 hw => ⟨by rw [okS_bad (by rw [hok, drop_cons hx0, okLs_cons, okL_false (.inr (.inr (.inr c37)))]; rfl)], hw.sub (List.nil_sublist _)⟩
          · have hgood : okL last x0 = true := okL_true d17 d22 (by simpa using d31) c37
            refine CX.skip (XX.next (V' := [(1, .pointer (some ⟨gs, 0, none⟩)), (5, .pointer (some ⟨gl, 0, none⟩)), (7, .slice A (List.length (Stm.ls s)) cap), (8, .int .i64 ((List.length (Stm.ls s) : Nat) : Int)), (9, .int .i64 ((i : Nat) : Int))]) ⟨rfl, rfl, rfl, rfl, rfl, trivial⟩ ?_)
            refine CX.region ?_
            refine RX.cons rfl rfl (op_w (yw_field0 rfl fld_57_0 rfl) rfl rfl ?_)
            refine RX.cons rfl rfl (op_yld (y_load (i := 1) rfl rfl one_3 rfl rfl) rfl rfl ?_)
            refine RX.cons rfl rfl (op_w (yw_assign rfl rfl) rfl rfl ?_)
            refine RX.nil (XX.inBlock (V' := [(1, .pointer (some ⟨gs, 0, none⟩)), (3, .int .i64 (Ln.p x0)), (7, .slice A (List.length (Stm.ls s)) cap), (8, .int .i64 ((List.length (Stm.ls s) : Nat) : Int)), (9, .int .i64 ((i : Nat) : Int))]) ⟨rfl, rfl, rfl, rfl, rfl, trivial⟩ ?_)
            refine XX.next (V' := [(1, .pointer (some ⟨gs, 0, none⟩)), (3, .int .i64 (Ln.p x0)), (7, .slice A (List.length (Stm.ls s)) cap), (8, .int .i64 ((List.length (Stm.ls s) : Nat) : Int)), (9, .int .i64 ((i : Nat) : Int))]) ⟨rfl, rfl, rfl, rfl, rfl, trivial⟩ ?_
            refine CX.region ?_
            refine RX.cons rfl rfl (op_w (yw_add rfl rfl rfl (by omega) (by omega)) rfl rfl ?_)
            refine RX.cons rfl rfl (op_w (yw_move rfl rfl) rfl rfl ?_)
            refine RX.nil (XX.againP ([.row (some ⟨g9, 0, none⟩) 2 3 1 (List.map iC ([Ln.b x0, Ln.a x0])), .blk gl (.cells (lnC x0) 57 (0, 0))]) (i + 1, Ln.p x0) (by dsimp only; omega) ⟨by dsimp only; omega, by rw [hok, drop_cons hx0, okLs_cons, hgood, Bool.true_and]⟩ ⟨rfl, rfl, rfl, rfl, rfl, trivial⟩ ((perm_pick 2 rfl).trans (List.Perm.cons _ (List.Perm.refl _))))
  · have hoka : okLs (-1) s.ls = true := by rw [hok, List.drop_eq_nil_of_le (by omega)]; rfl
    refine CX.exit ?_
    refine XX.then_exit ?_
    refine XX.then_exit ?_
    refine XX.block_exit ?_
    refine XX.next (V' := [(1, .pointer (some ⟨gs, 0, none⟩))]) ⟨rfl, trivial⟩ ?_
    refine CX.seq ?_
    refine CX.region ?_
    refine RX.cons rfl rfl (op_w (yw_field0 rfl fld_34_0 rfl) rfl rfl ?_)
    refine RX.cons rfl rfl (op_yld (y_load (i := 0) rfl rfl one_3 rfl rfl) rfl rfl ?_)
    refine RX.cons rfl rfl (op_w (yw_geq rfl rfl rfl) rfl rfl ?_)
    refine RX.cons rfl rfl (op_w (yw_move rfl rfl) rfl rfl ?_)
    refine RX.splitD (t := 44) (p := 1 ≤ Stm.h s) rfl (fun d44 => ?_) (fun d44 => ?_)
    · refine RX.consG rfl rfl rfl rfl rfl (op_w (yw_field0 rfl fld_34_0 rfl) rfl rfl ?_)
      refine RX.consG rfl rfl rfl rfl rfl (op_yld (y_load (i := 0) rfl rfl one_3 rfl rfl) rfl rfl ?_)
      refine RX.consG rfl rfl rfl rfl rfl (op_w (yw_leq rfl rfl rfl) rfl rfl ?_)
      refine RX.cons rfl rfl (op_w (yw_pickT rfl rfl rfl) rfl rfl ?_)
      refine RX.cons rfl rfl (op_w (yw_move rfl rfl) rfl rfl ?_)
      refine RX.splitD (t := 49) (p := Stm.h s ≤ 1000000) rfl (fun d49 => ?_) (fun d49 => ?_)
      · refine RX.consG rfl rfl rfl rfl rfl (op_w (yw_fieldAddr rfl fld_34_1 rfl) rfl rfl ?_)
        refine RX.consG rfl rfl rfl rfl rfl (op_yld (y_load (i := 0) rfl rfl one_3 rfl rfl) rfl rfl ?_)
        refine RX.consG rfl rfl rfl rfl rfl (op_w (yw_geq rfl rfl rfl) rfl rfl ?_)
        refine RX.cons rfl rfl (op_w (yw_pickT rfl rfl rfl) rfl rfl ?_)
        refine RX.cons rfl rfl (op_w (yw_move rfl rfl) rfl rfl ?_)
        refine RX.splitD (t := 54) (p := 0 ≤ Stm.c s) rfl (fun d54 => ?_) (fun d54 => ?_)
        · refine RX.consG rfl rfl rfl rfl rfl (op_w (yw_fieldAddr rfl fld_34_1 rfl) rfl rfl ?_)
          refine RX.consG rfl rfl rfl rfl rfl (op_yld (y_load (i := 0) rfl rfl one_3 rfl rfl) rfl rfl ?_)
          refine RX.consG rfl rfl rfl rfl rfl (op_w (yw_lss rfl rfl rfl) rfl rfl ?_)
          refine RX.cons rfl rfl (op_w (yw_pickT rfl rfl rfl) rfl rfl ?_)
          refine RX.cons rfl rfl (op_w (yw_move rfl rfl) rfl rfl ?_)
          refine RX.splitD (t := 59) (p := Stm.c s < 1200) rfl (fun d59 => ?_) (fun d59 => ?_)
          · refine RX.consG rfl rfl rfl rfl rfl (op_w (yw_fieldAddr rfl fld_34_2 rfl) rfl rfl ?_)
            refine RX.consG rfl rfl rfl rfl rfl (op_yld (y_load (i := 0) rfl rfl one_32 rfl rfl) rfl rfl ?_)
            refine RX.consG rfl rfl rfl rfl rfl (op_w (yw_lenS rfl Tryd.underlying32 rfl) rfl rfl ?_)
            refine RX.consG rfl rfl rfl rfl rfl (op_w (yw_geq rfl rfl rfl) rfl rfl ?_)
            refine RX.cons rfl rfl (op_w (yw_pickT rfl rfl rfl) rfl rfl ?_)
            refine RX.cons rfl rfl (op_w (yw_assign rfl rfl) rfl rfl ?_)
            refine RX.nil (XX.next (V' := [(2, .bool (decide (1 ≤ ((List.length (Stm.ls s) : Nat) : Int))))]) ⟨rfl, trivial⟩ ?_)
            refine CX.ret ?_
            exact ret_tmp rfl rfl fun w1 hw => ⟨by rw [okS_end hoka]; simp [d44, d49, d54, d59], hw.sub (List.nil_sublist _)⟩
          · refine RX.skip rfl rfl rfl rfl rfl rfl rfl ?_
            refine RX.skip rfl rfl rfl rfl rfl rfl rfl ?_
            refine RX.skip rfl rfl rfl rfl rfl rfl rfl ?_
            refine RX.skip rfl rfl rfl rfl rfl rfl rfl ?_
            refine RX.cons rfl rfl (op_w (yw_pickF rfl rfl rfl) rfl rfl ?_)
            refine RX.cons rfl rfl (op_w (yw_assign rfl rfl) rfl rfl ?_)
            refine RX.nil (XX.next (V' := [(2, .bool false)]) ⟨rfl, trivial⟩ ?_)
            refine CX.ret ?_
            exact ret_tmp rfl rfl fun w1 hw => ⟨by rw [okS_end hoka]; simp [d44, d49, d54, d59], hw.sub (List.nil_sublist _)⟩
        · refine RX.skip rfl rfl rfl rfl rfl rfl rfl ?_
          refine RX.skip rfl rfl rfl rfl rfl rfl rfl ?_
          refine RX.skip rfl rfl rfl rfl rfl rfl rfl ?_
          refine RX.cons rfl rfl (op_w (yw_pickF rfl rfl rfl) rfl rfl ?_)
          refine RX.cons rfl rfl (op_w (yw_move rfl rfl) rfl rfl ?_)
          refine RX.skip rfl rfl rfl rfl rfl rfl rfl ?_
          refine RX.skip rfl rfl rfl rfl rfl rfl rfl ?_
          refine RX.skip rfl rfl rfl rfl rfl rfl rfl ?_
          refine RX.skip rfl rfl rfl rfl rfl rfl rfl ?_
          refine RX.cons rfl rfl (op_w (yw_pickF rfl rfl rfl) rfl rfl ?_)
          refine RX.cons rfl rfl (op_w (yw_assign rfl rfl) rfl rfl ?_)
          refine RX.nil (XX.next (V' := [(2, .bool false)]) ⟨rfl, trivial⟩ ?_)
          refine CX.ret ?_
          exact ret_tmp rfl rfl fun w1 hw => ⟨by rw [okS_end hoka]; simp [d44, d49, d54], hw.sub (List.nil_sublist _)⟩
      · refine RX.skip rfl rfl rfl rfl rfl rfl rfl ?_
        refine RX.skip rfl rfl rfl rfl rfl rfl rfl ?_
        refine RX.skip rfl rfl rfl rfl rfl rfl rfl ?_
        refine RX.cons rfl rfl (op_w (yw_pickF rfl rfl rfl) rfl rfl ?_)
        refine RX.cons rfl rfl (op_w (yw_move rfl rfl) rfl rfl ?_)
        refine RX.skip rfl rfl rfl rfl rfl rfl rfl ?_
        refine RX.skip rfl rfl rfl rfl rfl rfl rfl ?_
        refine RX.skip rfl rfl rfl rfl rfl rfl rfl ?_
        refine RX.cons rfl rfl (op_w (yw_pickF rfl rfl rfl) rfl rfl ?_)
        refine RX.cons rfl rfl (op_w (yw_move rfl rfl) rfl rfl ?_)
        refine RX.skip rfl rfl rfl rfl rfl rfl rfl ?_
        refine RX.skip rfl rfl rfl rfl rfl rfl rfl ?_
        refine RX.skip rfl rfl rfl rfl rfl rfl rfl ?_
        refine RX.skip rfl rfl rfl rfl rfl rfl rfl ?_
        refine RX.cons rfl rfl (op_w (yw_pickF rfl rfl rfl) rfl rfl ?_)
        refine RX.cons rfl rfl (op_w (yw_assign rfl rfl) rfl rfl ?_)
        refine RX.nil (XX.next (V' := [(2, .bool false)]) ⟨rfl, trivial⟩ ?_)
        refine CX.ret ?_
        exact ret_tmp rfl rfl fun w1 hw => ⟨by rw [okS_end hoka]; simp [d44, d49], hw.sub (List.nil_sublist _)⟩
    · refine RX.skip rfl rfl rfl rfl rfl rfl rfl ?_
      refine RX.skip rfl rfl rfl rfl rfl rfl rfl ?_
      refine RX.skip rfl rfl rfl rfl rfl rfl rfl ?_
      refine RX.cons rfl rfl (op_w (yw_pickF rfl rfl rfl) rfl rfl ?_)
      refine RX.cons rfl rfl (op_w (yw_move rfl rfl) rfl rfl ?_)
      refine RX.skip rfl rfl rfl rfl rfl rfl rfl ?_
      refine RX.skip rfl rfl rfl rfl rfl rfl rfl ?_
      refine RX.skip rfl rfl rfl rfl rfl rfl rfl ?_
      refine RX.cons rfl rfl (op_w (yw_pickF rfl rfl rfl) rfl rfl ?_)
      refine RX.cons rfl rfl (op_w (yw_move rfl rfl) rfl rfl ?_)
      refine RX.skip rfl rfl rfl rfl rfl rfl rfl ?_
      refine RX.skip rfl rfl rfl rfl rfl rfl rfl ?_
      refine RX.skip rfl rfl rfl rfl rfl rfl rfl ?_
      refine RX.cons rfl rfl (op_w (yw_pickF rfl rfl rfl) rfl rfl ?_)
      refine RX.cons rfl rfl (op_w (yw_move rfl rfl) rfl rfl ?_)
      refine RX.skip rfl rfl rfl rfl rfl rfl rfl ?_
      refine RX.skip rfl rfl rfl rfl rfl rfl rfl ?_
      refine RX.skip rfl rfl rfl rfl rfl rfl rfl ?_
      refine RX.skip rfl rfl rfl rfl rfl rfl rfl ?_
      refine RX.cons rfl rfl (op_w (yw_pickF rfl rfl rfl) rfl rfl ?_)
      refine RX.cons rfl rfl (op_w (yw_assign rfl rfl) rfl rfl ?_)
      refine RX.nil (XX.next (V' := [(2, .bool false)]) ⟨rfl, trivial⟩ ?_)
      refine CX.ret ?_
      exact ret_tmp rfl rfl fun w1 hw => ⟨by rw [okS_end hoka]; simp [d44], hw.sub (List.nil_sublist _)⟩

end Go.Proofs.YtnadipjlhlbfoaaDoor
namespace Go.Proofs.YtnadipjlhlbfoaaDoor
set_option linter.all false
open Go Go.RowKit
set_option maxRecDepth 100000
theorem ent_58 : ∀ args w, (callFunc 58 args).run Tryd.prog w = .ok (.enter 58 args) w := enters_of Tryd.func58 (by kernel_rfl) rfl
set_option maxRecDepth 100000 in
theorem w_put {w : World} {gb cap capb : Nat} {A B : Option Addr} {p : Value} (bs : List UInt8) (ns : List Int) (hr : Rd w B 1 (ns.map iC)) (hAO : ab B ∉ brO A gb) (hok : ∀ n ∈ ns, 0 ≤ n ∧ n ≤ 4611686018427387903) (hl : ns.length ≤ 1000000) (hb : bs.length ≤ 1099511627776) (hp : p = .pointer none ∨ p = .pointer (some ⟨gb, 0, none⟩)) (hs : SL w (brO A gb) w [.row A cap 5 1 (List.map u8c bs), .blk gb (.cells #[p, .slice A bs.length cap] 91 (0, 0))]) :
    Calls Tryd.prog 57 #[.slice B ns.length capb, .pointer (some ⟨gb, 0, none⟩)] w (fun e w' => ∃ z : (Option Addr × Nat) × Value, (z.2 = .pointer none ∨ z.2 = .pointer (some ⟨gb, 0, none⟩)) ∧ e = .returned (.tuple #[]) ∧ SL w (brO A gb) w' [.row z.1.1 z.1.2 5 1 (List.map u8c (bs ++ putL ns)), .blk gb (.cells #[z.2, .slice z.1.1 ((bs ++ putL ns).length) z.1.2] 91 (0, 0))]) := by
  refine calls_of_CX (O := (brO A gb)) (L := [.row A cap 5 1 (List.map u8c bs), .blk gb (.cells (#[p, .slice A (List.length (bs : List UInt8)) cap]) 91 (0, 0))]) (args := [.slice B ns.length capb, .pointer (some ⟨gb, 0, none⟩)]) Tryd.func57 rfl (by simp [Tryd.ntmps57]) hs ?_
  refine CX.sub (V' := [(0, .slice B ns.length capb), (1, .pointer (some ⟨gb, 0, none⟩))]) ⟨rfl, rfl, trivial⟩ ?_
  refine CX.seq ?_
  refine CX.region ?_
  refine RX.cons rfl rfl (op_w (yw_move rfl rfl) rfl rfl ?_)
  refine RX.cons rfl rfl (op_w (yw_lenS rfl Tryd.underlying71 rfl) rfl rfl ?_)
  refine RX.cons rfl rfl (op_w (yw_move rfl rfl) rfl rfl ?_)
  refine RX.nil (XX.next (V' := [(1, .pointer (some ⟨gb, 0, none⟩)), (7, .slice B ns.length capb), (8, .int .i64 ((ns.length : Nat) : Int)), (9, .int .i64 0)]) ⟨rfl, rfl, rfl, rfl, trivial⟩ ?_)
  refine CX.block ?_
  refine CX.loop (σ := Nat × (Option Addr × Nat) × Value × List UInt8) (fun z => [(1, .pointer (some ⟨gb, 0, none⟩)), (7, .slice B ns.length capb), (8, .int .i64 ((ns.length : Nat) : Int)), (9, .int .i64 ((z.1 : Nat) : Int))]) (fun z => [.row z.2.1.1 z.2.1.2 5 1 (List.map u8c z.2.2.2), .blk gb (.cells (#[z.2.2.1, .slice z.2.1.1 (List.length (z.2.2.2 : List UInt8)) z.2.1.2]) 91 (0, 0))]) (fun z => z.1 ≤ ns.length ∧ (z.2.2.1 = .pointer none ∨ z.2.2.1 = .pointer (some ⟨gb, 0, none⟩)) ∧ z.2.2.2 = bs ++ putL (ns.take z.1)) (fun z => ns.length - z.1) (0, (A, cap), p, bs) ⟨Nat.zero_le _, hp, by simp [putL]⟩ ⟨rfl, rfl, rfl, rfl, trivial⟩ rfl (fun z hI => ?_)
  obtain ⟨i, ⟨A1, c1⟩, p1, b1⟩ := z
  dsimp only at hI ⊢
  obtain ⟨hi, hp, hb1⟩ := hI
  refine CX.seq ?_
  refine CX.region ?_
  refine RX.cons rfl rfl (op_w (yw_lss rfl rfl rfl) rfl rfl ?_)
  refine RX.nil (XX.next (V' := [(1, .pointer (some ⟨gb, 0, none⟩)), (7, .slice B ns.length capb), (8, .int .i64 ((ns.length : Nat) : Int)), (9, .int .i64 ((i : Nat) : Int)), (10, .bool (decide (((i : Nat) : Int) < ((ns.length : Nat) : Int))))]) ⟨rfl, rfl, rfl, rfl, rfl, trivial⟩ ?_)
  refine CX.seq ?_
  refine CX.condD (p := ((i : Nat) : Int) < ((ns.length : Nat) : Int)) rfl (fun c10 => ?_) (fun c10 => ?_)
  · obtain ⟨n0, hn0⟩ := get_some (l := ns) (k := i) (by omega)
    obtain ⟨hn1, hn2⟩ := hok n0 (List.mem_of_getElem? hn0)
    have hA : ∃ b j, B = some ⟨b, j, none⟩ := hr.some (k := 0) (by simp; omega)
    have hpl := putL_le (ns.take i)
    have hbl : b1.length = bs.length + (putL (ns.take i)).length := by rw [hb1, List.length_append]
    rw [List.length_take] at hpl
    have hel := encI_le n0.toNat
    refine CX.skip (XX.next (V' := [(1, .pointer (some ⟨gb, 0, none⟩)), (7, .slice B ns.length capb), (8, .int .i64 ((ns.length : Nat) : Int)), (9, .int .i64 ((i : Nat) : Int))]) ⟨rfl, rfl, rfl, rfl, trivial⟩ ?_)
    refine CX.seq ?_
    refine CX.block ?_
    refine CX.seq ?_
    refine CX.region ?_
    refine RX.cons rfl rfl (op_w (yw_index (k := i) rfl slt_71 rfl rfl (by omega) (by omega) hA) rfl rfl ?_)
    refine RX.cons rfl rfl (op_yld (y_elem1 rfl rfl one_3 hr hAO (map_get hn0)) rfl rfl ?_)
    refine RX.cons rfl rfl (op_w (yw_assign rfl rfl) rfl rfl ?_)
    refine RX.nil (XX.next (V' := [(1, .pointer (some ⟨gb, 0, none⟩)), (4, .int .i64 n0), (7, .slice B ns.length capb), (8, .int .i64 ((ns.length : Nat) : Int)), (9, .int .i64 ((i : Nat) : Int))]) ⟨rfl, rfl, rfl, rfl, rfl, trivial⟩ ?_)
    refine CX.seq ?_
    refine CX.region ?_
    refine RX.cons rfl rfl (op_w (yw_move rfl rfl) rfl rfl ?_)
    refine RX.know (t := 14) (u := .int .i64 ((n0.toNat : Nat) : Int)) rfl (congrArg (Value.int .i64) (by omega)) ?_
    refine RX.cons rfl rfl (op_callV (v := .tuple #[.string (⟨List.toArray (encI n0.toNat)⟩), .int .i64 0]) rfl rfl rfl rfl rfl ent_58 (fun w hw => w_putInt n0.toNat (by omega)) ?_)
    refine RX.cons rfl rfl (op_w (yw_move rfl rfl) rfl rfl ?_)
    refine RX.cons rfl rfl (op_w (yw_extract rfl rfl rfl) rfl rfl ?_)
    refine RX.cons rfl rfl (op_w (yw_extract rfl rfl rfl) rfl rfl ?_)
    refine RX.cons rfl rfl (op_w (yw_assign rfl rfl) rfl rfl ?_)
    refine RX.cons rfl rfl (op_w (yw_assign rfl rfl) rfl rfl ?_)
    refine RX.nil (XX.next (V' := [(1, .pointer (some ⟨gb, 0, none⟩)), (5, .string (⟨List.toArray (encI n0.toNat)⟩)), (7, .slice B ns.length capb), (8, .int .i64 ((ns.length : Nat) : Int)), (9, .int .i64 ((i : Nat) : Int))]) ⟨rfl, rfl, rfl, rfl, rfl, trivial⟩ ?_)
    refine CX.region ?_
    refine RX.cons rfl rfl (op_w (yw_move rfl rfl) rfl rfl ?_)
    refine RX.cons rfl rfl (op_callP [.row A1 c1 5 1 (List.map u8c b1), .blk gb (.cells (#[p1, .slice A1 (List.length (b1 : List UInt8)) c1]) 91 (0, 0))] [] rfl rfl rfl rfl rfl ent_59 ((perm_pick 0 rfl).trans (List.Perm.cons _ ((perm_pick 0 rfl).trans (List.Perm.cons _ (List.Perm.refl _))))) (σ := Option Addr × Nat) (val := fun _ => .tuple #[.int .i64 ((ByteArray.size (⟨List.toArray (encI n0.toNat)⟩) : Nat) : Int), .nilIface]) (LL := fun z => [.row z.1 z.2 5 1 (List.map u8c (b1 ++ encI n0.toNat)), .blk gb (.cells #[.pointer (some ⟨gb, 0, none⟩), .slice z.1 (List.length ((b1 ++ encI n0.toNat) : List UInt8)) z.2] 91 (0, 0))]) (post := fun z => A1 = none → ByteArray.size (⟨List.toArray (encI n0.toNat)⟩) = 0 → z.1 = none) (fun w hw hs => w_write b1 (⟨List.toArray (encI n0.toNat)⟩) hp (by show b1.length + (encI n0.toNat).toArray.size ≤ _; simp; omega) hs) (fun zw hzw => ?_))
    refine RX.nil (XX.inBlock (V' := [(1, .pointer (some ⟨gb, 0, none⟩)), (7, .slice B ns.length capb), (8, .int .i64 ((ns.length : Nat) : Int)), (9, .int .i64 ((i : Nat) : Int))]) ⟨rfl, rfl, rfl, rfl, trivial⟩ ?_)
    refine XX.next (V' := [(1, .pointer (some ⟨gb, 0, none⟩)), (7, .slice B ns.length capb), (8, .int .i64 ((ns.length : Nat) : Int)), (9, .int .i64 ((i : Nat) : Int))]) ⟨rfl, rfl, rfl, rfl, trivial⟩ ?_
    refine CX.region ?_
    refine RX.cons rfl rfl (op_w (yw_add rfl rfl rfl (by omega) (by omega)) rfl rfl ?_)
    refine RX.cons rfl rfl (op_w (yw_move rfl rfl) rfl rfl ?_)
    refine RX.nil (XX.againP ([]) (i + 1, zw, .pointer (some ⟨gb, 0, none⟩), b1 ++ encI n0.toNat) (by dsimp only; omega) ⟨by dsimp only; omega, .inr rfl, by dsimp only; rw [hb1, take_succ hn0, putL_snoc, List.append_assoc]⟩ ⟨rfl, rfl, rfl, rfl, trivial⟩ ((perm_pick 0 rfl).trans (List.Perm.cons _ ((perm_pick 0 rfl).trans (List.Perm.cons _ (List.Perm.refl _))))))
  · have hb2 : b1 = bs ++ putL ns := by rw [hb1, List.take_of_length_le (by omega)]
    refine CX.exit ?_
    refine XX.then_exit ?_
    refine XX.then_exit ?_
    refine XX.block_exit ?_
    exact end_none rfl fun w1 hw => ⟨((A1, c1), p1), hp, rfl, by rw [← hb2]; exact hw⟩

end Go.Proofs.YtnadipjlhlbfoaaDoor
namespace Go.Proofs.YtnadipjlhlbfoaaDoor
set_option linter.all false
open Go Go.RowKit
set_option maxRecDepth 100000
theorem agg_34 : AggT Tryd.prog 34 3 := ⟨_, _, Tryd.underlying34, rfl, (by kernel_rfl : Tryd.prog.info? 34 = some (Tryd.prog.info? 34).get!), by kernel_rfl⟩
theorem ent_56 : ∀ args w, (callFunc 56 args).run Tryd.prog w = .ok (.enter 56 args) w := enters_of Tryd.func56 (by kernel_rfl) rfl
theorem ent_57 : ∀ args w, (callFunc 57 args).run Tryd.prog w = .ok (.enter 57 args) w := enters_of Tryd.func57 (by kernel_rfl) rfl
/-- What Encode answers. -/
def encR (s : Stm) : Value := if okS s = true then .tuple #[.string ⟨(encL s).toArray⟩, .int .i64 0] else .tuple #[.string .empty, .int .i64 190]
theorem encR_ok {s : Stm} (h : okS s = true) : encR s = .tuple #[.string ⟨(encL s).toArray⟩, .int .i64 0] := if_pos h
theorem encR_bad {s : Stm} (h : okS s = false) : encR s = .tuple #[.string .empty, .int .i64 190] := if_neg (by rw [h]; decide)
set_option maxRecDepth 100000 in
theorem w_encode {w : World} {A : Option Addr} {cap : Nat} (s : Stm) (hr : Rd w A 3 (s.ls.map lnC)) (hl : s.ls.length ≤ 1000000) :
    Calls Tryd.prog 32 #[.agg (#[.int .i64 (Stm.h s), .int .i64 (Stm.c s), .slice A (List.length (Stm.ls s)) cap])] w (fun e w' => e = .returned (encR s) ∧ SL w [] w' []) := by
  refine calls_of_CX (O := []) (L := []) (args := [.agg (#[.int .i64 (Stm.h s), .int .i64 (Stm.c s), .slice A (List.length (Stm.ls s)) cap])]) Tryd.func32 rfl (by simp [Tryd.ntmps32]) (SL.refl w) ?_
  refine CX.sub (V' := [(0, .agg (#[.int .i64 (Stm.h s), .int .i64 (Stm.c s), .slice A (List.length (Stm.ls s)) cap]))]) ⟨rfl, trivial⟩ ?_
  refine CX.seq ?_
  refine CX.region ?_
  refine RX.cons rfl rfl (op_box rfl rfl rfl rfl fun gs => ?_)
  refine RX.cons rfl rfl (op_w (yw_assign rfl rfl) rfl rfl ?_)
  refine RX.cons rfl rfl (op_w (yw_assign rfl rfl) rfl rfl ?_)
  refine RX.nil (XX.next (V' := [(1, .pointer (some ⟨gs, 0, none⟩))]) ⟨rfl, trivial⟩ ?_)
  refine CX.seq ?_
  refine CX.seq ?_
  refine CX.region ?_
  refine RX.cons rfl rfl (op_yld (y_loadA (i := 0) rfl rfl agg_34 rfl rfl) rfl rfl ?_)
  refine RX.cons rfl rfl (op_callV (v := .bool (okS s)) rfl rfl rfl rfl rfl ent_56 (fun w hw => w_valid s (hw.rd hr (by simp)) hl) ?_)
  refine RX.cons rfl rfl (op_w (yw_not rfl rfl) rfl rfl ?_)
  refine RX.nil (XX.next (V' := [(1, .pointer (some ⟨gs, 0, none⟩)), (10, .bool (!(okS s)))]) ⟨rfl, rfl, trivial⟩ ?_)
  refine CX.cond (b := !(okS s)) rfl (fun c10 => ?_) (fun c10 => ?_)
  · refine CX.seq ?_
    refine CX.region ?_
    refine RX.cons rfl rfl (op_w (yw_assign rfl rfl) rfl rfl ?_)
    refine RX.cons rfl rfl (op_w (yw_assign rfl rfl) rfl rfl ?_)
    refine RX.nil (XX.next (V' := [(2, .string .empty), (3, .int .i64 190)]) ⟨rfl, rfl, trivial⟩ ?_)
    refine CX.ret ?_
    refine XX.then_ret ?_
    exact ret_tmp2 rfl rfl rfl fun w1 hw => ⟨by rw [encR_bad (by simpa using c10)], hw.sub (List.nil_sublist _)⟩
  · refine CX.skip (XX.next (V' := [(1, .pointer (some ⟨gs, 0, none⟩))]) ⟨rfl, trivial⟩ ?_)
    refine CX.seq ?_
    refine CX.region ?_
    refine RX.cons rfl rfl (op_alloc rfl rfl rfl zero_91 fun gb => ?_)
    refine RX.nil (XX.next (V' := [(1, .pointer (some ⟨gs, 0, none⟩)), (4, .pointer (some ⟨gb, 0, none⟩))]) ⟨rfl, rfl, trivial⟩ ?_)
    refine CX.seq ?_
    have hok : okS s = true := by simpa using c10
    obtain ⟨hoL, ho1, ho2, ho3, ho4, ho5⟩ := okS_parts hok
    have hall := okL_all hoL
    refine CX.rowNil 5 1 ?_
    refine CX.region ?_
    refine RX.cons rfl rfl (op_w (yw_makeFunc rfl rfl rfl) rfl rfl ?_)
    refine RX.cons rfl rfl (op_w (yw_assign rfl rfl) rfl rfl ?_)
    refine RX.nil (XX.next (V' := [(1, .pointer (some ⟨gs, 0, none⟩)), (4, .pointer (some ⟨gb, 0, none⟩)), (5, .func (.func 57) #[] #[.pointer (some ⟨gb, 0, none⟩)])]) ⟨rfl, rfl, rfl, trivial⟩ ?_)
    refine CX.seq ?_
    refine CX.region ?_
    refine RX.cons rfl rfl (op_w (yw_move rfl rfl) rfl rfl ?_)
    refine RX.cons rfl rfl (op_w (yw_field0 rfl fld_34_0 rfl) rfl rfl ?_)
    refine RX.cons rfl rfl (op_yld (y_load (i := 2) rfl rfl one_3 rfl rfl) rfl rfl ?_)
    refine RX.cons rfl rfl (op_w (yw_fieldAddr rfl fld_34_1 rfl) rfl rfl ?_)
    refine RX.cons rfl rfl (op_yld (y_load (i := 2) rfl rfl one_3 rfl rfl) rfl rfl ?_)
    refine RX.cons rfl rfl (op_w (yw_fieldAddr rfl fld_34_2 rfl) rfl rfl ?_)
    refine RX.cons rfl rfl (op_yld (y_load (i := 2) rfl rfl one_32 rfl rfl) rfl rfl ?_)
    refine RX.cons rfl rfl (op_w (yw_lenS rfl Tryd.underlying32 rfl) rfl rfl ?_)
    refine RX.cons rfl rfl (op_buildSlice rfl rfl rfl slb_71 rfl rfl (by intro v hv; simp only [List.mem_cons, List.not_mem_nil, or_false] at hv; rcases hv with rfl | rfl | rfl <;> exact ⟨rfl, (plain_of rfl)⟩) (by decide) fun g8 => ?_)
    refine RX.cons rfl rfl (op_callP [.row none 0 5 1 (List.map u8c ([])), .blk gb (.cells (#[.pointer none, .slice none 0 0]) 91 (0, 0))] [.row (some ⟨g8, 0, none⟩) 3 3 1 (List.map iC ([Stm.h s, Stm.c s, ((List.length (Stm.ls s) : Nat) : Int)])), .blk gs (.cells (#[.int .i64 (Stm.h s), .int .i64 (Stm.c s), .slice A (List.length (Stm.ls s)) cap]) 34 (0, 0))] rfl rfl rfl rfl rfl ent_57 ((perm_pick 1 rfl).trans (List.Perm.cons _ ((perm_pick 1 rfl).trans (List.Perm.cons _ (List.Perm.refl _))))) (σ := (Option Addr × Nat) × Value) (val := fun _ => .tuple #[]) (LL := fun z => [.row z.1.1 z.1.2 5 1 (List.map u8c ([] ++ putL ([Stm.h s, Stm.c s, ((List.length (Stm.ls s) : Nat) : Int)]))), .blk gb (.cells #[z.2, .slice z.1.1 (List.length (([] ++ putL ([Stm.h s, Stm.c s, ((List.length (Stm.ls s) : Nat) : Int)])) : List UInt8)) z.1.2] 91 (0, 0))]) (post := fun z => z.2 = .pointer none ∨ z.2 = .pointer (some ⟨gb, 0, none⟩)) (fun w hw hs => w_put (gb := gb) (A := none) (cap := 0) ([]) ([Stm.h s, Stm.c s, ((List.length (Stm.ls s) : Nat) : Int)]) (Ent.rd (hw.ents _ (List.mem_of_getElem? (i := 2) rfl))) (SL.apart hw 0 rfl (by simp [Ent.blocks, ab])) (by intro n hn; simp only [List.mem_cons, List.not_mem_nil, or_false] at hn; rcases hn with rfl | rfl | rfl <;> omega) (by simp) (by simp) (.inl rfl) hs) (fun zp hzp => ?_))
    refine RX.nil (XX.next (V' := [(1, .pointer (some ⟨gs, 0, none⟩)), (4, .pointer (some ⟨gb, 0, none⟩)), (5, .func (.func 57) #[] #[.pointer (some ⟨gb, 0, none⟩)])]) ⟨rfl, rfl, rfl, trivial⟩ ?_)
    refine CX.seq ?_
    refine CX.seq ?_
    refine CX.region ?_
    refine RX.cons rfl rfl (op_w (yw_fieldAddr rfl fld_34_2 rfl) rfl rfl ?_)
    refine RX.cons rfl rfl (op_yld (y_load (i := 3) rfl rfl one_32 rfl rfl) rfl rfl ?_)
    refine RX.cons rfl rfl (op_w (yw_lenS rfl Tryd.underlying32 rfl) rfl rfl ?_)
    refine RX.cons rfl rfl (op_w (yw_move rfl rfl) rfl rfl ?_)
    refine RX.nil (XX.next (V' := [(4, .pointer (some ⟨gb, 0, none⟩)), (5, .func (.func 57) #[] #[.pointer (some ⟨gb, 0, none⟩)]), (23, .slice A (List.length (Stm.ls s)) cap), (24, .int .i64 ((List.length (Stm.ls s) : Nat) : Int)), (25, .int .i64 0)]) ⟨rfl, rfl, rfl, rfl, rfl, trivial⟩ ?_)
    refine CX.block ?_
    refine CX.drop (L' := [.row zp.1.1 zp.1.2 5 1 (List.map u8c ([] ++ putL ([Stm.h s, Stm.c s, ((List.length (Stm.ls s) : Nat) : Int)]))), .blk gb (.cells (#[zp.2, .slice zp.1.1 (List.length (([] ++ putL ([Stm.h s, Stm.c s, ((List.length (Stm.ls s) : Nat) : Int)])) : List UInt8)) zp.1.2]) 91 (0, 0)), .blk gs (.cells (#[.int .i64 (Stm.h s), .int .i64 (Stm.c s), .slice A (List.length (Stm.ls s)) cap]) 34 (0, 0))]) (List.Sublist.cons_cons _ (List.Sublist.cons_cons _ (List.Sublist.cons _ (List.Sublist.refl _)))) ?_
    have hb0 : ([] ++ putL [Stm.h s, Stm.c s, ((List.length (Stm.ls s) : Nat) : Int)]).length ≤ 30 := putL_le _
    refine CX.loop (σ := Nat × (Option Addr × Nat) × Value × List UInt8) (fun z => [(4, .pointer (some ⟨gb, 0, none⟩)), (5, .func (.func 57) #[] #[.pointer (some ⟨gb, 0, none⟩)]), (23, .slice A (List.length (Stm.ls s)) cap), (24, .int .i64 ((List.length (Stm.ls s) : Nat) : Int)), (25, .int .i64 ((z.1 : Nat) : Int))]) (fun z => [.row z.2.1.1 z.2.1.2 5 1 (List.map u8c z.2.2.2), .blk gb (.cells (#[z.2.2.1, .slice z.2.1.1 (List.length (z.2.2.2 : List UInt8)) z.2.1.2]) 91 (0, 0)), .blk gs (.cells (#[.int .i64 (Stm.h s), .int .i64 (Stm.c s), .slice A (List.length (Stm.ls s)) cap]) 34 (0, 0))]) (fun z => z.1 ≤ s.ls.length ∧ (z.2.2.1 = .pointer none ∨ z.2.2.1 = .pointer (some ⟨gb, 0, none⟩)) ∧ z.2.2.2 = putL [Stm.h s, Stm.c s, ((List.length (Stm.ls s) : Nat) : Int)] ++ putL (numsL (s.ls.take z.1))) (fun z => s.ls.length - z.1) (0, zp.1, zp.2, [] ++ putL [Stm.h s, Stm.c s, ((List.length (Stm.ls s) : Nat) : Int)]) ⟨Nat.zero_le _, hzp, by simp [putL, numsL]⟩ ⟨rfl, rfl, rfl, rfl, rfl, trivial⟩ rfl (fun z hI => ?_)
    obtain ⟨i, ⟨A1, c1⟩, p1, b1⟩ := z
    dsimp only at hI ⊢
    obtain ⟨hi, hp, hb1⟩ := hI
    refine CX.seq ?_
    refine CX.region ?_
    refine RX.cons rfl rfl (op_w (yw_lss rfl rfl rfl) rfl rfl ?_)
    refine RX.nil (XX.next (V' := [(4, .pointer (some ⟨gb, 0, none⟩)), (5, .func (.func 57) #[] #[.pointer (some ⟨gb, 0, none⟩)]), (23, .slice A (List.length (Stm.ls s)) cap), (24, .int .i64 ((List.length (Stm.ls s) : Nat) : Int)), (25, .int .i64 ((i : Nat) : Int)), (26, .bool (decide (((i : Nat) : Int) < ((List.length (Stm.ls s) : Nat) : Int))))]) ⟨rfl, rfl, rfl, rfl, rfl, rfl, trivial⟩ ?_)
    refine CX.seq ?_
    refine CX.condD (p := ((i : Nat) : Int) < ((List.length (Stm.ls s) : Nat) : Int)) rfl (fun c26 => ?_) (fun c26 => ?_)
    · obtain ⟨x0, hx0⟩ := get_some (l := s.ls) (k := i) (by omega)
      have hA : ∃ b j, A = some ⟨b, j, none⟩ := hr.some (k := 0) (by simp; omega)
      obtain ⟨hx1, hx2, hx3, hx4, _⟩ := hall x0 (List.mem_of_getElem? hx0)
      have hl1 := putL_le [Stm.h s, Stm.c s, ((List.length (Stm.ls s) : Nat) : Int)]
      have hl2 := putL_le (numsL (s.ls.take i))
      rw [numsL_length, List.length_take] at hl2
      have hl3 : b1.length = (putL [Stm.h s, Stm.c s, ((List.length (Stm.ls s) : Nat) : Int)]).length + (putL (numsL (s.ls.take i))).length := by rw [hb1, List.length_append]
      simp only [List.length_cons, List.length_nil] at hl1
      refine CX.skip (XX.next (V' := [(4, .pointer (some ⟨gb, 0, none⟩)), (5, .func (.func 57) #[] #[.pointer (some ⟨gb, 0, none⟩)]), (23, .slice A (List.length (Stm.ls s)) cap), (24, .int .i64 ((List.length (Stm.ls s) : Nat) : Int)), (25, .int .i64 ((i : Nat) : Int))]) ⟨rfl, rfl, rfl, rfl, rfl, trivial⟩ ?_)
      refine CX.seq ?_
      refine CX.block ?_
      refine CX.seq ?_
      refine CX.region ?_
      refine RX.cons rfl rfl (op_w (yw_index (k := i) rfl slt_32 rfl rfl (by omega) (by omega) hA) rfl rfl ?_)
      refine RX.cons rfl rfl (op_yld (y_elem rfl rfl agg_57 hr (by simp) (map_get hx0)) rfl rfl ?_)
      refine RX.cons rfl rfl (op_alloc rfl rfl rfl zero_57 fun gl => ?_)
      refine RX.cons rfl rfl (op_storeAll (i := 0) rfl rfl rfl rfl szt_57 rfl (plain_of rfl) rfl rfl ?_)
      refine RX.nil (XX.next (V' := [(4, .pointer (some ⟨gb, 0, none⟩)), (5, .func (.func 57) #[] #[.pointer (some ⟨gb, 0, none⟩)]), (7, .pointer (some ⟨gl, 0, none⟩)), (23, .slice A (List.length (Stm.ls s)) cap), (24, .int .i64 ((List.length (Stm.ls s) : Nat) : Int)), (25, .int .i64 ((i : Nat) : Int))]) ⟨rfl, rfl, rfl, rfl, rfl, rfl, trivial⟩ ?_)
      refine CX.region ?_
      refine RX.cons rfl rfl (op_w (yw_move rfl rfl) rfl rfl ?_)
      refine RX.cons rfl rfl (op_w (yw_field0 rfl fld_57_0 rfl) rfl rfl ?_)
      refine RX.cons rfl rfl (op_yld (y_load (i := 0) rfl rfl one_3 rfl rfl) rfl rfl ?_)
      refine RX.cons rfl rfl (op_w (yw_fieldAddr rfl fld_57_1 rfl) rfl rfl ?_)
      refine RX.cons rfl rfl (op_yld (y_load (i := 0) rfl rfl one_3 rfl rfl) rfl rfl ?_)
      refine RX.cons rfl rfl (op_w (yw_fieldAddr rfl fld_57_2 rfl) rfl rfl ?_)
      refine RX.cons rfl rfl (op_yld (y_load (i := 0) rfl rfl one_3 rfl rfl) rfl rfl ?_)
      refine RX.cons rfl rfl (op_buildSlice rfl rfl rfl slb_71 rfl rfl (by intro v hv; simp only [List.mem_cons, List.not_mem_nil, or_false] at hv; rcases hv with rfl | rfl | rfl <;> exact ⟨rfl, (plain_of rfl)⟩) (by decide) fun g9 => ?_)
      refine RX.cons rfl rfl (op_callP [.row A1 c1 5 1 (List.map u8c b1), .blk gb (.cells (#[p1, .slice A1 (List.length (b1 : List UInt8)) c1]) 91 (0, 0))] [.row (some ⟨g9, 0, none⟩) 3 3 1 (List.map iC ([Ln.p x0, Ln.b x0, Ln.a x0])), .blk gl (.cells (lnC x0) 57 (0, 0)), .blk gs (.cells (#[.int .i64 (Stm.h s), .int .i64 (Stm.c s), .slice A (List.length (Stm.ls s)) cap]) 34 (0, 0))] rfl rfl rfl rfl rfl ent_57 ((perm_pick 2 rfl).trans (List.Perm.cons _ ((perm_pick 2 rfl).trans (List.Perm.cons _ (List.Perm.refl _))))) (σ := (Option Addr × Nat) × Value) (val := fun _ => .tuple #[]) (LL := fun z => [.row z.1.1 z.1.2 5 1 (List.map u8c (b1 ++ putL ([Ln.p x0, Ln.b x0, Ln.a x0]))), .blk gb (.cells #[z.2, .slice z.1.1 (List.length ((b1 ++ putL ([Ln.p x0, Ln.b x0, Ln.a x0])) : List UInt8)) z.1.2] 91 (0, 0))]) (post := fun z => z.2 = .pointer none ∨ z.2 = .pointer (some ⟨gb, 0, none⟩)) (fun w hw hs => w_put (gb := gb) (A := A1) (cap := c1) b1 ([Ln.p x0, Ln.b x0, Ln.a x0]) (Ent.rd (hw.ents _ (List.mem_of_getElem? (i := 2) rfl))) (SL.apart hw 0 rfl (by simp [Ent.blocks, ab])) (by intro n hn; simp only [List.mem_cons, List.not_mem_nil, or_false] at hn; rcases hn with rfl | rfl | rfl <;> omega) (by simp) (by omega) hp hs) (fun zq hzq => ?_))
      refine RX.nil (XX.inBlock (V' := [(4, .pointer (some ⟨gb, 0, none⟩)), (5, .func (.func 57) #[] #[.pointer (some ⟨gb, 0, none⟩)]), (23, .slice A (List.length (Stm.ls s)) cap), (24, .int .i64 ((List.length (Stm.ls s) : Nat) : Int)), (25, .int .i64 ((i : Nat) : Int))]) ⟨rfl, rfl, rfl, rfl, rfl, trivial⟩ ?_)
      refine XX.next (V' := [(4, .pointer (some ⟨gb, 0, none⟩)), (5, .func (.func 57) #[] #[.pointer (some ⟨gb, 0, none⟩)]), (23, .slice A (List.length (Stm.ls s)) cap), (24, .int .i64 ((List.length (Stm.ls s) : Nat) : Int)), (25, .int .i64 ((i : Nat) : Int))]) ⟨rfl, rfl, rfl, rfl, rfl, trivial⟩ ?_
      refine CX.region ?_
      refine RX.cons rfl rfl (op_w (yw_add rfl rfl rfl (by omega) (by omega)) rfl rfl ?_)
      refine RX.cons rfl rfl (op_w (yw_move rfl rfl) rfl rfl ?_)
      refine RX.nil (XX.againP ([.row (some ⟨g9, 0, none⟩) 3 3 1 (List.map iC ([Ln.p x0, Ln.b x0, Ln.a x0])), .blk gl (.cells (lnC x0) 57 (0, 0))]) (i + 1, zq.1, zq.2, b1 ++ putL [Ln.p x0, Ln.b x0, Ln.a x0]) (by dsimp only; omega) ⟨by dsimp only; omega, hzq, by dsimp only; rw [hb1, numsL_succ hx0, putL_append, List.append_assoc]⟩ ⟨rfl, rfl, rfl, rfl, rfl, trivial⟩ ((perm_pick 0 rfl).trans (List.Perm.cons _ ((perm_pick 0 rfl).trans (List.Perm.cons _ ((perm_pick 2 rfl).trans (List.Perm.cons _ (List.Perm.refl _))))))))
    · have hbe : b1 = encL s := by rw [hb1, List.take_of_length_le (by omega)]; rfl
      have hne : b1 ≠ [] := by
        intro e
        have := encI_pos s.h.toNat
        have h2 := congrArg List.length (hbe.symm.trans e)
        simp only [encL, putL, List.flatMap_cons, List.length_append, List.length_nil] at h2
        omega
      refine CX.exit ?_
      refine XX.then_exit ?_
      refine XX.then_exit ?_
      refine XX.block_exit ?_
      refine XX.next (V' := [(4, .pointer (some ⟨gb, 0, none⟩))]) ⟨rfl, trivial⟩ ?_
      refine CX.seq ?_
      refine CX.region ?_
      refine RX.cons rfl rfl (op_callP [.row A1 c1 5 1 (List.map u8c b1), .blk gb (.cells (#[p1, .slice A1 (List.length (b1 : List UInt8)) c1]) 91 (0, 0))] [.blk gs (.cells (#[.int .i64 (Stm.h s), .int .i64 (Stm.c s), .slice A (List.length (Stm.ls s)) cap]) 34 (0, 0))] rfl rfl rfl rfl rfl ent_60 ((perm_pick 0 rfl).trans (List.Perm.cons _ ((perm_pick 0 rfl).trans (List.Perm.cons _ (List.Perm.refl _))))) (σ := Unit) (val := fun _ => .string ⟨List.toArray b1⟩) (LL := fun _ => [.blk gb (.cells #[p1, .slice A1 (List.length (b1 : List UInt8)) c1] 91 (0, 0))]) (post := fun _ => True) (fun w hw hs => (w_str b1 (fun h => absurd h hne) hs).mono fun e w' h => ⟨(), trivial, h⟩) (fun _ _ => ?_))
      refine RX.cons rfl rfl (op_w (yw_assign rfl rfl) rfl rfl ?_)
      refine RX.cons rfl rfl (op_w (yw_assign rfl rfl) rfl rfl ?_)
      refine RX.nil (XX.next (V' := [(2, .string (⟨List.toArray b1⟩)), (3, .int .i64 0)]) ⟨rfl, rfl, trivial⟩ ?_)
      refine CX.ret ?_
      exact ret_tmp2 rfl rfl rfl fun w1 hw => ⟨by rw [encR_ok hok, ← hbe], hw.sub (List.nil_sublist _)⟩

end Go.Proofs.YtnadipjlhlbfoaaDoor
namespace Go.Proofs.YtnadipjlhlbfoaaDoor
set_option linter.all false
open Go Go.RowKit
def packB : List Ent → List Nat
  | [] => []
  | e :: es => e.blocks ++ packB es
theorem packB_eq (es : List Ent) : packB es = es.flatMap Ent.blocks := by
  induction es with
  | nil => rfl
  | cons e es ih => rw [List.flatMap_cons, ← ih]; rfl
/-- Entries packed into one. -/
def pack (es : List Ent) : Ent :=
  .gen (es.flatMap Ent.blocks) (fun w => ∀ e ∈ es, e.sat w)
    (fun w h b hb => by
      obtain ⟨e, he, hbe⟩ := List.mem_flatMap.1 hb
      exact Ent.lt (h e he) hbe)
    (fun w w' h hk e he => Ent.keep (h e he) (fun b hb => hk b (List.mem_flatMap.2 ⟨e, he, hb⟩)))
theorem pack_blocks (es : List Ent) : (pack es).blocks = es.flatMap Ent.blocks := rfl
section
variable {P : Program} {w0 : World} {O : List Nat} {n : Nat} {D : List Deferred} {o : Oper} {V : List (Nat × Value)} {L : List Ent} {T : List (Nat × Value) → List Ent → Prop} {Q : Exit → Act → World → Prop} {c : Code} {r : Option Nat}
theorem SL.pack {w : World} {es : List Ent} (h : SL w0 O w (es ++ L)) : SL w0 O w (pack es :: L) := by
  refine ⟨h.os, h.tape, h.output, h.size, h.same, ?_, ?_, ?_⟩
  · intro p hp
    rcases List.mem_cons.1 hp with rfl | hp
    · exact fun e he => h.ents e (List.mem_append_left _ he)
    · exact h.ents p (List.mem_append_right _ hp)
  · have := h.nodup
    rw [List.flatMap_append] at this
    rw [List.flatMap_cons, pack_blocks]
    exact this
  · intro p hp b hb
    rcases List.mem_cons.1 hp with rfl | hp
    · rw [pack_blocks] at hb
      obtain ⟨e, he, hbe⟩ := List.mem_flatMap.1 hb
      exact h.own e (List.mem_append_left _ he) b hbe
    · exact h.own p (List.mem_append_right _ hp) b hb
theorem SL.unpack {w : World} {es : List Ent} (h : SL w0 O w (Go.Proofs.YtnadipjlhlbfoaaDoor.pack es :: L)) : SL w0 O w (es ++ L) := by
  refine ⟨h.os, h.tape, h.output, h.size, h.same, ?_, ?_, ?_⟩
  · intro p hp
    rcases List.mem_append.1 hp with hp | hp
    · exact h.ents (Go.Proofs.YtnadipjlhlbfoaaDoor.pack es) List.mem_cons_self p hp
    · exact h.ents p (List.mem_cons_of_mem _ hp)
  · have := h.nodup
    rw [List.flatMap_cons, pack_blocks] at this
    rw [List.flatMap_append]
    exact this
  · intro p hp b hb
    rcases List.mem_append.1 hp with hp | hp
    · exact h.own (Go.Proofs.YtnadipjlhlbfoaaDoor.pack es) List.mem_cons_self b (List.mem_flatMap.2 ⟨p, hp, hb⟩)
    · exact h.own p (List.mem_cons_of_mem _ hp) b hb
/-- An entry more in a pack. -/
theorem SL.packMore {w : World} {es : List Ent} {e : Ent} (h : SL w0 O w (e :: Go.Proofs.YtnadipjlhlbfoaaDoor.pack es :: L)) : SL w0 O w (Go.Proofs.YtnadipjlhlbfoaaDoor.pack (es ++ [e]) :: L) := by
  have h1 : SL w0 O w (Go.Proofs.YtnadipjlhlbfoaaDoor.pack es :: e :: L) := h.perm (List.Perm.swap _ _ _)
  have h2 := h1.unpack
  have h3 : SL w0 O w ((es ++ [e]) ++ L) := by rw [List.append_assoc]; exact h2
  exact h3.pack
theorem SL.packNil {w : World} (h : SL w0 O w L) : SL w0 O w (Go.Proofs.YtnadipjlhlbfoaaDoor.pack [] :: L) := SL.pack (es := []) h
theorem SL.packRd {w : World} (h : SL w0 O w L) {i : Nat} {es : List Ent} (hL : L[i]? = some (Go.Proofs.YtnadipjlhlbfoaaDoor.pack es)) {A : Option Addr} {cap : Nat} {e : TypeId} {sz : Nat} {xs : List (Array Value)} (he : Ent.row A cap e sz xs ∈ es) : Rd w A sz xs :=
  Ent.rd ((h.ents _ (List.mem_of_getElem? hL) : ∀ e ∈ es, e.sat w) _ he)
theorem CX.packNil (h : CX P r Q w0 O n D c V (pack [] :: L)) : CX P r Q w0 O n D c V L := fun a w ha hw => h a w ha hw.packNil
/-- Entry i goes into the pack j. -/
theorem CX.packMore {L' : List Ent} {e : Ent} {es : List Ent} (hL : L.Perm (e :: pack es :: L')) (h : CX P r Q w0 O n D c V (pack (es ++ [e]) :: L')) : CX P r Q w0 O n D c V L := fun a w ha hw => h a w ha (SL.packMore (hw.perm hL))
theorem CX.packMoreE {L' : List Ent} {e : Ent} {es es' : List Ent} (he : es' = es ++ [e]) (hL : L.Perm (e :: pack es :: L')) (h : CX P r Q w0 O n D c V (pack es' :: L')) : CX P r Q w0 O n D c V L := by
  subst he
  exact CX.packMore hL h
end
end Go.Proofs.YtnadipjlhlbfoaaDoor
namespace Go.Proofs.YtnadipjlhlbfoaaDoor
set_option linter.all false
open Go Go.RowKit
theorem made_flat {z : Array Value} {sz : Nat} (hz : z.size = sz) (h0 : 0 < sz) : ∀ n : Nat, (madeCells z (n * sz)).toList = flat (List.replicate n z) := by
  intro n
  apply List.ext_getElem?
  intro q
  have hlen : (flat (List.replicate n z)).length = n * sz := by
    rw [flat_length (sz := sz) (fun c hc => by rw [(List.mem_replicate.1 hc).2]; exact hz), List.length_replicate]
  by_cases hq : q < n * sz
  · have hk : q / sz < n := Nat.div_lt_of_lt_mul (by rw [Nat.mul_comm]; exact hq)
    have hr : q % sz < sz := Nat.mod_lt _ h0
    have hqe : q = q / sz * sz + q % sz := by rw [Nat.mul_comm]; exact (Nat.div_add_mod q sz).symm
    have h1 := flat_get (xs := List.replicate n z) (sz := sz) (k := q / sz) (j := q % sz) (c := z) (fun c hc => by rw [(List.mem_replicate.1 hc).2]; exact hz) (by rw [List.getElem?_replicate, if_pos hk]) hr
    rw [← hqe] at h1
    rw [h1]
    have h2 : q < (madeCells z (n * sz)).size := by rw [size_madeCells]; exact hq
    rw [Array.getElem?_toList, Array.getElem?_eq_getElem h2]
    simp [madeCells, hz]
    rw [Array.getElem?_eq_getElem (by omega), getElem!_pos z _ (by omega)]
  · rw [List.getElem?_eq_none (l := (madeCells z (n * sz)).toList) (by rw [Array.length_toList, size_madeCells]; omega), List.getElem?_eq_none (by rw [hlen]; omega)]
section
variable {P : Program} {w0 : World} {O : List Nat} {n : Nat} {D : List Deferred} {o : Oper} {V : List (Nat × Value)} {L : List Ent} {T : List (Nat × Value) → List Ent → Prop}
theorem op_makeSlice {t e : TypeId} {x y : Operand} {d sz bytes m : Nat} {z : Value} {q1 q2 : Int} (ho : o.op = .makeSlice t x y) (hd : o.dst = some d) (hdn : Nat.blt d n = true) (ht : SlB P t e sz bytes z) (hx : ev V x = some (.int .i64 q1)) (hy : ev V y = some (.int .i64 q2)) (h1 : q1 = (m : Int)) (h2 : q2 = (m : Int)) (hp : ∀ u ∈ z.cells.toList, u.oneCell' = true)
    (hb : bytes * m ≤ 281474976710656) (hm : m ≤ 281474976710656)
    (hT : ∀ g, T ((d, .slice (some ⟨g, 0, none⟩) m m) :: V) (.row (some ⟨g, 0, none⟩) m e sz (List.replicate m z.cells) :: L)) : OpS P w0 O n D o V L T := by
  intro a w ha hw
  subst h1; subst h2
  obtain ⟨i, hi, hz, hsz, hbb⟩ := ht.info
  have hr0 := run_make (P := P) w t e i z ht.under hi hz .i64 .i64 (m : Int) (m : Int) (by omega) (by omega) (by rw [hbb, ← Int.natCast_mul]; omega) (by omega)
  rw [hsz] at hr0
  simp only [Int.toNat_natCast] at hr0
  have hr : (execOp a.eval o).run P w = .ok (.value (.slice (some ⟨w.heap.size, 0, none⟩) m m)) (w.alloc (.cells (madeCells z.cells (m * sz)) e)) := by
    simp only [execOp, ho, ha.eval hx, ha.eval hy, Sem.run_bind, hr0, Result.andThen_ok, Sem.run_pure]
  unfold Does
  rw [hr, hd]
  refine ⟨_, _, hT w.heap.size, ha.put hdn _, ?_⟩
  have hall := hw.alloc (.cells (madeCells z.cells (m * sz)) e)
  have hfl := made_flat ht.zs ht.pos m
  have := hall.set (A := []) (R := L) (w' := w.alloc (.cells (madeCells z.cells (m * sz)) e)) (p := .blk w.heap.size (.cells (madeCells z.cells (m * sz)) e)) (p' := .row (some ⟨w.heap.size, 0, none⟩) m e sz (List.replicate m z.cells)) rfl rfl rfl rfl (Nat.le_refl _)
    ⟨⟨by rw [flat_length (sz := sz) (fun c hc => by rw [(List.mem_replicate.1 hc).2]; exact ht.zs)], .inr ⟨w.heap.size, m, _, by simp, Nat.zero_le _, heap_alloc_new w _, by simp, by unfold maxLen; omega, by rw [size_madeCells], by rw [List.length_replicate, hfl]; exact List.take_of_length_le (by rw [flat_length (sz := sz) (fun c hc => by rw [(List.mem_replicate.1 hc).2]; exact ht.zs), List.length_replicate]; exact Nat.le_refl _)⟩⟩, fun c hc => by rw [(List.mem_replicate.1 hc).2]; exact ⟨ht.zs, hp⟩⟩
    (by simp [Ent.blocks]) (fun b hb => .inl (by simpa [Ent.blocks] using hb)) (fun _ _ _ => rfl)
  simpa using this
theorem run_copy_rd {w : World} {t ty e : TypeId} {sz bytes : Nat} {z : Value} (ht : SlB P t e sz bytes z) {g cap : Nat} {ds : List (Array Value)} (hrow : (Ent.row (some ⟨g, 0, none⟩) cap e sz ds).sat w) {B : Option Addr} {c : Nat} {xs : List (Array Value)} (hB : Rd w B sz xs) (hl : xs.length = ds.length) :
    ∃ w', (Builtin.copy_ #[t, t] ty #[.slice (some ⟨g, 0, none⟩) ds.length cap, .slice B xs.length c]).run P w = .ok (.int .i64 ((xs.length : Nat) : Int)) w' ∧ (Ent.row (some ⟨g, 0, none⟩) cap e sz xs).sat w' ∧ w.grownBy w' (some g) := by
  obtain ⟨i, hi, hz, hsz, hbb⟩ := ht.info
  obtain ⟨⟨hd1, hd2⟩, hds⟩ := hrow
  rcases hd2 with ⟨hv, _⟩ | ⟨g', cp, cur, hv, hbg, hg, hnc, hcm, hcs, htake⟩
  · cases hv
  injection hv with h1 h2 h3
  injection h1 with h1
  injection h1 with h1
  subst h1; subst h3
  rcases xs with _ | ⟨x, xs⟩
  · obtain rfl := List.eq_nil_of_length_eq_zero hl.symm
    refine ⟨w, ?_, ⟨⟨hd1, .inr ⟨g, cap, cur, rfl, hbg, hg, hnc, hcm, hcs, htake⟩⟩, hds⟩, World.grownBy.refl w _⟩
    cases B with
    | none => simp [Builtin.copy_, run_underlying ht.under, Builtin.lenOf, Builtin.firstCells, sizeOf, typeInfo, hi, storeCells, goInt]
    | some b => simp [Builtin.copy_, run_underlying ht.under, Builtin.lenOf, Builtin.firstCells, sizeOf, typeInfo, hi, storeCells, goInt, loadCells, loadCellsFrom]
  · have hy := fun k c hk => hB.at_ k c hk
    obtain ⟨_, ⟨b, j, rfl⟩, _, _⟩ := hy 0 x (by simp)
    have hxs : ∀ c ∈ (x :: xs), c.size = sz ∧ ∀ u ∈ c.toList, u.oneCell' = true := by
      intro c hc
      obtain ⟨k, hk⟩ := List.mem_iff_getElem?.1 hc
      exact ⟨(hy k c hk).1, (hy k c hk).2.2.2.1⟩
    have hfl := flat_length (fun c hc => (hxs c hc).1)
    have hsrc : ∀ q u, (flat (x :: xs))[q]? = some u → w.cell? ((⟨b, j, none⟩ : Addr).add q) = some u := by
      intro q u hq
      have hqlt : q < (x :: xs).length * sz := by
        have := (List.getElem?_eq_some_iff.1 hq).1
        omega
      have hk : q / sz < (x :: xs).length := Nat.div_lt_of_lt_mul (by rw [Nat.mul_comm]; exact hqlt)
      have hr : q % sz < sz := Nat.mod_lt _ ht.pos
      have hqe : q = q / sz * sz + q % sz := by rw [Nat.mul_comm]; exact (Nat.div_add_mod q sz).symm
      have hget := flat_get (fun c hc => (hxs c hc).1) (List.getElem?_eq_getElem hk) hr
      rw [← hqe] at hget
      obtain ⟨_, _, _, _, hc⟩ := hy (q / sz) _ (List.getElem?_eq_getElem hk)
      have h1 := hc (q % sz) hr
      rw [add_none]
      rw [show ab (some ⟨b, j, none⟩) = b from rfl, show ao (some ⟨b, j, none⟩) = j from rfl, Nat.add_assoc, ← hqe] at h1
      rw [h1, ← hget, hq]
    have hle : (x :: xs).length * sz ≤ cap * sz := Nat.mul_le_mul_right _ (by rw [hl]; exact hnc)
    have hf := run_firstCells_some (P := P) w i.size (x :: xs).length ⟨b, j, none⟩ (x :: xs).length c (flat (x :: xs)) (by rw [hsz]; exact hfl) hsrc
    have hst := run_storeCells_at P g 0 e (flat (x :: xs)) 0 cur w hg (by rw [hcs, hfl]; omega) (fun u hu => by obtain ⟨c, hc, hcu⟩ := mem_flat.1 hu; exact (hxs c hc).2 u hcu)
    simp only [Nat.add_zero] at hst
    refine ⟨w.setRow g (cur.toList.take 0 ++ flat (x :: xs) ++ cur.toList.drop (0 + (flat (x :: xs)).length)).toArray, ?_, ⟨⟨hfl, .inr ⟨g, cap, _, rfl, hbg, setRow_heap w g cur _ e _ hg, by rw [hl]; exact hnc, hcm, ?_, ?_⟩⟩, hxs⟩, ⟨rfl, rfl, rfl, by simp, fun k _ hk => setRow_other w g k _ (fun e => hk (by simp [e]))⟩⟩
    · have hmin : Nat.min (x :: xs).length ds.length = (x :: xs).length := by rw [hl]; exact Nat.min_self _
      simp at hmin hf hst
      have hmin' : Nat.min (xs.length + 1) ds.length = xs.length + 1 := hmin
      simp [Builtin.copy_, run_underlying ht.under, Builtin.lenOf, sizeOf, typeInfo, hi, hmin', hf, hst, goInt]
    · simp only [List.size_toArray, List.length_append, List.length_take, List.length_drop, Array.length_toList, hfl, hcs]
      omega
    · simp only [Nat.zero_add, List.take_zero, List.nil_append]
      rw [← hfl]
      exact List.take_left
/-- copy of all of a slice into one of one's own of the same length. -/
theorem op_copyRd {α : Type} (enc : α → Array Value) {x y : Operand} {t e : TypeId} {d g i m cap c sz bytes : Nat} {z : Value} {ds : List (Array Value)} {B : Option Addr} {xs : List α} (ho : o.op = .call { callee := .builtin .copy, args := #[x, y], argTypes := #[t, t] }) (hd : o.dst = some d) (hdn : Nat.blt d n = true) (ht : SlB P t e sz bytes z)
    (hx : ev V x = some (.slice (some ⟨g, 0, none⟩) m cap)) (hL : L[i]? = some (.row (some ⟨g, 0, none⟩) cap e sz ds)) (hm : ds.length = m) (hy : ev V y = some (.slice B m c)) (hr : ∀ w, SL w0 O w L → Rd w B sz (xs.map enc)) (hl : xs.length = m)
    (hT : T ((d, .int .i64 ((m : Nat) : Int)) :: V) (L.set i (.row (some ⟨g, 0, none⟩) cap e sz (xs.map enc)))) : OpS P w0 O n D o V L T := by
  intro a w ha hw
  subst hm
  have hl' : (xs.map enc).length = ds.length := by rw [List.length_map, hl]
  obtain ⟨w', h1, h2, h3⟩ := run_copy_rd (P := P) (w := w) (ty := o.type) (c := c) ht (hw.ents _ (List.mem_of_getElem? hL)) (hr w hw) hl'
  rw [hl'] at h1
  have hr' : (execOp a.eval o).run P w = .ok (.value (.int .i64 ((ds.length : Nat) : Int))) w' := by
    simp only [execOp, ho, resolve, invoke, builtin, Sem.run_bind, Sem.run_pure, Result.andThen_ok, List.map_toArray, List.map_cons, List.map_nil, ha.eval hx, ha.eval hy, h1]
  unfold Does
  rw [hr', hd]
  refine ⟨_, _, hT, ha.put hdn _, hw.setI hL h3.os h3.tape h3.output h3.size h2 row_blocks_nodup (fun b hb => .inl hb) (fun k hk hkb => h3.block k hk (fun e => hkb ?_))⟩
  injection e with e
  simp [Ent.blocks, e]
end
end Go.Proofs.YtnadipjlhlbfoaaDoor
namespace Go.Proofs.YtnadipjlhlbfoaaDoor
set_option linter.all false
open Go Go.RowKit
set_option maxRecDepth 100000
/-- A statement among others: where its lines lie, and it. -/
abbrev SX := (Option Addr × Nat) × Stm
abbrev stC (x : SX) : Array Value := #[.int .i64 x.2.h, .int .i64 x.2.c, .slice x.1.1 x.2.ls.length x.1.2]
/-- The lines of statements. -/
def lns (X : List SX) : List Ent := X.map fun x => .row x.1.1 x.1.2 57 3 (x.2.ls.map lnC)
theorem lns_snoc (X : List SX) (x : SX) : lns (X ++ [x]) = lns X ++ [.row x.1.1 x.1.2 57 3 (x.2.ls.map lnC)] := by simp [lns]
def zero32 : ByteArray := ⟨(List.replicate 32 0).toArray⟩
theorem zero32_cells : List.replicate 32 (Value.cells (.int .u8 0)) = (List.replicate 32 (0 : UInt8)).map u8c := by rw [List.map_replicate]; rfl
set_option maxRecDepth 100000 in
theorem w_new {w : World} :
    Calls Tryd.prog 11 #[] w (fun e w' => ∃ g : Nat, True ∧ e = .returned (.pointer (some ⟨g, 0, none⟩)) ∧ SL w [] w' [.blk g (.cells #[.slice none 0 0, .slice none 0 0, .string zero32] 64 (0, 0))]) := by
  refine calls_of_CX (O := []) (L := []) (args := []) Tryd.func11 rfl (by simp [Tryd.ntmps11]) (SL.refl w) ?_
  refine CX.sub (V' := []) trivial ?_
  refine CX.seq ?_
  refine CX.region ?_
  refine RX.cons rfl rfl (op_w (yw_assign rfl rfl) rfl rfl ?_)
  refine RX.nil (XX.next (V' := []) trivial ?_)
  refine CX.seq ?_
  refine CX.region ?_
  refine RX.cons rfl rfl (op_makeSlice (m := 32) rfl rfl rfl slb_60 rfl rfl rfl rfl (plain_of rfl) (by decide) (by decide) fun gz => ?_)
  refine RX.know1 0 (q := .row (some ⟨gz, 0, none⟩) 32 5 1 (List.map u8c (List.replicate 32 (0 : UInt8)))) rfl (congrArg (Ent.row (some ⟨gz, 0, none⟩) 32 5 1) zero32_cells) ?_
  refine RX.cons rfl rfl (op_w (yw_assign rfl rfl) rfl rfl ?_)
  refine RX.nil (XX.next (V' := [(1, .slice (some ⟨gz, 0, none⟩) 32 32)]) ⟨rfl, trivial⟩ ?_)
  refine CX.seq ?_
  refine CX.region ?_
  refine RX.cons rfl rfl (op_w (yw_move rfl rfl) rfl rfl ?_)
  refine RX.cons rfl rfl (op_yld (y_bytesRow (i := 0) (l := (List.replicate 32 (0 : UInt8))) rfl rfl Tryd.underlying60 Tryd.underlying5 Tryd.underlying9 rfl (by decide)) rfl rfl ?_)
  refine RX.cons rfl rfl (op_w (yw_build (v := .agg (#[.slice none 0 0, .slice none 0 0, .string (⟨List.toArray (List.replicate 32 (0 : UInt8))⟩)])) rfl rfl (fun _ => by kernel_rfl)) rfl rfl ?_)
  refine RX.cons rfl rfl (op_w (yw_build (v := .agg (#[.slice none 0 0, .slice none 0 0, .string (⟨List.toArray (List.replicate 32 (0 : UInt8))⟩)])) rfl rfl (fun _ => by kernel_rfl)) rfl rfl ?_)
  refine RX.cons rfl rfl (op_box rfl rfl rfl rfl fun gx => ?_)
  refine RX.cons rfl rfl (op_w (yw_assign rfl rfl) rfl rfl ?_)
  refine RX.nil (XX.next (V' := [(0, .pointer (some ⟨gx, 0, none⟩))]) ⟨rfl, trivial⟩ ?_)
  refine CX.ret ?_
  exact ret_tmp rfl rfl fun w1 hw => ⟨gx, trivial, rfl, hw.sub (List.Sublist.cons_cons _ (List.nil_sublist _))⟩

end Go.Proofs.YtnadipjlhlbfoaaDoor
namespace Go.Proofs.YtnadipjlhlbfoaaDoor
set_option linter.all false
open Go Go.RowKit
set_option maxRecDepth 100000
theorem zero_34 : Zero Tryd.prog 34 (.agg (#[.int .i64 0, .int .i64 0, .slice none 0 0])) := ⟨(Tryd.prog.info? 34).get!, by kernel_rfl, by kernel_rfl⟩
theorem slb_32 : SlB Tryd.prog 32 57 3 24 (.agg (#[.int .i64 0, .int .i64 0, .int .i64 0])) := ⟨Tryd.underlying32, ⟨(Tryd.prog.info? 57).get!, by kernel_rfl, by kernel_rfl, by kernel_rfl, by kernel_rfl⟩, by decide, by decide⟩
theorem szt_32 : SzT Tryd.prog 32 1 := ⟨(Tryd.prog.info? 32).get!, by kernel_rfl, by kernel_rfl⟩
theorem szt_34 : SzT Tryd.prog 34 3 := ⟨(Tryd.prog.info? 34).get!, by kernel_rfl, by kernel_rfl⟩
set_option maxRecDepth 100000 in
theorem w_own {w : World} {A : Option Addr} {cap : Nat} (s : Stm) (hr : Rd w A 3 (s.ls.map lnC)) (hl : s.ls.length ≤ 1000000) :
    Calls Tryd.prog 61 #[.agg (#[.int .i64 (Stm.h s), .int .i64 (Stm.c s), .slice A (List.length (Stm.ls s)) cap])] w (fun e w' => ∃ g : Nat, True ∧ e = .returned (.agg (stC ((some ⟨g, 0, none⟩, s.ls.length), s))) ∧ SL w [] w' [.row (some ⟨g, 0, none⟩) s.ls.length 57 3 (List.map lnC s.ls)]) := by
  refine calls_of_CX (O := []) (L := []) (args := [.agg (#[.int .i64 (Stm.h s), .int .i64 (Stm.c s), .slice A (List.length (Stm.ls s)) cap])]) Tryd.func61 rfl (by simp [Tryd.ntmps61]) (SL.refl w) ?_
  refine CX.sub (V' := [(0, .agg (#[.int .i64 (Stm.h s), .int .i64 (Stm.c s), .slice A (List.length (Stm.ls s)) cap]))]) ⟨rfl, trivial⟩ ?_
  refine CX.seq ?_
  refine CX.region ?_
  refine RX.cons rfl rfl (op_box rfl rfl rfl rfl fun gs => ?_)
  refine RX.cons rfl rfl (op_alloc rfl rfl rfl zero_34 fun gr => ?_)
  refine RX.nil (XX.next (V' := [(1, .pointer (some ⟨gs, 0, none⟩)), (2, .pointer (some ⟨gr, 0, none⟩))]) ⟨rfl, rfl, trivial⟩ ?_)
  refine CX.seq ?_
  refine CX.region ?_
  refine RX.cons rfl rfl (op_w (yw_fieldAddr rfl fld_34_2 rfl) rfl rfl ?_)
  refine RX.cons rfl rfl (op_yld (y_load (i := 1) rfl rfl one_32 rfl rfl) rfl rfl ?_)
  refine RX.cons rfl rfl (op_w (yw_lenS rfl Tryd.underlying32 rfl) rfl rfl ?_)
  refine RX.cons rfl rfl (op_makeSlice (m := s.ls.length) rfl rfl rfl slb_32 rfl rfl (by omega) (by omega) (plain_of rfl) (by omega) (by omega) fun gl => ?_)
  refine RX.cons rfl rfl (op_w (yw_assign rfl rfl) rfl rfl ?_)
  refine RX.nil (XX.next (V' := [(1, .pointer (some ⟨gs, 0, none⟩)), (2, .pointer (some ⟨gr, 0, none⟩)), (3, .slice (some ⟨gl, 0, none⟩) s.ls.length s.ls.length)]) ⟨rfl, rfl, rfl, trivial⟩ ?_)
  refine CX.seq ?_
  refine CX.region ?_
  refine RX.cons rfl rfl (op_w (yw_move rfl rfl) rfl rfl ?_)
  refine RX.cons rfl rfl (op_w (yw_fieldAddr rfl fld_34_2 rfl) rfl rfl ?_)
  refine RX.cons rfl rfl (op_yld (y_load (i := 2) rfl rfl one_32 rfl rfl) rfl rfl ?_)
  refine RX.cons rfl rfl (op_copyRd lnC (i := 0) (m := s.ls.length) (xs := s.ls) rfl rfl rfl slb_32 rfl rfl (by simp) rfl (fun w hw => hw.rd hr (by simp)) rfl ?_)
  refine RX.nil (XX.next (V' := [(1, .pointer (some ⟨gs, 0, none⟩)), (2, .pointer (some ⟨gr, 0, none⟩)), (3, .slice (some ⟨gl, 0, none⟩) s.ls.length s.ls.length)]) ⟨rfl, rfl, rfl, trivial⟩ ?_)
  refine CX.seq ?_
  refine CX.region ?_
  refine RX.cons rfl rfl (op_w (yw_move rfl rfl) rfl rfl ?_)
  refine RX.cons rfl rfl (op_w (yw_fieldAddr rfl fld_34_2 rfl) rfl rfl ?_)
  refine RX.cons rfl rfl (op_store1 (i := 2) (cs' := #[.int .i64 (Stm.h s), .int .i64 (Stm.c s), .slice (some ⟨gl, 0, none⟩) s.ls.length s.ls.length]) rfl rfl rfl rfl szt_32 rfl rfl rfl rfl ?_)
  refine RX.nil (XX.next (V' := [(1, .pointer (some ⟨gs, 0, none⟩)), (2, .pointer (some ⟨gr, 0, none⟩))]) ⟨rfl, rfl, trivial⟩ ?_)
  refine CX.seq ?_
  refine CX.region ?_
  refine RX.cons rfl rfl (op_yld (y_loadA (i := 2) rfl rfl agg_34 rfl rfl) rfl rfl ?_)
  refine RX.cons rfl rfl (op_storeAll (i := 1) rfl rfl rfl rfl szt_34 rfl (plain_of rfl) rfl rfl ?_)
  refine RX.nil (XX.next (V' := [(2, .pointer (some ⟨gr, 0, none⟩))]) ⟨rfl, trivial⟩ ?_)
  refine CX.ret ?_
  exact ret_cell (i := 1) rfl rfl agg_34 rfl rfl fun w1 hw => ⟨gl, trivial, rfl, hw.pick ((perm_pick 0 rfl).trans (List.Perm.cons _ (List.Perm.refl _)))⟩

end Go.Proofs.YtnadipjlhlbfoaaDoor
