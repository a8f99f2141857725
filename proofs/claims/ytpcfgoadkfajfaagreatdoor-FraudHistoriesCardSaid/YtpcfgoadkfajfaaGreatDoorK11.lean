/- Numbers as bytes: the plain side of PutInt. Walks, printed by a program. Walks, printed by a program. Walks, printed by a program. Walks, printed by a program. Walks, printed by a program. -/
import Derived.Test.YtpcfgoadkfajfaaGreatDoorK7
import Derived.Test.YtpcfgoadkfajfaaGreatDoorK6
import Derived.Test.YtpcfgoadkfajfaaGreatDoorK10
import Derived.Test.YtpcfgoadkfajfaaGreatDoorK5
import Derived.Test.YtpcfgoadkfajfaaGreatDoorK2
namespace Go.Proofs.YtpcfgoadkfajfaaGreatDoor
set_option linter.all false
open Go Go.RowKit
theorem shr_toNat {n : Nat} (x : BitVec n) (k : Nat) : (x >>> k).toNat = x.toNat / 2 ^ k := by
  rw [BitVec.toNat_ushiftRight, Nat.shiftRight_eq_div_pow]
/-- The groups of seven bits, and whether each is the last. -/
def putW : Nat → BitVec 64 → List (BitVec 8 × Bool)
  | 0, _ => []
  | f + 1, z => if z.toNat < 128 then [((z &&& 127#64).setWidth 8, true)] else ((z &&& 127#64).setWidth 8, false) :: putW f (z >>> 7)
theorem putW_last {f : Nat} {z : BitVec 64} (h : z.toNat < 128) : putW (f + 1) z = [((z &&& 127#64).setWidth 8, true)] := if_pos h
theorem putW_more {f : Nat} {z : BitVec 64} (h : ¬ z.toNat < 128) : putW (f + 1) z = ((z &&& 127#64).setWidth 8, false) :: putW f (z >>> 7) := if_neg h
def grpV (x : BitVec 8 × Bool) : List Value := [.int .u8 (wi x.1), .bool x.2]
def grpB (x : BitVec 8 × Bool) : UInt8 := UInt8.ofBitVec (if x.2 then x.1 else x.1 ||| 128#8)
theorem grp_lt {n f : Nat} (h : n < 2 ^ (7 * (f + 1))) : n / 2 ^ 7 < 2 ^ (7 * f) := by
  rw [Nat.div_lt_iff_lt_mul (by decide), ← Nat.pow_add]
  exact h
/-- A number's encoding. -/
def encI (n : Nat) : List UInt8 := (putW 10 (BitVec.ofNat 64 (2 * n))).map grpB
theorem grp_inj {a b : BitVec 8 × Bool} (h : grpV a = grpV b) : a = b := by
  unfold grpV at h
  injection h with h1 h2
  injection h2 with h2 _
  injection h1 with _ h1
  injection h2 with h2
  refine Prod.ext ?_ h2
  apply BitVec.eq_of_toNat_eq
  have : ((a.1.toNat : Nat) : Int) = ((b.1.toNat : Nat) : Int) := h1
  omega
theorem Steps.foldG {σ τ : Type} (π : σ → τ) {Rl : σ → List Value → σ → Prop} {step : τ → (BitVec 8 × Bool) → τ} {s0 : σ} (h : ∀ s x s', Rl s (grpV x) s' → π s' = step (π s) x) : ∀ (n : Nat) (l : List (BitVec 8 × Bool)), l.length = n → ∀ s', Steps Rl s0 (l.map grpV) s' → π s' = l.foldl step (π s0) := by
  intro n
  induction n with
  | zero =>
    intro l hl s' hs
    obtain rfl := List.eq_nil_of_length_eq_zero hl
    generalize hx : List.map grpV [] = X at hs
    cases hs with
    | nil => rfl
    | snoc h1 h2 => simp at hx
  | succ n ih =>
    intro l hl s' hs
    rcases List.eq_nil_or_concat l with rfl | ⟨l', a, rfl⟩
    · simp at hl
    · rw [List.concat_eq_append] at *
      generalize hx : List.map grpV (l' ++ [a]) = X at hs
      cases hs with
      | nil => simp at hx
      | snoc h1 h2 =>
        rw [List.map_append] at hx
        obtain ⟨e1, e2⟩ := List.append_inj' hx (by simp)
        subst e1
        simp only [List.map_cons, List.map_nil, List.cons.injEq, and_true] at e2
        subst e2
        rw [List.foldl_append, ← ih l' (by simp at hl; omega) _ h1]
        exact h _ _ _ h2
theorem foldl_grp (l : List (BitVec 8 × Bool)) (bs : List UInt8) : l.foldl (fun bs x => bs ++ [grpB x]) bs = bs ++ l.map grpB := by
  induction l generalizing bs with
  | nil => simp
  | cons x l ih => rw [List.foldl_cons, ih, List.append_assoc]; rfl
/-- The bytes that the rounds of PutInt gather. -/
theorem Steps.put {σ : Type} (π : σ → List UInt8) {Rl : σ → List Value → σ → Prop} {s0 : σ} (h : ∀ s x s', Rl s (grpV x) s' → π s' = π s ++ [grpB x]) (l : List (BitVec 8 × Bool)) (s' : σ) (hs : Steps Rl s0 (l.map grpV) s') : π s' = π s0 ++ l.map grpB := by
  rw [← foldl_grp]
  exact Steps.foldG π h l.length l rfl s' hs
theorem zig (n : Nat) (hn : n ≤ 4611686018427387903) : (BitVec.ofInt 64 ((n : Nat) : Int) <<< 1) ^^^ BitVec.ofInt 64 (((n : Nat) : Int) / 2 ^ 63) = BitVec.ofNat 64 (2 * n) := by
  have e1 : ((n : Nat) : Int) / 2 ^ 63 = 0 := by omega
  rw [e1]
  have e2 : BitVec.ofInt 64 0 = 0#64 := rfl
  rw [e2, BitVec.xor_zero]
  apply BitVec.eq_of_toNat_eq
  rw [BitVec.toNat_shiftLeft, BitVec.toNat_ofInt, BitVec.toNat_ofNat, Nat.shiftLeft_eq]
  omega
theorem encI_pos (n : Nat) : 0 < (encI n).length := by
  unfold encI
  rw [List.length_map]
  by_cases h : (BitVec.ofNat 64 (2 * n)).toNat < 128
  · rw [putW_last h]; simp
  · rw [putW_more h]; simp
theorem putW_length : ∀ (f : Nat) (z : BitVec 64), (putW f z).length ≤ f
  | 0, _ => Nat.le_refl _
  | f + 1, z => by
    by_cases h : z.toNat < 128
    · rw [putW_last h]; simp
    · rw [putW_more h]; simp [putW_length f]
theorem encI_le (n : Nat) : (encI n).length ≤ 10 := by unfold encI; rw [List.length_map]; exact putW_length 10 _
theorem put_more {x : BitVec 8} {b : Bool} {bs : List UInt8} (h : b = false) : bs ++ [UInt8.ofBitVec (x ||| 128#8)] = bs ++ [grpB (x, b)] := by subst h; rfl
theorem put_last {x : BitVec 8} {b : Bool} {bs : List UInt8} (h : b = true) : bs ++ [UInt8.ofBitVec x] = bs ++ [grpB (x, b)] := by subst h; rfl
end Go.Proofs.YtpcfgoadkfajfaaGreatDoor
namespace Go.Proofs.YtpcfgoadkfajfaaGreatDoor
set_option linter.all false
open Go Go.RowKit
set_option maxRecDepth 100000
theorem one_147 : One Tryz.prog 147 := ⟨_, Tryz.underlying147, rfl⟩
theorem szt_147 : SzT Tryz.prog 147 1 := ⟨(Tryz.prog.info? 147).get!, by kernel_rfl, by kernel_rfl⟩
set_option maxRecDepth 100000 in
theorem w_groups1 {w : World} {l Dk : Nat} {rec : Loop} {σ : Type} {St : σ → List Ent} {Rl : σ → List Value → σ → Prop} {ok : σ → List Value → Prop} {g1 : Nat} (z0 : BitVec 64) (s0 : σ) (hy : YieldS Tryz.prog w ((RB l Dk rec ++ ([Ent.blk g1 (.cells #[.int .u64 (wi z0)] 147 (0, 0))] ++ St s0)).flatMap Ent.blocks) l Dk rec St Rl ok) (hok : ∀ (pre : List (BitVec 8 × Bool)) s x b, Steps Rl s0 (pre.map grpV) s → pre.length < 10 → ok s (grpV (x, b))) (hs : SL w ((RB l Dk rec ++ ([Ent.blk g1 (.cells #[.int .u64 (wi z0)] 147 (0, 0))] ++ St s0)).flatMap Ent.blocks) w (RB l Dk rec ++ ([Ent.blk g1 (.cells #[.int .u64 (wi z0)] 147 (0, 0))] ++ St s0))) :
    Calls Tryz.prog 121 #[.func (.yield l) #[] #[], .pointer (some ⟨g1, 0, none⟩)] w (fun e w' => ∃ y : σ × BitVec 64, Steps Rl s0 ((putW 10 z0).map grpV) y.1 ∧ e = .returned (.tuple #[]) ∧ SL w ((RB l Dk rec ++ ([Ent.blk g1 (.cells #[.int .u64 (wi z0)] 147 (0, 0))] ++ St s0)).flatMap Ent.blocks) w' (RB l Dk rec ++ ([Ent.blk g1 (.cells #[.int .u64 (wi y.2)] 147 (0, 0))] ++ St y.1))) := by
 refine calls_of_CX (O := ((RB l Dk rec ++ ([Ent.blk g1 (.cells #[.int .u64 (wi z0)] 147 (0, 0))] ++ St s0)).flatMap Ent.blocks)) (L := ([.blk l (.loop rec), .blk Dk (.deferred (some [])), .blk g1 (.cells (#[.int .u64 (wi z0)]) 147 (0, 0))] ++ (St s0))) (args := [.func (.yield l) #[] #[], .pointer (some ⟨g1, 0, none⟩)]) Tryz.func121 rfl (by simp [Tryz.ntmps121]) hs ?_
 refine CX.sub (V' := [(0, .func (.yield l) #[] #[]), (1, .pointer (some ⟨g1, 0, none⟩))]) ⟨rfl, rfl, trivial⟩ ?_
 refine CX.block ?_
 refine CX.loop (σ := Nat × BitVec 64 × List (BitVec 8 × Bool) × σ) (fun y => [(0, .func (.yield l) #[] #[]), (1, .pointer (some ⟨g1, 0, none⟩))]) (fun y => ([.blk l (.loop rec), .blk Dk (.deferred (some [])), .blk g1 (.cells (#[.int .u64 (wi y.2.1)]) 147 (0, 0))] ++ (St y.2.2.2))) (fun y => 1 ≤ y.1 ∧ y.2.1.toNat < 2 ^ (7 * y.1) ∧ y.2.2.1.length + y.1 = 10 ∧ y.2.2.1 ++ putW y.1 y.2.1 = putW 10 z0 ∧ Steps Rl s0 (y.2.2.1.map grpV) y.2.2.2) (fun y => y.1) (10, z0, [], s0) ⟨Nat.le_of_ble_eq_true rfl, Nat.lt_trans z0.isLt (show 2 ^ 64 < 2 ^ (7 * 10) by decide), rfl, rfl, .nil s0⟩ ⟨rfl, rfl, trivial⟩ rfl (fun y hI => ?_)
 obtain ⟨f, z, pre, s⟩ := y
 dsimp only at hI ⊢
 obtain ⟨hf, hz, hpl, hp, hst⟩ := hI
 obtain ⟨f, rfl⟩ : ∃ k, f = k + 1 := ⟨f - 1, by omega⟩
 have hwi : wi z = ((z.toNat : Nat) : Int) := rfl
 refine CX.block ?_
 refine CX.seq ?_
 refine CX.region ?_
 refine RX.cons rfl rfl (op_yld (y_load (i := 2) rfl rfl one_147 rfl rfl) rfl rfl ?_)
 refine RX.cons rfl rfl (op_w (yw_lss rfl rfl rfl) rfl rfl ?_)
 refine RX.cons rfl rfl (op_w (yw_assign rfl rfl) rfl rfl ?_)
 refine RX.nil (XX.next (V' := [(0, _), (1, _), (3, _)]) ⟨rfl, rfl, rfl, trivial⟩ ?_)
 refine CX.seq ?_
 refine CX.seq ?_
 refine CX.region ?_
 refine RX.cons rfl rfl (op_w (yw_move rfl rfl) rfl rfl ?_)
 refine RX.cons rfl rfl (op_yld (y_load (i := 2) rfl rfl one_147 rfl rfl) rfl rfl ?_)
 refine RX.cons rfl rfl (op_w (yw_bvAnd (a := z) (b := 127#64) UK.u64 rfl rfl rfl) rfl rfl ?_)
 refine RX.cons rfl rfl (op_w (yw_bvConv (a := z &&& (127#64)) UK.u8 rfl rfl Tryz.underlying147 Tryz.underlying5) rfl rfl ?_)
 refine RX.cons rfl rfl (op_w (yw_move rfl rfl) rfl rfl ?_)
 refine RX.cons rfl rfl (op_yieldGR s [.blk g1 (.cells (#[.int .u64 (wi z)]) 147 (0, 0))] hy rfl rfl rfl rfl rfl (hok pre s _ _ hst (by omega)) rfl (fun s' hs' => ?_))
 refine RX.cons rfl rfl (op_w (yw_not rfl rfl) rfl rfl ?_)
 refine RX.cons rfl rfl (op_w (yw_move rfl rfl) rfl rfl ?_)
 refine RX.consG rfl rfl rfl rfl rfl (op_w (yw_move rfl rfl) rfl rfl ?_)
 refine RX.cons rfl rfl (op_w (yw_pickF rfl rfl rfl) rfl rfl ?_)
 refine RX.nil (XX.next (V' := [(0, _), (1, _), (15, _)]) ⟨rfl, rfl, rfl, trivial⟩ ?_)
 refine CX.condD (p := wi z < 128) rfl (fun c15 => ?_) (fun c15 => ?_)
 ·refine CX.ret ?_
  refine XX.then_ret ?_
  refine XX.block_ret ?_
  refine XX.then_ret ?_
  refine XX.block_ret ?_
  exact ret_none rfl fun w1 hw => ⟨(s', z), by rw [← hp, putW_last (by omega), List.map_append]; rw [decide_eq_true c15] at hs'; exact .snoc hst hs', rfl, hw⟩
 ·refine CX.skip (XX.next (V' := [(0, _), (1, _)]) ⟨rfl, rfl, trivial⟩ ?_)
  refine CX.region ?_
  refine RX.cons rfl rfl (op_yld (y_load (i := 2) rfl rfl one_147 rfl rfl) rfl rfl ?_)
  refine RX.cons rfl rfl (op_w (yw_bvShr (a := z) 7 UK.u64 rfl rfl rfl rfl) rfl rfl ?_)
  refine RX.cons rfl rfl (op_storeAll (i := 2) rfl rfl rfl rfl szt_147 rfl (plain_of rfl) rfl rfl ?_)
  refine RX.nil (XX.inBlock (V' := [(0, _), (1, _)]) ⟨rfl, rfl, trivial⟩ ?_)
  refine XX.againP ([]) (f, z >>> 7, pre ++ [((z &&& 127#64).setWidth 8, decide (wi z < 128))], s') (by dsimp only; omega) ⟨by dsimp only; exact Nat.one_le_iff_ne_zero.2 (by rintro rfl; simp at hz; omega), by dsimp only; rw [shr_toNat]; exact grp_lt hz, by simp; omega, by dsimp only; rw [← hp, putW_more (by omega), decide_eq_false c15, List.append_assoc]; rfl, by dsimp only; rw [List.map_append]; exact .snoc hst hs'⟩ ⟨rfl, rfl, trivial⟩ (perm_nil _)

end Go.Proofs.YtpcfgoadkfajfaaGreatDoor
namespace Go.Proofs.YtpcfgoadkfajfaaGreatDoor
set_option linter.all false
open Go Go.RowKit
set_option maxRecDepth 100000
theorem zero_124 : Zero Tryz.prog 124 (.slice none 0 0) := ⟨(Tryz.prog.info? 124).get!, by kernel_rfl, by kernel_rfl⟩
theorem ent_107 : ∀ args w, (callFunc 107 args).run Tryz.prog w = .ok (.enter 107 args) w := enters_of Tryz.func107 (by kernel_rfl) rfl
theorem ent_121 : ∀ args w, (callFunc 121 args).run Tryz.prog w = .ok (.enter 121 args) w := enters_of Tryz.func121 (by kernel_rfl) rfl
set_option maxRecDepth 100000 in
theorem w_groups {w : World} (z : BitVec 64) :
    Calls Tryz.prog 107 #[.int .u64 (wi z)] w (fun e w' => ∃ g : Nat, True ∧ e = .returned (.func (.func 121) #[] #[.pointer (some ⟨g, 0, none⟩)]) ∧ SL w [] w' [.blk g (.cells #[.int .u64 (wi z)] 147 (0, 0))]) := by
 refine calls_of_CX (O := []) (L := []) (args := [.int .u64 (wi z)]) Tryz.func107 rfl (by simp [Tryz.ntmps107]) (SL.refl w) ?_
 refine CX.sub (V' := [(0, .int .u64 (wi z))]) ⟨rfl, trivial⟩ ?_
 refine CX.seq ?_
 refine CX.region ?_
 refine RX.cons rfl rfl (op_box rfl rfl rfl rfl fun gm => ?_)
 refine RX.cons rfl rfl (op_w (yw_assign rfl rfl) rfl rfl ?_)
 refine RX.nil (XX.next (V' := [(1, _)]) ⟨rfl, trivial⟩ ?_)
 refine CX.seq ?_
 refine CX.region ?_
 refine RX.cons rfl rfl (op_w (yw_makeFunc rfl rfl rfl) rfl rfl ?_)
 refine RX.cons rfl rfl (op_w (yw_assign rfl rfl) rfl rfl ?_)
 refine RX.nil (XX.next (V' := [(2, .func (.func 121) #[] #[.pointer (some ⟨gm, 0, none⟩)])]) ⟨rfl, trivial⟩ ?_)
 refine CX.ret ?_
 exact ret_tmp rfl rfl fun w1 hw => ⟨gm, trivial, rfl, hw⟩

set_option maxRecDepth 100000 in
theorem w_putInt {w : World} (n : Nat) (hn : n ≤ 4611686018427387903) :
    Calls Tryz.prog 74 #[.int .i64 ((n : Nat) : Int)] w (fun e w' => e = .returned (.tuple #[.string (⟨(encI n).toArray⟩), .int .i64 0]) ∧ SL w [] w' []) := by
 refine calls_of_CXM (O := []) (L := []) (args := [.int .i64 ((n : Nat) : Int)]) Tryz.func74 rfl (by simp [Tryz.ntmps74]) (SL.refl w) ?_
 refine CX.sub (V' := [(0, .int .i64 ((n : Nat) : Int))]) ⟨rfl, trivial⟩ ?_
 refine CX.seq ?_
 refine CX.region ?_
 refine RX.cons rfl rfl (op_w (yw_assign rfl rfl) rfl rfl ?_)
 refine RX.cons rfl rfl (op_w (yw_assign rfl rfl) rfl rfl ?_)
 refine RX.nil (XX.next (V' := [(0, _), (2, .string .empty), (3, .int .i64 0)]) ⟨rfl, rfl, rfl, trivial⟩ ?_)
 refine CX.seq ?_
 refine CX.seq ?_
 refine CX.region ?_
 refine RX.cons rfl rfl (op_w (yw_move rfl rfl) rfl rfl ?_)
 refine RX.cons rfl rfl (op_w (yw_lss rfl rfl rfl) rfl rfl ?_)
 refine RX.cons rfl rfl (op_w (yw_move rfl rfl) rfl rfl ?_)
 refine RX.splitD (t := 9) (p := ((n : Nat) : Int) < (-4611686018427387903)) rfl (fun d9 => ?_) (fun d9 => ?_)
 ·exfalso; omega
 ·refine RX.consG rfl rfl rfl rfl rfl (op_w (yw_move rfl rfl) rfl rfl ?_)
  refine RX.consG rfl rfl rfl rfl rfl (op_w (yw_gtr rfl rfl rfl) rfl rfl ?_)
  refine RX.cons rfl rfl (op_w (yw_pickF rfl rfl rfl) rfl rfl ?_)
  refine RX.nil (XX.next (V' := [(0, _), (2, .string .empty), (3, .int .i64 0), (7, _), (8, _), (9, _), (10, _), (11, _), (12, _)]) ⟨rfl, rfl, rfl, rfl, rfl, rfl, rfl, rfl, rfl, trivial⟩ ?_)
  refine CX.condD (p := 4611686018427387903 < ((n : Nat) : Int)) rfl (fun c12 => ?_) (fun c12 => ?_)
  ·exfalso; omega
  ·refine CX.skip (XX.next (V' := [(0, _), (2, .string .empty), (3, .int .i64 0), (7, _), (8, _), (9, _), (10, _), (11, _), (12, _)]) ⟨rfl, rfl, rfl, rfl, rfl, rfl, rfl, rfl, rfl, trivial⟩ ?_)
   refine CX.seq ?_
   refine CX.region ?_
   refine RX.cons rfl rfl (op_alloc rfl rfl rfl zero_124 fun g4 => ?_)
   refine RX.nil (XX.next (V' := [(0, _), (2, .string .empty), (3, .int .i64 0), (4, _), (7, _), (8, _), (9, _), (10, _), (11, _), (12, _)]) ⟨rfl, rfl, rfl, rfl, rfl, rfl, rfl, rfl, rfl, rfl, trivial⟩ ?_)
   refine CX.seq ?_
   refine CX.seq ?_
   refine CX.region ?_
   refine RX.cons rfl rfl (op_w (yw_move rfl rfl) rfl rfl ?_)
   refine RX.cons rfl rfl (op_w (yw_bvOf UK.u64 rfl rfl Tryz.underlying3 Tryz.underlying147) rfl rfl ?_)
   refine RX.cons rfl rfl (op_w (yw_bvShl (a := BitVec.ofInt 64 ((n : Nat) : Int)) 1 UK.u64 rfl rfl rfl rfl) rfl rfl ?_)
   refine RX.cons rfl rfl (op_w (yw_move rfl rfl) rfl rfl ?_)
   refine RX.cons rfl rfl (op_w (yw_shr_i 63 rfl rfl rfl rfl (by omega)) rfl rfl ?_)
   refine RX.cons rfl rfl (op_w (yw_bvOf UK.u64 rfl rfl Tryz.underlying3 Tryz.underlying147) rfl rfl ?_)
   refine RX.cons rfl rfl (op_w (yw_bvXor (a := (BitVec.ofInt 64 ((n : Nat) : Int)) <<< 1) (b := BitVec.ofInt 64 (((n : Nat) : Int) / 2 ^ 63)) UK.u64 rfl rfl rfl) rfl rfl ?_)
   refine RX.cons rfl rfl (op_callE rfl rfl rfl rfl rfl ent_107 (fun w _ => w_groups (((BitVec.ofInt 64 ((n : Nat) : Int)) <<< 1) ^^^ (BitVec.ofInt 64 (((n : Nat) : Int) / 2 ^ 63)))) (fun zgr _ => ?_))
   refine RX.nil (XX.next (V' := [(0, _), (2, .string .empty), (3, .int .i64 0), (4, _), (7, _), (8, _), (9, _), (10, _), (11, _), (12, _), (13, _), (14, _), (15, _), (16, _), (17, _), (18, _), (19, _), (20, _)]) ⟨rfl, rfl, rfl, rfl, rfl, rfl, rfl, rfl, rfl, rfl, rfl, rfl, rfl, rfl, rfl, rfl, rfl, rfl, trivial⟩ ?_)
   refine CX.block ?_
   refine CX.rowNil 5 1 ?_
   refine CX.rangeFunc (σ := (Option Addr × Nat × List UInt8) × BitVec 64) (LL := fun h => [.blk zgr (.cells (#[.int .u64 (wi (h.2 : BitVec 64))]) 147 (0, 0)), .blk g4 (.cells (#[.slice h.1.1 (List.length (h.1.2.2 : List UInt8)) h.1.2.1]) 124 (0, 0)), .row h.1.1 h.1.2.1 5 1 (List.map u8c h.1.2.2)]) (post := fun h => h.1.2.2 = (putW 10 (((BitVec.ofInt 64 ((n : Nat) : Int)) <<< 1) ^^^ (BitVec.ofInt 64 (((n : Nat) : Int) / 2 ^ 63)))).map grpB) [.blk zgr (.cells (#[.int .u64 (wi (((BitVec.ofInt 64 ((n : Nat) : Int)) <<< 1) ^^^ (BitVec.ofInt 64 (((n : Nat) : Int) / 2 ^ 63))))]) 147 (0, 0)), .blk g4 (.cells (#[.slice none 0 0]) 124 (0, 0)), .row none 0 5 1 (List.map u8c ([]))] [] ((perm_pick 1 rfl).trans (List.Perm.cons _ ((perm_pick 1 rfl).trans (List.Perm.cons _ ((perm_pick 0 rfl).trans (List.Perm.cons _ (List.Perm.refl _))))))) rfl ent_121 ?_ ?_
   ·intro l Dk fn a w1 ha hw hs
    have hRl : ∀ (s : Option Addr × Nat × List UInt8) (y : BitVec 8 × Bool) (s' : Option Addr × Nat × List UInt8), (fun (s : Option Addr × Nat × List UInt8) (x : List Value) (s' : Option Addr × Nat × List UInt8) => ∀ y, x = grpV y → s'.2.2 = s.2.2 ++ [grpB y]) s (grpV y) s' → s'.2.2 = s.2.2 ++ [grpB y] := fun s y s' h => h y rfl
    refine (w_groups1 (l := l) (Dk := Dk) (St := (fun s : Option Addr × Nat × List UInt8 => [.blk g4 (.cells (#[.slice s.1 (List.length (s.2.2 : List UInt8)) s.2.1]) 124 (0, 0)), .row s.1 s.2.1 5 1 (List.map u8c s.2.2)])) (Rl := (fun (s : Option Addr × Nat × List UInt8) (x : List Value) (s' : Option Addr × Nat × List UInt8) => ∀ y, x = grpV y → s'.2.2 = s.2.2 ++ [grpB y])) (ok := (fun (s : Option Addr × Nat × List UInt8) x => s.2.2.length ≤ 9 ∧ ∃ y, x = grpV y)) (g1 := zgr) (((BitVec.ofInt 64 ((n : Nat) : Int)) <<< 1) ^^^ (BitVec.ofInt 64 (((n : Nat) : Int) / 2 ^ 63))) ((none, 0, []) : Option Addr × Nat × List UInt8) ?_ (fun pre s x b hst hl => ⟨by have := Steps.put (fun s : Option Addr × Nat × List UInt8 => s.2.2) hRl pre s hst; rw [this]; simp; omega, (x, b), rfl⟩) hs).mono ?_
    ·rintro ⟨A2, c2, bs⟩ x w2 ⟨hb9, ⟨x8, b0⟩, rfl⟩ hag hs2
     dsimp only at hb9
     refine round_of_CX2 (n := Tryz.f74.ntmps) (V0 := [(22, .bool b0), (21, .int .u8 (wi x8)), (4, .pointer (some ⟨g4, 0, none⟩))]) (σ := Unit) (τ := Option Addr × Nat × List UInt8) (M := [.blk g4 (.cells (#[.slice A2 (List.length (bs : List UInt8)) c2]) 124 (0, 0)), .row A2 c2 5 1 (List.map u8c bs)]) (fun _ => [(4, .pointer (some ⟨g4, 0, none⟩)), (5, .int .u8 (wi x8)), (6, .bool b0)]) (fun _ => [.blk g4 (.cells (#[.slice A2 (List.length (bs : List UInt8)) c2]) 124 (0, 0)), .row A2 c2 5 1 (List.map u8c bs)]) (fun _ => True) (LL := (fun s : Option Addr × Nat × List UInt8 => [.blk g4 (.cells (#[.slice s.1 (List.length (s.2.2 : List UInt8)) s.2.1]) 124 (0, 0)), .row s.1 s.2.1 5 1 (List.map u8c s.2.2)])) (post := fun s' => ∀ y, grpV (x8, b0) = grpV y → s'.2.2 = bs ++ [grpB y]) rfl rfl rfl ?_ ?_ ?_ hs2
     ·exact ((ha.sub (V' := [(4, .pointer (some ⟨g4, 0, none⟩))]) ⟨rfl, trivial⟩).round 21 rfl _).round 22 rfl _
     ·refine CX.seq ?_
      refine CX.region ?_
      refine RX.cons rfl rfl (op_w (yw_assign rfl rfl) rfl rfl ?_)
      refine RX.nil (XX.next (V' := [(4, _), (5, _), (22, _)]) ⟨rfl, rfl, rfl, trivial⟩ ?_)
      refine CX.region ?_
      refine RX.cons rfl rfl (op_w (yw_assign rfl rfl) rfl rfl ?_)
      refine RX.nil (XX.meetP ([]) () trivial ⟨rfl, rfl, rfl, trivial⟩ ((perm_pick 0 rfl).trans (List.Perm.cons _ ((perm_pick 0 rfl).trans (List.Perm.cons _ ((perm_pick 0 rfl).trans (List.Perm.cons _ ((perm_pick 0 rfl).trans (List.Perm.cons _ (List.Perm.refl _))))))))))
     ·intro _ _
      refine CX.block ?_
      refine CX.seq ?_
      refine CX.seq ?_
      refine CX.region ?_
      refine RX.cons rfl rfl (op_w (yw_move rfl rfl) rfl rfl ?_)
      refine RX.cons rfl rfl (op_w (yw_not rfl rfl) rfl rfl ?_)
      refine RX.nil (XX.next (V' := [(4, _), (5, _), (24, _)]) ⟨rfl, rfl, rfl, trivial⟩ ?_)
      refine CX.cond (b := !b0) rfl (fun c24 => ?_) (fun c24 => ?_)
      ·refine CX.region ?_
       refine RX.cons rfl rfl (op_w (yw_move rfl rfl) rfl rfl ?_)
       refine RX.cons rfl rfl (op_w (yw_bvOr (a := x8) (b := 128#8) UK.u8 rfl rfl rfl) rfl rfl ?_)
       refine RX.cons rfl rfl (op_w (yw_assign rfl rfl) rfl rfl ?_)
       refine RX.nil (XX.next (V' := [(4, _), (5, _)]) ⟨rfl, rfl, trivial⟩ ?_)
       refine CX.region ?_
       refine RX.cons rfl rfl (op_yld (y_load (i := 2) rfl rfl one_124 rfl rfl) rfl rfl ?_)
       refine RX.cons rfl rfl (op_w (yw_move rfl rfl) rfl rfl ?_)
       refine RX.cons rfl rfl (op_buildSlice rfl rfl rfl slb_124 rfl rfl (by intro v hv; simp only [List.mem_cons, List.not_mem_nil, or_false] at hv; subst hv; exact ⟨rfl, (plain_of rfl)⟩) (by decide) fun g9 => ?_)
       refine RX.cons rfl rfl (op_appendM u8c (i := 4) (j := 0) (xs := bs) ([UInt8.ofBitVec (x8 ||| (128#8))]) rfl rfl rfl slb_124 rfl rfl rfl rfl rfl rfl (by simp only [List.length_singleton]; omega) (by simp only [List.length_singleton]; omega) fun A3 c3 => ?_)
       refine RX.cons rfl rfl (op_storeAll (i := 3) rfl rfl rfl rfl szt_124 rfl (plain_of rfl) rfl rfl ?_)
       refine RX.nil (XX.inBlock (V' := []) trivial ?_)
       refine XX.meetP ([.row (some ⟨g9, 0, none⟩) 1 5 1 (List.map u8c ([UInt8.ofBitVec (x8 ||| (128#8))]))]) ((A3, c3, bs ++ [UInt8.ofBitVec (x8 ||| 128#8)]) : Option Addr × Nat × List UInt8) (fun y he => by rw [← grp_inj he]; exact put_more (by simpa using c24)) trivial ((perm_pick 1 rfl).trans (List.Perm.cons _ ((perm_pick 1 rfl).trans (List.Perm.cons _ ((perm_pick 1 rfl).trans (List.Perm.cons _ ((perm_pick 1 rfl).trans (List.Perm.cons _ (List.Perm.refl _)))))))))
      ·refine CX.skip (XX.next (V' := [(4, _), (5, _)]) ⟨rfl, rfl, trivial⟩ ?_)
       refine CX.region ?_
       refine RX.cons rfl rfl (op_yld (y_load (i := 2) rfl rfl one_124 rfl rfl) rfl rfl ?_)
       refine RX.cons rfl rfl (op_w (yw_move rfl rfl) rfl rfl ?_)
       refine RX.cons rfl rfl (op_buildSlice rfl rfl rfl slb_124 rfl rfl (by intro v hv; simp only [List.mem_cons, List.not_mem_nil, or_false] at hv; subst hv; exact ⟨rfl, (plain_of rfl)⟩) (by decide) fun g9 => ?_)
       refine RX.cons rfl rfl (op_appendM u8c (i := 4) (j := 0) (xs := bs) ([UInt8.ofBitVec (x8)]) rfl rfl rfl slb_124 rfl rfl rfl rfl rfl rfl (by simp only [List.length_singleton]; omega) (by simp only [List.length_singleton]; omega) fun A3 c3 => ?_)
       refine RX.cons rfl rfl (op_storeAll (i := 3) rfl rfl rfl rfl szt_124 rfl (plain_of rfl) rfl rfl ?_)
       refine RX.nil (XX.inBlock (V' := []) trivial ?_)
       refine XX.meetP ([.row (some ⟨g9, 0, none⟩) 1 5 1 (List.map u8c ([UInt8.ofBitVec (x8)]))]) ((A3, c3, bs ++ [UInt8.ofBitVec (x8)]) : Option Addr × Nat × List UInt8) (fun y he => by rw [← grp_inj he]; exact put_last (by simpa using c24)) trivial ((perm_pick 1 rfl).trans (List.Perm.cons _ ((perm_pick 1 rfl).trans (List.Perm.cons _ ((perm_pick 1 rfl).trans (List.Perm.cons _ ((perm_pick 1 rfl).trans (List.Perm.cons _ (List.Perm.refl _)))))))))
    ·exact fun e w' ⟨y, hst, he, hz⟩ => ⟨y, (Steps.put (fun s : Option Addr × Nat × List UInt8 => s.2.2) hRl _ y.1 hst).trans (List.nil_append _), ⟨_, he⟩, hz⟩
   ·intro h l Dk ob hh
    obtain ⟨⟨A5, c5, bs⟩, z5⟩ := h
    dsimp only at hh ⊢
    rw [zig n hn] at hh
    refine XX.inBlock (V' := [(4, _)]) ⟨rfl, trivial⟩ ?_
    refine XX.next (V' := [(4, _)]) ⟨rfl, trivial⟩ ?_
    refine CX.seq ?_
    refine CX.region ?_
    refine RX.cons rfl rfl (op_yld (y_load (i := 3) rfl rfl one_124 rfl rfl) rfl rfl ?_)
    refine RX.cons rfl rfl (op_yld (y_bytesRow (i := 4) (l := bs) rfl rfl Tryz.underlying124 Tryz.underlying5 Tryz.underlying9 rfl (by rw [hh]; exact encI_pos n)) rfl rfl ?_)
    refine RX.cons rfl rfl (op_w (yw_assign rfl rfl) rfl rfl ?_)
    refine RX.cons rfl rfl (op_w (yw_assign rfl rfl) rfl rfl ?_)
    refine RX.nil (XX.next (V' := [(2, .string (⟨List.toArray bs⟩)), (3, .int .i64 0)]) ⟨rfl, rfl, trivial⟩ ?_)
    refine CX.ret ?_
    exact ret_tmp2M (k := 1) rfl rfl rfl rfl fun w1 hw => ⟨by rw [hh]; rfl, hw.sub (List.nil_sublist _)⟩

end Go.Proofs.YtpcfgoadkfajfaaGreatDoor
namespace Go.Proofs.YtpcfgoadkfajfaaGreatDoor
set_option linter.all false
open Go Go.RowKit
set_option maxRecDepth 100000
theorem zero_84 : Zero Tryz.prog 84 (.agg (#[.pointer none, .int .i64 0, .int .i64 0])) := ⟨(Tryz.prog.info? 84).get!, by kernel_rfl, by kernel_rfl⟩
theorem szt_84 : SzT Tryz.prog 84 3 := ⟨(Tryz.prog.info? 84).get!, by kernel_rfl, by kernel_rfl⟩
theorem agg_84 : AggT Tryz.prog 84 3 := ⟨_, _, Tryz.underlying84, rfl, (by kernel_rfl : Tryz.prog.info? 84 = some (Tryz.prog.info? 84).get!), by kernel_rfl⟩
theorem fld_84_0 : Fld Tryz.prog 84 0 0 := ⟨_, _, (Tryz.prog.info? 82).get!, Tryz.underlying84, rfl, rfl, by kernel_rfl, by decide +kernel⟩
theorem one_82 : One Tryz.prog 82 := ⟨_, Tryz.underlying82, rfl⟩
theorem fld_84_1 : Fld Tryz.prog 84 1 1 := ⟨_, _, (Tryz.prog.info? 3).get!, Tryz.underlying84, rfl, rfl, by kernel_rfl, by decide +kernel⟩
theorem fld_84_2 : Fld Tryz.prog 84 2 2 := ⟨_, _, (Tryz.prog.info? 3).get!, Tryz.underlying84, rfl, rfl, by kernel_rfl, by decide +kernel⟩
/-- The numbers of a fact. -/
def fnum (f : Fc) : Nat → Int
  | 0 => f.kind
  | 1 => f.id
  | 2 => f.ver
  | 3 => f.per
  | 4 => f.sec
  | 5 => f.acc
  | 6 => f.dev
  | 7 => f.song
  | 8 => f.ter
  | 9 => f.hol
  | 10 => f.role
  | 11 => f.since
  | 12 => f.till
  | 13 => f.amt
  | 14 => f.shr
  | 15 => f.cur
  | 16 => f.mark
  | _ => 0
/-- A fact with some of its numbers put to 0. -/
def zf (f : Fc) (js : List Nat) : Fc := ⟨if 0 ∈ js then 0 else f.kind, if 1 ∈ js then 0 else f.id, if 2 ∈ js then 0 else f.ver, if 3 ∈ js then 0 else f.per, if 4 ∈ js then 0 else f.sec, if 5 ∈ js then 0 else f.acc, if 6 ∈ js then 0 else f.dev, if 7 ∈ js then 0 else f.song, if 8 ∈ js then 0 else f.ter, if 9 ∈ js then 0 else f.hol, if 10 ∈ js then 0 else f.role, if 11 ∈ js then 0 else f.since, if 12 ∈ js then 0 else f.till, if 13 ∈ js then 0 else f.amt, if 14 ∈ js then 0 else f.shr, if 15 ∈ js then 0 else f.cur, if 16 ∈ js then 0 else f.mark, f.text⟩
theorem fcC_get (f : Fc) : ∀ j, j < 17 → (fcC f)[j]? = some (.int .i64 (fnum f j))
  | 0, _ => rfl
  | 1, _ => rfl
  | 2, _ => rfl
  | 3, _ => rfl
  | 4, _ => rfl
  | 5, _ => rfl
  | 6, _ => rfl
  | 7, _ => rfl
  | 8, _ => rfl
  | 9, _ => rfl
  | 10, _ => rfl
  | 11, _ => rfl
  | 12, _ => rfl
  | 13, _ => rfl
  | 14, _ => rfl
  | 15, _ => rfl
  | 16, _ => rfl
  | j + 17, h => by omega
theorem zf_get (f : Fc) {js : List Nat} : ∀ j, j ∉ js → j < 17 → fnum (zf f js) j = fnum f j
  | 0, hn, _ => if_neg hn
  | 1, hn, _ => if_neg hn
  | 2, hn, _ => if_neg hn
  | 3, hn, _ => if_neg hn
  | 4, hn, _ => if_neg hn
  | 5, hn, _ => if_neg hn
  | 6, hn, _ => if_neg hn
  | 7, hn, _ => if_neg hn
  | 8, hn, _ => if_neg hn
  | 9, hn, _ => if_neg hn
  | 10, hn, _ => if_neg hn
  | 11, hn, _ => if_neg hn
  | 12, hn, _ => if_neg hn
  | 13, hn, _ => if_neg hn
  | 14, hn, _ => if_neg hn
  | 15, hn, _ => if_neg hn
  | 16, hn, _ => if_neg hn
  | j + 17, _, h => by omega
theorem zf_set (f : Fc) (js : List Nat) : ∀ j, j < 17 → (fcC (zf f js)).setIfInBounds j (.int .i64 0) = fcC (zf f (js ++ [j]))
  | 0, _ => by simp [zf]
  | 1, _ => by simp [zf]
  | 2, _ => by simp [zf]
  | 3, _ => by simp [zf]
  | 4, _ => by simp [zf]
  | 5, _ => by simp [zf]
  | 6, _ => by simp [zf]
  | 7, _ => by simp [zf]
  | 8, _ => by simp [zf]
  | 9, _ => by simp [zf]
  | 10, _ => by simp [zf]
  | 11, _ => by simp [zf]
  | 12, _ => by simp [zf]
  | 13, _ => by simp [zf]
  | 14, _ => by simp [zf]
  | 15, _ => by simp [zf]
  | 16, _ => by simp [zf]
  | j + 17, h => by omega
/-- A field in memory: its place in the record g, and its limits. -/
abbrev fdC (g : Nat) (x : Nat × Int × Int) : Array Value := #[.pointer (some ⟨g, x.1, none⟩), .int .i64 x.2.1, .int .i64 x.2.2]
def specsK (f : Fc) (k : Int) : List (Nat × Int × Int) := if k = 1 then [(1, 1, 1000000), (5, 1, 1000000), (6, 1, 1000000), (7, 1, 1000000), (8, 0, 7), (4, 0, 3155759999), (13, 0, 86400000), (16, 0, 1)] else if k = 2 then [(6, 1, 1000000), (1, 1, 1000000), (16, 1, 3)] else if k = 3 then [(1, 1, 1000000), (7, 1, 1000000), (9, 1, 1000000), (10, 1, 2), (8, 1, 255), (11, 0, IntKind.i64.wrap (Fc.till f - 1)), (12, 1, 1200), (14, 0, 1000000)] else if k = 4 then [(9, 1, 1000000), (11, 0, 1199)] else if k = 5 then [(1, 1, 1000000), (3, 0, 1199), (8, 0, 7), (13, 0, 10000000000), (15, 0, 20)] else if k = 6 then [(5, 1, 1000000), (3, 0, 1199), (8, 0, 7), (13, 0, 1000000000), (15, 0, 20)] else if k = 7 then [(15, 1, 20), (3, 0, 1199), (13, 1, 10000000)] else if k = 8 then [(1, 1, 1000000), (5, 1, 1000), (3, 0, 1199), (13, 0, 100000000000)] else if k = 9 then [(11, 0, 1199)] else if k = 10 then [(8, 0, 7), (11, 0, 1199), (16, 1, 2)] else []
/-- The fields of a fact of its kind, with their limits. -/
def specs (f : Fc) : List (Nat × Int × Int) := specsK f f.kind
def mfOf (k : Int) : Nat := if k = 1 then 56 else if k = 2 then 58 else if k = 3 then 59 else if k = 4 then 61 else if k = 5 then 63 else if k = 6 then 64 else if k = 7 then 66 else if k = 8 then 68 else if k = 9 then 69 else if k = 10 then 71 else 0
def kfOf (k : Int) : Nat := if k = 1 then 57 else if k = 2 then 57 else if k = 3 then 60 else if k = 4 then 62 else if k = 5 then 60 else if k = 6 then 65 else if k = 7 then 67 else if k = 8 then 60 else if k = 9 then 70 else if k = 10 then 72 else 0
def htOf (k : Int) : Bool := decide (k = 4 ∨ k = 9)
abbrev kindC (k : Int) : Array Value := #[.func (.func (mfOf k)) #[] #[], .bool (htOf k), .func (.func (kfOf k)) #[] #[]]
theorem kind_cases {k : Int} (h : 1 ≤ k ∧ k ≤ 10) : k = 1 ∨ k = 2 ∨ k = 3 ∨ k = 4 ∨ k = 5 ∨ k = 6 ∨ k = 7 ∨ k = 8 ∨ k = 9 ∨ k = 10 := by omega
def kindsF : Int → Option Value := fun k => if k = 10 then some (.agg #[.func (.func 71) #[] #[], .bool false, .func (.func 72) #[] #[]]) else if k = 9 then some (.agg #[.func (.func 69) #[] #[], .bool true, .func (.func 70) #[] #[]]) else if k = 8 then some (.agg #[.func (.func 68) #[] #[], .bool false, .func (.func 60) #[] #[]]) else if k = 7 then some (.agg #[.func (.func 66) #[] #[], .bool false, .func (.func 67) #[] #[]]) else if k = 6 then some (.agg #[.func (.func 64) #[] #[], .bool false, .func (.func 65) #[] #[]]) else if k = 5 then some (.agg #[.func (.func 63) #[] #[], .bool false, .func (.func 60) #[] #[]]) else if k = 4 then some (.agg #[.func (.func 61) #[] #[], .bool true, .func (.func 62) #[] #[]]) else if k = 3 then some (.agg #[.func (.func 59) #[] #[], .bool false, .func (.func 60) #[] #[]]) else if k = 2 then some (.agg #[.func (.func 58) #[] #[], .bool false, .func (.func 57) #[] #[]]) else if k = 1 then some (.agg #[.func (.func 56) #[] #[], .bool false, .func (.func 57) #[] #[]]) else none
theorem kindsF_in {k : Int} (h : 1 ≤ k ∧ k ≤ 10) : kindsF k = some (.agg (kindC k)) := by
  rcases kind_cases h with rfl | rfl | rfl | rfl | rfl | rfl | rfl | rfl | rfl | rfl <;> rfl
theorem kindsF_out {k : Int} (h : ¬ (1 ≤ k ∧ k ≤ 10)) : kindsF k = none := by
  unfold kindsF
  rw [if_neg (show ¬ k = 10 by omega)]
  rw [if_neg (show ¬ k = 9 by omega)]
  rw [if_neg (show ¬ k = 8 by omega)]
  rw [if_neg (show ¬ k = 7 by omega)]
  rw [if_neg (show ¬ k = 6 by omega)]
  rw [if_neg (show ¬ k = 5 by omega)]
  rw [if_neg (show ¬ k = 4 by omega)]
  rw [if_neg (show ¬ k = 3 by omega)]
  rw [if_neg (show ¬ k = 2 by omega)]
  rw [if_neg (show ¬ k = 1 by omega)]
def within (n a b : Int) : Bool := decide (a ≤ n) && decide (n ≤ b)
set_option maxRecDepth 100000 in
theorem w_fid {w : World} (g j : Nat) :
    Calls Tryz.prog 104 #[.pointer (some ⟨g, j, none⟩)] w (fun e w' => e = .returned (.agg (#[.pointer (some ⟨g, j, none⟩), .int .i64 1, .int .i64 1000000])) ∧ SL w [] w' []) := by
 refine calls_of_CX (O := []) (L := []) (args := [.pointer (some ⟨g, j, none⟩)]) Tryz.func104 rfl (by simp [Tryz.ntmps104]) (SL.refl w) ?_
 refine CX.sub (V' := [(0, .pointer (some ⟨g, j, none⟩))]) ⟨rfl, trivial⟩ ?_
 refine CX.seq ?_
 refine CX.region ?_
 refine RX.cons rfl rfl (op_alloc rfl rfl rfl zero_84 fun g2 => ?_)
 refine RX.nil (XX.next (V' := [(0, _), (2, .pointer (some ⟨g2, 0, none⟩))]) ⟨rfl, rfl, trivial⟩ ?_)
 refine CX.seq ?_
 refine CX.region ?_
 refine RX.cons rfl rfl (op_w (yw_move rfl rfl) rfl rfl ?_)
 refine RX.cons rfl rfl (op_w (yw_build (v := .agg (#[.pointer (some ⟨g, j, none⟩), .int .i64 1, .int .i64 1000000])) rfl rfl (fun _ => by kernel_rfl)) rfl rfl ?_)
 refine RX.cons rfl rfl (op_storeAll (i := 0) rfl rfl rfl rfl szt_84 rfl (plain_of rfl) rfl rfl ?_)
 refine RX.nil (XX.next (V' := [(2, .pointer (some ⟨g2, 0, none⟩))]) ⟨rfl, trivial⟩ ?_)
 refine CX.ret ?_
 exact ret_cell (i := 0) rfl rfl agg_84 rfl rfl fun w1 hw => ⟨rfl, hw.sub (List.nil_sublist _)⟩

set_option maxRecDepth 100000 in
theorem w_fterritory {w : World} (g j : Nat) :
    Calls Tryz.prog 105 #[.pointer (some ⟨g, j, none⟩)] w (fun e w' => e = .returned (.agg (#[.pointer (some ⟨g, j, none⟩), .int .i64 0, .int .i64 7])) ∧ SL w [] w' []) := by
 refine calls_of_CX (O := []) (L := []) (args := [.pointer (some ⟨g, j, none⟩)]) Tryz.func105 rfl (by simp [Tryz.ntmps105]) (SL.refl w) ?_
 refine CX.sub (V' := [(0, .pointer (some ⟨g, j, none⟩))]) ⟨rfl, trivial⟩ ?_
 refine CX.seq ?_
 refine CX.region ?_
 refine RX.cons rfl rfl (op_alloc rfl rfl rfl zero_84 fun g2 => ?_)
 refine RX.nil (XX.next (V' := [(0, _), (2, .pointer (some ⟨g2, 0, none⟩))]) ⟨rfl, rfl, trivial⟩ ?_)
 refine CX.seq ?_
 refine CX.region ?_
 refine RX.cons rfl rfl (op_w (yw_move rfl rfl) rfl rfl ?_)
 refine RX.cons rfl rfl (op_w (yw_build (v := .agg (#[.pointer (some ⟨g, j, none⟩), .int .i64 0, .int .i64 7])) rfl rfl (fun _ => by kernel_rfl)) rfl rfl ?_)
 refine RX.cons rfl rfl (op_storeAll (i := 0) rfl rfl rfl rfl szt_84 rfl (plain_of rfl) rfl rfl ?_)
 refine RX.nil (XX.next (V' := [(2, .pointer (some ⟨g2, 0, none⟩))]) ⟨rfl, trivial⟩ ?_)
 refine CX.ret ?_
 exact ret_cell (i := 0) rfl rfl agg_84 rfl rfl fun w1 hw => ⟨rfl, hw.sub (List.nil_sublist _)⟩

set_option maxRecDepth 100000 in
theorem w_fperiod {w : World} (g j : Nat) :
    Calls Tryz.prog 106 #[.pointer (some ⟨g, j, none⟩)] w (fun e w' => e = .returned (.agg (#[.pointer (some ⟨g, j, none⟩), .int .i64 0, .int .i64 1199])) ∧ SL w [] w' []) := by
 refine calls_of_CX (O := []) (L := []) (args := [.pointer (some ⟨g, j, none⟩)]) Tryz.func106 rfl (by simp [Tryz.ntmps106]) (SL.refl w) ?_
 refine CX.sub (V' := [(0, .pointer (some ⟨g, j, none⟩))]) ⟨rfl, trivial⟩ ?_
 refine CX.seq ?_
 refine CX.region ?_
 refine RX.cons rfl rfl (op_alloc rfl rfl rfl zero_84 fun g2 => ?_)
 refine RX.nil (XX.next (V' := [(0, _), (2, .pointer (some ⟨g2, 0, none⟩))]) ⟨rfl, rfl, trivial⟩ ?_)
 refine CX.seq ?_
 refine CX.region ?_
 refine RX.cons rfl rfl (op_w (yw_move rfl rfl) rfl rfl ?_)
 refine RX.cons rfl rfl (op_w (yw_build (v := .agg (#[.pointer (some ⟨g, j, none⟩), .int .i64 0, .int .i64 1199])) rfl rfl (fun _ => by kernel_rfl)) rfl rfl ?_)
 refine RX.cons rfl rfl (op_storeAll (i := 0) rfl rfl rfl rfl szt_84 rfl (plain_of rfl) rfl rfl ?_)
 refine RX.nil (XX.next (V' := [(2, .pointer (some ⟨g2, 0, none⟩))]) ⟨rfl, trivial⟩ ?_)
 refine CX.ret ?_
 exact ret_cell (i := 0) rfl rfl agg_84 rfl rfl fun w1 hw => ⟨rfl, hw.sub (List.nil_sublist _)⟩

set_option maxRecDepth 100000 in
theorem w_isWithin {w : World} {g j : Nat} (v lo hi : Int) (hc : w.cell? ⟨g, j, none⟩ = some (.int .i64 v)) :
    Calls Tryz.prog 33 #[.agg (#[.pointer (some ⟨g, j, none⟩), .int .i64 lo, .int .i64 hi])] w (fun e w' => e = .returned (.bool (within v lo hi)) ∧ SL w [] w' []) := by
 refine calls_of_CX (O := []) (L := []) (args := [.agg (#[.pointer (some ⟨g, j, none⟩), .int .i64 lo, .int .i64 hi])]) Tryz.func33 rfl (by simp [Tryz.ntmps33]) (SL.refl w) ?_
 refine CX.sub (V' := [(0, .agg (#[.pointer (some ⟨g, j, none⟩), .int .i64 lo, .int .i64 hi]))]) ⟨rfl, trivial⟩ ?_
 refine CX.seq ?_
 refine CX.region ?_
 refine RX.cons rfl rfl (op_box rfl rfl rfl rfl fun g1 => ?_)
 refine RX.cons rfl rfl (op_w (yw_assign rfl rfl) rfl rfl ?_)
 refine RX.nil (XX.next (V' := [(1, _)]) ⟨rfl, trivial⟩ ?_)
 refine CX.seq ?_
 refine CX.draw 17 [(0, 2, 8), (1, 8, 16), (2, 16, 32), (4, 32, 64), (0, 2, 128), (16, 128, 256), (40, 320, 512), (64, 512, 1024), (128, 1026, 2048), (384, 3072, 4096), (640, 5120, 8192), (1152, 9216, 16384), (128, 1026, 32768), (4224, 33792, 65536), (10368, 82944, 131072), (16512, 132096, 262144), (65535, 262144, 4)] (by kernel_rfl) (by kernel_rfl) (by kernel_rfl) ?_
 refine DX.takeW 0 1 (by kernel_rfl) rfl rfl rfl rfl rfl (yw_field0 rfl fld_84_0 rfl) ?_
 refine DX.take 1 3 (by kernel_rfl) rfl rfl rfl rfl rfl (List.Sublist.refl _) (y_load (i := 0) rfl rfl one_82 rfl rfl) ?_
 refine DX.takeW 2 7 (by kernel_rfl) rfl rfl rfl rfl rfl (yw_nilCheck rfl rfl) ?_
 refine DX.take 3 15 (by kernel_rfl) rfl rfl rfl rfl rfl (List.Sublist.refl _) (y_loadG (v := .int .i64 v) rfl rfl one_3 hc (by simp)) ?_
 refine DX.takeW 4 31 (by kernel_rfl) rfl rfl rfl rfl rfl (yw_fieldAddr rfl fld_84_1 rfl) ?_
 refine DX.take 5 63 (by kernel_rfl) rfl rfl rfl rfl rfl (List.Sublist.refl _) (y_load (i := 0) rfl rfl one_3 rfl rfl) ?_
 refine DX.takeW 6 127 (by kernel_rfl) rfl rfl rfl rfl rfl (yw_geq rfl rfl rfl) ?_
 refine DX.takeW 7 255 (by kernel_rfl) rfl rfl rfl rfl rfl (yw_move rfl rfl) ?_
 refine DX.splitD (t := 10) (p := lo ≤ v) rfl (fun d10 => ?_) (fun d10 => ?_)
 ·refine DX.takeWG 8 511 (by kernel_rfl) rfl rfl rfl rfl rfl rfl rfl rfl (yw_field0 rfl fld_84_0 rfl) ?_
  refine DX.takeG 9 1023 (by kernel_rfl) rfl rfl rfl rfl rfl rfl rfl rfl (List.Sublist.refl _) (y_load (i := 0) rfl rfl one_82 rfl rfl) ?_
  refine DX.takeWG 10 2047 (by kernel_rfl) rfl rfl rfl rfl rfl rfl rfl rfl (yw_nilCheck rfl rfl) ?_
  refine DX.takeG 11 4095 (by kernel_rfl) rfl rfl rfl rfl rfl rfl rfl rfl (List.Sublist.refl _) (y_loadG (v := .int .i64 v) rfl rfl one_3 hc (by simp)) ?_
  refine DX.takeWG 12 8191 (by kernel_rfl) rfl rfl rfl rfl rfl rfl rfl rfl (yw_fieldAddr rfl fld_84_2 rfl) ?_
  refine DX.takeG 13 16383 (by kernel_rfl) rfl rfl rfl rfl rfl rfl rfl rfl (List.Sublist.refl _) (y_load (i := 0) rfl rfl one_3 rfl rfl) ?_
  refine DX.takeWG 14 32767 (by kernel_rfl) rfl rfl rfl rfl rfl rfl rfl rfl (yw_leq rfl rfl rfl) ?_
  refine DX.takeW 15 65535 (by kernel_rfl) rfl rfl rfl rfl rfl (yw_pickT rfl rfl rfl) ?_
  refine DX.takeW 16 131071 (by kernel_rfl) rfl rfl rfl rfl rfl (yw_assign rfl rfl) ?_
  refine DX.done (by kernel_rfl) (XX.next (V' := [(2, .bool (decide (v ≤ hi)))]) ⟨rfl, trivial⟩ ?_)
  refine CX.ret ?_
  exact ret_tmp rfl rfl fun w1 hw => ⟨by simp [within, *], hw.sub (List.nil_sublist _)⟩
 ·refine DX.skip 8 511 (by kernel_rfl) rfl rfl rfl rfl rfl rfl rfl rfl ?_
  refine DX.skip 9 1023 (by kernel_rfl) rfl rfl rfl rfl rfl rfl rfl rfl ?_
  refine DX.skip 10 2047 (by kernel_rfl) rfl rfl rfl rfl rfl rfl rfl rfl ?_
  refine DX.skip 11 4095 (by kernel_rfl) rfl rfl rfl rfl rfl rfl rfl rfl ?_
  refine DX.skip 12 8191 (by kernel_rfl) rfl rfl rfl rfl rfl rfl rfl rfl ?_
  refine DX.skip 13 16383 (by kernel_rfl) rfl rfl rfl rfl rfl rfl rfl rfl ?_
  refine DX.skip 14 32767 (by kernel_rfl) rfl rfl rfl rfl rfl rfl rfl rfl ?_
  refine DX.takeW 15 65535 (by kernel_rfl) rfl rfl rfl rfl rfl (yw_pickF rfl rfl rfl) ?_
  refine DX.takeW 16 131071 (by kernel_rfl) rfl rfl rfl rfl rfl (yw_assign rfl rfl) ?_
  refine DX.done (by kernel_rfl) (XX.next (V' := [(2, .bool false)]) ⟨rfl, trivial⟩ ?_)
  refine CX.ret ?_
  exact ret_tmp rfl rfl fun w1 hw => ⟨by simp [within, *], hw.sub (List.nil_sublist _)⟩

end Go.Proofs.YtpcfgoadkfajfaaGreatDoor
namespace Go.Proofs.YtpcfgoadkfajfaaGreatDoor
set_option linter.all false
open Go Go.RowKit
set_option maxRecDepth 100000
theorem fld_80_0 : Fld Tryz.prog 80 0 0 := ⟨_, _, (Tryz.prog.info? 27).get!, Tryz.underlying80, rfl, rfl, by kernel_rfl, by decide +kernel⟩
theorem fld_27_5 : Fld Tryz.prog 27 5 5 := ⟨_, _, (Tryz.prog.info? 3).get!, Tryz.underlying27, rfl, rfl, by kernel_rfl, by decide +kernel⟩
theorem fld_27_7 : Fld Tryz.prog 27 7 7 := ⟨_, _, (Tryz.prog.info? 3).get!, Tryz.underlying27, rfl, rfl, by kernel_rfl, by decide +kernel⟩
theorem fld_27_8 : Fld Tryz.prog 27 8 8 := ⟨_, _, (Tryz.prog.info? 3).get!, Tryz.underlying27, rfl, rfl, by kernel_rfl, by decide +kernel⟩
theorem fld_27_4 : Fld Tryz.prog 27 4 4 := ⟨_, _, (Tryz.prog.info? 3).get!, Tryz.underlying27, rfl, rfl, by kernel_rfl, by decide +kernel⟩
theorem fld_27_13 : Fld Tryz.prog 27 13 13 := ⟨_, _, (Tryz.prog.info? 3).get!, Tryz.underlying27, rfl, rfl, by kernel_rfl, by decide +kernel⟩
theorem ent_104 : ∀ args w, (callFunc 104 args).run Tryz.prog w = .ok (.enter 104 args) w := enters_of Tryz.func104 (by kernel_rfl) rfl
theorem ent_105 : ∀ args w, (callFunc 105 args).run Tryz.prog w = .ok (.enter 105 args) w := enters_of Tryz.func105 (by kernel_rfl) rfl
theorem slb_81 : SlB Tryz.prog 81 84 3 24 (.agg (#[.pointer none, .int .i64 0, .int .i64 0])) := ⟨Tryz.underlying81, ⟨(Tryz.prog.info? 84).get!, by kernel_rfl, by kernel_rfl, by kernel_rfl, by kernel_rfl⟩, by decide, by decide⟩
theorem fld_27_9 : Fld Tryz.prog 27 9 9 := ⟨_, _, (Tryz.prog.info? 3).get!, Tryz.underlying27, rfl, rfl, by kernel_rfl, by decide +kernel⟩
theorem fld_27_10 : Fld Tryz.prog 27 10 10 := ⟨_, _, (Tryz.prog.info? 3).get!, Tryz.underlying27, rfl, rfl, by kernel_rfl, by decide +kernel⟩
theorem fld_27_11 : Fld Tryz.prog 27 11 11 := ⟨_, _, (Tryz.prog.info? 3).get!, Tryz.underlying27, rfl, rfl, by kernel_rfl, by decide +kernel⟩
theorem fld_27_12 : Fld Tryz.prog 27 12 12 := ⟨_, _, (Tryz.prog.info? 3).get!, Tryz.underlying27, rfl, rfl, by kernel_rfl, by decide +kernel⟩
theorem fld_27_14 : Fld Tryz.prog 27 14 14 := ⟨_, _, (Tryz.prog.info? 3).get!, Tryz.underlying27, rfl, rfl, by kernel_rfl, by decide +kernel⟩
theorem ent_106 : ∀ args w, (callFunc 106 args).run Tryz.prog w = .ok (.enter 106 args) w := enters_of Tryz.func106 (by kernel_rfl) rfl
theorem fld_27_3 : Fld Tryz.prog 27 3 3 := ⟨_, _, (Tryz.prog.info? 3).get!, Tryz.underlying27, rfl, rfl, by kernel_rfl, by decide +kernel⟩
theorem fld_27_15 : Fld Tryz.prog 27 15 15 := ⟨_, _, (Tryz.prog.info? 3).get!, Tryz.underlying27, rfl, rfl, by kernel_rfl, by decide +kernel⟩
set_option maxRecDepth 100000 in
theorem w_f_play {w : World} {g5 : Nat} (f : Fc) (hs : SL w [g5] w [.blk g5 (.cells (fcC f) 80 (0, 0))]) :
    Calls Tryz.prog 56 #[.pointer (some ⟨g5, 0, none⟩)] w (fun e w' => ∃ z : Nat, True ∧ e = .returned (.slice (some ⟨z, 0, none⟩) 8 8) ∧ SL w [g5] w' [.blk g5 (.cells (fcC f) 80 (0, 0)), .row (some ⟨z, 0, none⟩) 8 84 3 (List.map (fdC g5) [(1, 1, 1000000), (5, 1, 1000000), (6, 1, 1000000), (7, 1, 1000000), (8, 0, 7), (4, 0, 3155759999), (13, 0, 86400000), (16, 0, 1)])]) := by
 refine calls_of_CX (O := [g5]) (L := [.blk g5 (.cells (fcC f) 80 (0, 0))]) (args := [.pointer (some ⟨g5, 0, none⟩)]) Tryz.func56 rfl (by simp [Tryz.ntmps56]) hs ?_
 refine CX.sub (V' := [(0, .pointer (some ⟨g5, 0, none⟩))]) ⟨rfl, trivial⟩ ?_
 refine CX.seq ?_
 refine CX.region ?_
 refine RX.cons rfl rfl (op_w (yw_assign rfl rfl) rfl rfl ?_)
 refine RX.nil (XX.next (V' := [(0, _)]) ⟨rfl, trivial⟩ ?_)
 refine CX.seq ?_
 refine CX.draw 42 [(0, 1, 8), (1, 8, 16), (2, 16, 32), (4, 32, 64), (8, 64, 128), (0, 1, 256), (32, 256, 512), (64, 512, 1024), (128, 1024, 2048), (272, 2048, 4096), (0, 1, 8192), (1024, 8192, 16384), (2048, 16384, 32768), (4096, 32768, 65536), (8704, 65536, 131072), (0, 1, 262144), (32768, 262144, 524288), (65536, 524288, 1048576), (131072, 1048576, 2097152), (278528, 2097152, 4194304), (0, 1, 8388608), (1048576, 8388608, 16777216), (2097152, 16777216, 33554432), (4194304, 33554432, 67108864), (8912896, 67108864, 134217728), (0, 1, 268435456), (33554432, 268435456, 536870912), (67108864, 536870912, 1073741824), (134217728, 1073741824, 2147483648), (268435456, 2147483648, 4294967296), (0, 1, 8589934592), (1073741824, 8589934592, 17179869184), (2147483648, 17179869184, 34359738368), (4294967296, 34359738368, 68719476736), (8589934592, 68719476736, 137438953472), (0, 1, 274877906944), (34359738368, 274877906944, 549755813888), (68719476736, 549755813888, 1099511627776), (137438953472, 1099511627776, 2199023255552), (274877906944, 2199023255552, 4398046511104), (567489872400, 4539918979200, 8796093022208), (2199023255551, 8796093022208, 4)] (by kernel_rfl) (by kernel_rfl) (by kernel_rfl) ?_
 refine DX.takeW 0 1 (by kernel_rfl) rfl rfl rfl rfl rfl (yw_move rfl rfl) ?_
 refine DX.takeW 1 3 (by kernel_rfl) rfl rfl rfl rfl rfl (yw_nilCheck rfl rfl) ?_
 refine DX.takeW 2 7 (by kernel_rfl) rfl rfl rfl rfl rfl (yw_field0 rfl fld_80_0 rfl) ?_
 refine DX.takeW 3 15 (by kernel_rfl) rfl rfl rfl rfl rfl (yw_fieldAddr rfl fld_27_1 rfl) ?_
 refine DX.takeW 5 47 (by kernel_rfl) rfl rfl rfl rfl rfl (yw_move rfl rfl) ?_
 refine DX.takeW 6 111 (by kernel_rfl) rfl rfl rfl rfl rfl (yw_nilCheck rfl rfl) ?_
 refine DX.takeW 7 239 (by kernel_rfl) rfl rfl rfl rfl rfl (yw_field0 rfl fld_80_0 rfl) ?_
 refine DX.takeW 8 495 (by kernel_rfl) rfl rfl rfl rfl rfl (yw_fieldAddr rfl fld_27_5 rfl) ?_
 refine DX.takeW 10 1519 (by kernel_rfl) rfl rfl rfl rfl rfl (yw_move rfl rfl) ?_
 refine DX.takeW 11 3567 (by kernel_rfl) rfl rfl rfl rfl rfl (yw_nilCheck rfl rfl) ?_
 refine DX.takeW 12 7663 (by kernel_rfl) rfl rfl rfl rfl rfl (yw_field0 rfl fld_80_0 rfl) ?_
 refine DX.takeW 13 15855 (by kernel_rfl) rfl rfl rfl rfl rfl (yw_fieldAddr rfl fld_27_6 rfl) ?_
 refine DX.takeW 15 48623 (by kernel_rfl) rfl rfl rfl rfl rfl (yw_move rfl rfl) ?_
 refine DX.takeW 16 114159 (by kernel_rfl) rfl rfl rfl rfl rfl (yw_nilCheck rfl rfl) ?_
 refine DX.takeW 17 245231 (by kernel_rfl) rfl rfl rfl rfl rfl (yw_field0 rfl fld_80_0 rfl) ?_
 refine DX.takeW 18 507375 (by kernel_rfl) rfl rfl rfl rfl rfl (yw_fieldAddr rfl fld_27_7 rfl) ?_
 refine DX.takeW 20 1555951 (by kernel_rfl) rfl rfl rfl rfl rfl (yw_move rfl rfl) ?_
 refine DX.takeW 21 3653103 (by kernel_rfl) rfl rfl rfl rfl rfl (yw_nilCheck rfl rfl) ?_
 refine DX.takeW 22 7847407 (by kernel_rfl) rfl rfl rfl rfl rfl (yw_field0 rfl fld_80_0 rfl) ?_
 refine DX.takeW 23 16236015 (by kernel_rfl) rfl rfl rfl rfl rfl (yw_fieldAddr rfl fld_27_8 rfl) ?_
 refine DX.takeW 25 49790447 (by kernel_rfl) rfl rfl rfl rfl rfl (yw_move rfl rfl) ?_
 refine DX.takeW 26 116899311 (by kernel_rfl) rfl rfl rfl rfl rfl (yw_nilCheck rfl rfl) ?_
 refine DX.takeW 27 251117039 (by kernel_rfl) rfl rfl rfl rfl rfl (yw_field0 rfl fld_80_0 rfl) ?_
 refine DX.takeW 28 519552495 (by kernel_rfl) rfl rfl rfl rfl rfl (yw_fieldAddr rfl fld_27_4 rfl) ?_
 refine DX.takeW 29 1056423407 (by kernel_rfl) rfl rfl rfl rfl rfl (yw_build (v := .agg (#[.pointer (some ⟨g5, 4, none⟩), .int .i64 0, .int .i64 3155759999])) rfl rfl (fun _ => by kernel_rfl)) ?_
 refine DX.takeW 30 2130165231 (by kernel_rfl) rfl rfl rfl rfl rfl (yw_move rfl rfl) ?_
 refine DX.takeW 31 4277648879 (by kernel_rfl) rfl rfl rfl rfl rfl (yw_nilCheck rfl rfl) ?_
 refine DX.takeW 32 8572616175 (by kernel_rfl) rfl rfl rfl rfl rfl (yw_field0 rfl fld_80_0 rfl) ?_
 refine DX.takeW 33 17162550767 (by kernel_rfl) rfl rfl rfl rfl rfl (yw_fieldAddr rfl fld_27_13 rfl) ?_
 refine DX.takeW 34 34342419951 (by kernel_rfl) rfl rfl rfl rfl rfl (yw_build (v := .agg (#[.pointer (some ⟨g5, 13, none⟩), .int .i64 0, .int .i64 86400000])) rfl rfl (fun _ => by kernel_rfl)) ?_
 refine DX.takeW 35 68702158319 (by kernel_rfl) rfl rfl rfl rfl rfl (yw_move rfl rfl) ?_
 refine DX.takeW 36 137421635055 (by kernel_rfl) rfl rfl rfl rfl rfl (yw_nilCheck rfl rfl) ?_
 refine DX.takeW 37 274860588527 (by kernel_rfl) rfl rfl rfl rfl rfl (yw_field0 rfl fld_80_0 rfl) ?_
 refine DX.takeW 38 549738495471 (by kernel_rfl) rfl rfl rfl rfl rfl (yw_fieldAddr rfl fld_27_16 rfl) ?_
 refine DX.takeW 39 1099494309359 (by kernel_rfl) rfl rfl rfl rfl rfl (yw_build (v := .agg (#[.pointer (some ⟨g5, 16, none⟩), .int .i64 0, .int .i64 1])) rfl rfl (fun _ => by kernel_rfl)) ?_
 refine DX.step 4 1099494309375 (by kernel_rfl) rfl rfl rfl (op_callV (v := .agg (#[.pointer (some ⟨g5, 1, none⟩), .int .i64 1, .int .i64 1000000])) rfl rfl rfl rfl rfl ent_104 (fun w _ => w_fid g5 1) (DXs.mk (List.Sublist.refl _) ?_))
 refine DX.step 9 1099494309887 (by kernel_rfl) rfl rfl rfl (op_callV (v := .agg (#[.pointer (some ⟨g5, 5, none⟩), .int .i64 1, .int .i64 1000000])) rfl rfl rfl rfl rfl ent_104 (fun w _ => w_fid g5 5) (DXs.mk (List.Sublist.refl _) ?_))
 refine DX.step 14 1099494326271 (by kernel_rfl) rfl rfl rfl (op_callV (v := .agg (#[.pointer (some ⟨g5, 6, none⟩), .int .i64 1, .int .i64 1000000])) rfl rfl rfl rfl rfl ent_104 (fun w _ => w_fid g5 6) (DXs.mk (List.Sublist.refl _) ?_))
 refine DX.step 19 1099494850559 (by kernel_rfl) rfl rfl rfl (op_callV (v := .agg (#[.pointer (some ⟨g5, 7, none⟩), .int .i64 1, .int .i64 1000000])) rfl rfl rfl rfl rfl ent_104 (fun w _ => w_fid g5 7) (DXs.mk (List.Sublist.refl _) ?_))
 refine DX.step 24 1099511627775 (by kernel_rfl) rfl rfl rfl (op_callV (v := .agg (#[.pointer (some ⟨g5, 8, none⟩), .int .i64 0, .int .i64 7])) rfl rfl rfl rfl rfl ent_105 (fun w _ => w_fterritory g5 8) (DXs.mk (List.Sublist.refl _) ?_))
 refine DX.step 40 2199023255551 (by kernel_rfl) rfl rfl rfl (op_buildSlice rfl rfl rfl slb_81 rfl rfl (by intro v hv; simp only [List.mem_cons, List.not_mem_nil, or_false] at hv; rcases hv with rfl | rfl | rfl | rfl | rfl | rfl | rfl | rfl <;> exact ⟨rfl, (plain_of rfl)⟩) (by decide) fun fr => (DXs.mk (List.Sublist.cons _ (List.Sublist.refl _)) ?_))
 refine DX.takeW 41 4398046511103 (by kernel_rfl) rfl rfl rfl rfl rfl (yw_assign rfl rfl) ?_
 refine DX.done (by kernel_rfl) (XX.next (V' := [(2, .slice (some ⟨fr, 0, none⟩) 8 8)]) ⟨rfl, trivial⟩ ?_)
 refine CX.ret ?_
 exact ret_tmp rfl rfl fun w1 hw => ⟨fr, trivial, rfl, hw.pick ((perm_pick 1 rfl).trans (List.Perm.cons _ ((perm_pick 0 rfl).trans (List.Perm.cons _ (List.Perm.refl _)))))⟩

set_option maxRecDepth 100000 in
theorem w_f_mark {w : World} {g5 : Nat} (f : Fc) (hs : SL w [g5] w [.blk g5 (.cells (fcC f) 80 (0, 0))]) :
    Calls Tryz.prog 58 #[.pointer (some ⟨g5, 0, none⟩)] w (fun e w' => ∃ z : Nat, True ∧ e = .returned (.slice (some ⟨z, 0, none⟩) 3 3) ∧ SL w [g5] w' [.blk g5 (.cells (fcC f) 80 (0, 0)), .row (some ⟨z, 0, none⟩) 3 84 3 (List.map (fdC g5) [(6, 1, 1000000), (1, 1, 1000000), (16, 1, 3)])]) := by
 refine calls_of_CX (O := [g5]) (L := [.blk g5 (.cells (fcC f) 80 (0, 0))]) (args := [.pointer (some ⟨g5, 0, none⟩)]) Tryz.func58 rfl (by simp [Tryz.ntmps58]) hs ?_
 refine CX.sub (V' := [(0, .pointer (some ⟨g5, 0, none⟩))]) ⟨rfl, trivial⟩ ?_
 refine CX.seq ?_
 refine CX.region ?_
 refine RX.cons rfl rfl (op_w (yw_assign rfl rfl) rfl rfl ?_)
 refine RX.nil (XX.next (V' := [(0, _)]) ⟨rfl, trivial⟩ ?_)
 refine CX.seq ?_
 refine CX.draw 17 [(0, 1, 8), (1, 8, 16), (2, 16, 32), (4, 32, 64), (8, 64, 128), (0, 1, 256), (32, 256, 512), (64, 512, 1024), (128, 1024, 2048), (272, 2048, 4096), (0, 1, 8192), (1024, 8192, 16384), (2048, 16384, 32768), (4096, 32768, 65536), (8192, 65536, 131072), (16912, 135296, 262144), (65535, 262144, 4)] (by kernel_rfl) (by kernel_rfl) (by kernel_rfl) ?_
 refine DX.takeW 0 1 (by kernel_rfl) rfl rfl rfl rfl rfl (yw_move rfl rfl) ?_
 refine DX.takeW 1 3 (by kernel_rfl) rfl rfl rfl rfl rfl (yw_nilCheck rfl rfl) ?_
 refine DX.takeW 2 7 (by kernel_rfl) rfl rfl rfl rfl rfl (yw_field0 rfl fld_80_0 rfl) ?_
 refine DX.takeW 3 15 (by kernel_rfl) rfl rfl rfl rfl rfl (yw_fieldAddr rfl fld_27_6 rfl) ?_
 refine DX.takeW 5 47 (by kernel_rfl) rfl rfl rfl rfl rfl (yw_move rfl rfl) ?_
 refine DX.takeW 6 111 (by kernel_rfl) rfl rfl rfl rfl rfl (yw_nilCheck rfl rfl) ?_
 refine DX.takeW 7 239 (by kernel_rfl) rfl rfl rfl rfl rfl (yw_field0 rfl fld_80_0 rfl) ?_
 refine DX.takeW 8 495 (by kernel_rfl) rfl rfl rfl rfl rfl (yw_fieldAddr rfl fld_27_1 rfl) ?_
 refine DX.takeW 10 1519 (by kernel_rfl) rfl rfl rfl rfl rfl (yw_move rfl rfl) ?_
 refine DX.takeW 11 3567 (by kernel_rfl) rfl rfl rfl rfl rfl (yw_nilCheck rfl rfl) ?_
 refine DX.takeW 12 7663 (by kernel_rfl) rfl rfl rfl rfl rfl (yw_field0 rfl fld_80_0 rfl) ?_
 refine DX.takeW 13 15855 (by kernel_rfl) rfl rfl rfl rfl rfl (yw_fieldAddr rfl fld_27_16 rfl) ?_
 refine DX.takeW 14 32239 (by kernel_rfl) rfl rfl rfl rfl rfl (yw_build (v := .agg (#[.pointer (some ⟨g5, 16, none⟩), .int .i64 1, .int .i64 3])) rfl rfl (fun _ => by kernel_rfl)) ?_
 refine DX.step 4 32255 (by kernel_rfl) rfl rfl rfl (op_callV (v := .agg (#[.pointer (some ⟨g5, 6, none⟩), .int .i64 1, .int .i64 1000000])) rfl rfl rfl rfl rfl ent_104 (fun w _ => w_fid g5 6) (DXs.mk (List.Sublist.refl _) ?_))
 refine DX.step 9 32767 (by kernel_rfl) rfl rfl rfl (op_callV (v := .agg (#[.pointer (some ⟨g5, 1, none⟩), .int .i64 1, .int .i64 1000000])) rfl rfl rfl rfl rfl ent_104 (fun w _ => w_fid g5 1) (DXs.mk (List.Sublist.refl _) ?_))
 refine DX.step 15 65535 (by kernel_rfl) rfl rfl rfl (op_buildSlice rfl rfl rfl slb_81 rfl rfl (by intro v hv; simp only [List.mem_cons, List.not_mem_nil, or_false] at hv; rcases hv with rfl | rfl | rfl <;> exact ⟨rfl, (plain_of rfl)⟩) (by decide) fun fr => (DXs.mk (List.Sublist.cons _ (List.Sublist.refl _)) ?_))
 refine DX.takeW 16 131071 (by kernel_rfl) rfl rfl rfl rfl rfl (yw_assign rfl rfl) ?_
 refine DX.done (by kernel_rfl) (XX.next (V' := [(2, .slice (some ⟨fr, 0, none⟩) 3 3)]) ⟨rfl, trivial⟩ ?_)
 refine CX.ret ?_
 exact ret_tmp rfl rfl fun w1 hw => ⟨fr, trivial, rfl, hw.pick ((perm_pick 1 rfl).trans (List.Perm.cons _ ((perm_pick 0 rfl).trans (List.Perm.cons _ (List.Perm.refl _)))))⟩

set_option maxRecDepth 100000 in
theorem w_f_claim {w : World} {g5 : Nat} (f : Fc) (hs : SL w [g5] w [.blk g5 (.cells (fcC f) 80 (0, 0))]) :
    Calls Tryz.prog 59 #[.pointer (some ⟨g5, 0, none⟩)] w (fun e w' => ∃ z : Nat, True ∧ e = .returned (.slice (some ⟨z, 0, none⟩) 8 8) ∧ SL w [g5] w' [.blk g5 (.cells (fcC f) 80 (0, 0)), .row (some ⟨z, 0, none⟩) 8 84 3 (List.map (fdC g5) [(1, 1, 1000000), (7, 1, 1000000), (9, 1, 1000000), (10, 1, 2), (8, 1, 255), (11, 0, IntKind.i64.wrap (Fc.till f - 1)), (12, 1, 1200), (14, 0, 1000000)])]) := by
 refine calls_of_CX (O := [g5]) (L := [.blk g5 (.cells (fcC f) 80 (0, 0))]) (args := [.pointer (some ⟨g5, 0, none⟩)]) Tryz.func59 rfl (by simp [Tryz.ntmps59]) hs ?_
 refine CX.sub (V' := [(0, .pointer (some ⟨g5, 0, none⟩))]) ⟨rfl, trivial⟩ ?_
 refine CX.seq ?_
 refine CX.region ?_
 refine RX.cons rfl rfl (op_w (yw_assign rfl rfl) rfl rfl ?_)
 refine RX.nil (XX.next (V' := [(0, _)]) ⟨rfl, trivial⟩ ?_)
 refine CX.seq ?_
 refine CX.draw 48 [(0, 1, 8), (1, 8, 16), (2, 16, 32), (4, 32, 64), (8, 64, 128), (0, 1, 256), (32, 256, 512), (64, 512, 1024), (128, 1024, 2048), (272, 2048, 4096), (0, 1, 8192), (1024, 8192, 16384), (2048, 16384, 32768), (4096, 32768, 65536), (8704, 65536, 131072), (0, 1, 262144), (32768, 262144, 524288), (65536, 524288, 1048576), (131072, 1048576, 2097152), (262144, 2097152, 4194304), (0, 1, 8388608), (1048576, 8388608, 16777216), (2097152, 16777216, 33554432), (4194304, 33554432, 67108864), (8388608, 67108864, 134217728), (0, 1, 268435456), (33554432, 268435456, 536870912), (67108864, 536870912, 1073741824), (134217728, 1073741824, 2147483648), (0, 1, 4294967296), (536870912, 4294967296, 8589934592), (1073741824, 8589934592, 17179869184), (2147483648, 17179869184, 34359738368), (4294967296, 34359738368, 68719476736), (8589934592, 68719476736, 137438953472), (17448304640, 139586437120, 274877906944), (0, 1, 549755813888), (68719476736, 549755813888, 1099511627776), (137438953472, 1099511627776, 2199023255552), (274877906944, 2199023255552, 4398046511104), (549755813888, 4398046511104, 8796093022208), (0, 1, 17592186044416), (2199023255552, 17592186044416, 35184372088832), (4398046511104, 35184372088832, 70368744177664), (8796093022208, 70368744177664, 140737488355328), (17592186044416, 140737488355328, 281474976710656), (36318260773392, 290546086187136, 562949953421312), (140737488355327, 562949953421312, 4)] (by kernel_rfl) (by kernel_rfl) (by kernel_rfl) ?_
 refine DX.takeW 0 1 (by kernel_rfl) rfl rfl rfl rfl rfl (yw_move rfl rfl) ?_
 refine DX.takeW 1 3 (by kernel_rfl) rfl rfl rfl rfl rfl (yw_nilCheck rfl rfl) ?_
 refine DX.takeW 2 7 (by kernel_rfl) rfl rfl rfl rfl rfl (yw_field0 rfl fld_80_0 rfl) ?_
 refine DX.takeW 3 15 (by kernel_rfl) rfl rfl rfl rfl rfl (yw_fieldAddr rfl fld_27_1 rfl) ?_
 refine DX.takeW 5 47 (by kernel_rfl) rfl rfl rfl rfl rfl (yw_move rfl rfl) ?_
 refine DX.takeW 6 111 (by kernel_rfl) rfl rfl rfl rfl rfl (yw_nilCheck rfl rfl) ?_
 refine DX.takeW 7 239 (by kernel_rfl) rfl rfl rfl rfl rfl (yw_field0 rfl fld_80_0 rfl) ?_
 refine DX.takeW 8 495 (by kernel_rfl) rfl rfl rfl rfl rfl (yw_fieldAddr rfl fld_27_7 rfl) ?_
 refine DX.takeW 10 1519 (by kernel_rfl) rfl rfl rfl rfl rfl (yw_move rfl rfl) ?_
 refine DX.takeW 11 3567 (by kernel_rfl) rfl rfl rfl rfl rfl (yw_nilCheck rfl rfl) ?_
 refine DX.takeW 12 7663 (by kernel_rfl) rfl rfl rfl rfl rfl (yw_field0 rfl fld_80_0 rfl) ?_
 refine DX.takeW 13 15855 (by kernel_rfl) rfl rfl rfl rfl rfl (yw_fieldAddr rfl fld_27_9 rfl) ?_
 refine DX.takeW 15 48623 (by kernel_rfl) rfl rfl rfl rfl rfl (yw_move rfl rfl) ?_
 refine DX.takeW 16 114159 (by kernel_rfl) rfl rfl rfl rfl rfl (yw_nilCheck rfl rfl) ?_
 refine DX.takeW 17 245231 (by kernel_rfl) rfl rfl rfl rfl rfl (yw_field0 rfl fld_80_0 rfl) ?_
 refine DX.takeW 18 507375 (by kernel_rfl) rfl rfl rfl rfl rfl (yw_fieldAddr rfl fld_27_10 rfl) ?_
 refine DX.takeW 19 1031663 (by kernel_rfl) rfl rfl rfl rfl rfl (yw_build (v := .agg (#[.pointer (some ⟨g5, 10, none⟩), .int .i64 1, .int .i64 2])) rfl rfl (fun _ => by kernel_rfl)) ?_
 refine DX.takeW 20 2080239 (by kernel_rfl) rfl rfl rfl rfl rfl (yw_move rfl rfl) ?_
 refine DX.takeW 21 4177391 (by kernel_rfl) rfl rfl rfl rfl rfl (yw_nilCheck rfl rfl) ?_
 refine DX.takeW 22 8371695 (by kernel_rfl) rfl rfl rfl rfl rfl (yw_field0 rfl fld_80_0 rfl) ?_
 refine DX.takeW 23 16760303 (by kernel_rfl) rfl rfl rfl rfl rfl (yw_fieldAddr rfl fld_27_8 rfl) ?_
 refine DX.takeW 24 33537519 (by kernel_rfl) rfl rfl rfl rfl rfl (yw_build (v := .agg (#[.pointer (some ⟨g5, 8, none⟩), .int .i64 1, .int .i64 255])) rfl rfl (fun _ => by kernel_rfl)) ?_
 refine DX.takeW 25 67091951 (by kernel_rfl) rfl rfl rfl rfl rfl (yw_move rfl rfl) ?_
 refine DX.takeW 26 134200815 (by kernel_rfl) rfl rfl rfl rfl rfl (yw_nilCheck rfl rfl) ?_
 refine DX.takeW 27 268418543 (by kernel_rfl) rfl rfl rfl rfl rfl (yw_field0 rfl fld_80_0 rfl) ?_
 refine DX.takeW 28 536853999 (by kernel_rfl) rfl rfl rfl rfl rfl (yw_fieldAddr rfl fld_27_11 rfl) ?_
 refine DX.takeW 29 1073724911 (by kernel_rfl) rfl rfl rfl rfl rfl (yw_move rfl rfl) ?_
 refine DX.takeW 30 2147466735 (by kernel_rfl) rfl rfl rfl rfl rfl (yw_nilCheck rfl rfl) ?_
 refine DX.takeW 31 4294950383 (by kernel_rfl) rfl rfl rfl rfl rfl (yw_field0 rfl fld_80_0 rfl) ?_
 refine DX.takeW 32 8589917679 (by kernel_rfl) rfl rfl rfl rfl rfl (yw_fieldAddr rfl fld_27_12 rfl) ?_
 refine DX.take 33 17179852271 (by kernel_rfl) rfl rfl rfl rfl rfl (List.Sublist.refl _) (y_load (i := 0) rfl rfl one_3 rfl rfl) ?_
 refine DX.takeW 34 34359721455 (by kernel_rfl) rfl rfl rfl rfl rfl (yw_subw rfl rfl rfl) ?_
 refine DX.takeW 35 68719459823 (by kernel_rfl) rfl rfl rfl rfl rfl (yw_build (v := .agg (#[.pointer (some ⟨g5, 11, none⟩), .int .i64 0, .int .i64 (IntKind.i64.wrap ((Fc.till f) - 1))])) rfl rfl (fun _ => by kernel_rfl)) ?_
 refine DX.takeW 36 137438936559 (by kernel_rfl) rfl rfl rfl rfl rfl (yw_move rfl rfl) ?_
 refine DX.takeW 37 274877890031 (by kernel_rfl) rfl rfl rfl rfl rfl (yw_nilCheck rfl rfl) ?_
 refine DX.takeW 38 549755796975 (by kernel_rfl) rfl rfl rfl rfl rfl (yw_field0 rfl fld_80_0 rfl) ?_
 refine DX.takeW 39 1099511610863 (by kernel_rfl) rfl rfl rfl rfl rfl (yw_fieldAddr rfl fld_27_12 rfl) ?_
 refine DX.takeW 40 2199023238639 (by kernel_rfl) rfl rfl rfl rfl rfl (yw_build (v := .agg (#[.pointer (some ⟨g5, 12, none⟩), .int .i64 1, .int .i64 1200])) rfl rfl (fun _ => by kernel_rfl)) ?_
 refine DX.takeW 41 4398046494191 (by kernel_rfl) rfl rfl rfl rfl rfl (yw_move rfl rfl) ?_
 refine DX.takeW 42 8796093005295 (by kernel_rfl) rfl rfl rfl rfl rfl (yw_nilCheck rfl rfl) ?_
 refine DX.takeW 43 17592186027503 (by kernel_rfl) rfl rfl rfl rfl rfl (yw_field0 rfl fld_80_0 rfl) ?_
 refine DX.takeW 44 35184372071919 (by kernel_rfl) rfl rfl rfl rfl rfl (yw_fieldAddr rfl fld_27_14 rfl) ?_
 refine DX.takeW 45 70368744160751 (by kernel_rfl) rfl rfl rfl rfl rfl (yw_build (v := .agg (#[.pointer (some ⟨g5, 14, none⟩), .int .i64 0, .int .i64 1000000])) rfl rfl (fun _ => by kernel_rfl)) ?_
 refine DX.step 4 70368744160767 (by kernel_rfl) rfl rfl rfl (op_callV (v := .agg (#[.pointer (some ⟨g5, 1, none⟩), .int .i64 1, .int .i64 1000000])) rfl rfl rfl rfl rfl ent_104 (fun w _ => w_fid g5 1) (DXs.mk (List.Sublist.refl _) ?_))
 refine DX.step 9 70368744161279 (by kernel_rfl) rfl rfl rfl (op_callV (v := .agg (#[.pointer (some ⟨g5, 7, none⟩), .int .i64 1, .int .i64 1000000])) rfl rfl rfl rfl rfl ent_104 (fun w _ => w_fid g5 7) (DXs.mk (List.Sublist.refl _) ?_))
 refine DX.step 14 70368744177663 (by kernel_rfl) rfl rfl rfl (op_callV (v := .agg (#[.pointer (some ⟨g5, 9, none⟩), .int .i64 1, .int .i64 1000000])) rfl rfl rfl rfl rfl ent_104 (fun w _ => w_fid g5 9) (DXs.mk (List.Sublist.refl _) ?_))
 refine DX.step 46 140737488355327 (by kernel_rfl) rfl rfl rfl (op_buildSlice rfl rfl rfl slb_81 rfl rfl (by intro v hv; simp only [List.mem_cons, List.not_mem_nil, or_false] at hv; rcases hv with rfl | rfl | rfl | rfl | rfl | rfl | rfl | rfl <;> exact ⟨rfl, (plain_of rfl)⟩) (by decide) fun fr => (DXs.mk (List.Sublist.cons _ (List.Sublist.refl _)) ?_))
 refine DX.takeW 47 281474976710655 (by kernel_rfl) rfl rfl rfl rfl rfl (yw_assign rfl rfl) ?_
 refine DX.done (by kernel_rfl) (XX.next (V' := [(2, .slice (some ⟨fr, 0, none⟩) 8 8)]) ⟨rfl, trivial⟩ ?_)
 refine CX.ret ?_
 exact ret_tmp rfl rfl fun w1 hw => ⟨fr, trivial, rfl, hw.pick ((perm_pick 1 rfl).trans (List.Perm.cons _ ((perm_pick 0 rfl).trans (List.Perm.cons _ (List.Perm.refl _)))))⟩

set_option maxRecDepth 100000 in
theorem w_f_contract {w : World} {g5 : Nat} (f : Fc) (hs : SL w [g5] w [.blk g5 (.cells (fcC f) 80 (0, 0))]) :
    Calls Tryz.prog 61 #[.pointer (some ⟨g5, 0, none⟩)] w (fun e w' => ∃ z : Nat, True ∧ e = .returned (.slice (some ⟨z, 0, none⟩) 2 2) ∧ SL w [g5] w' [.blk g5 (.cells (fcC f) 80 (0, 0)), .row (some ⟨z, 0, none⟩) 2 84 3 (List.map (fdC g5) [(9, 1, 1000000), (11, 0, 1199)])]) := by
 refine calls_of_CX (O := [g5]) (L := [.blk g5 (.cells (fcC f) 80 (0, 0))]) (args := [.pointer (some ⟨g5, 0, none⟩)]) Tryz.func61 rfl (by simp [Tryz.ntmps61]) hs ?_
 refine CX.sub (V' := [(0, .pointer (some ⟨g5, 0, none⟩))]) ⟨rfl, trivial⟩ ?_
 refine CX.seq ?_
 refine CX.region ?_
 refine RX.cons rfl rfl (op_w (yw_assign rfl rfl) rfl rfl ?_)
 refine RX.nil (XX.next (V' := [(0, _)]) ⟨rfl, trivial⟩ ?_)
 refine CX.seq ?_
 refine CX.draw 12 [(0, 1, 8), (1, 8, 16), (2, 16, 32), (4, 32, 64), (8, 64, 128), (0, 1, 256), (32, 256, 512), (64, 512, 1024), (128, 1024, 2048), (272, 2048, 4096), (528, 4224, 8192), (2047, 8192, 4)] (by kernel_rfl) (by kernel_rfl) (by kernel_rfl) ?_
 refine DX.takeW 0 1 (by kernel_rfl) rfl rfl rfl rfl rfl (yw_move rfl rfl) ?_
 refine DX.takeW 1 3 (by kernel_rfl) rfl rfl rfl rfl rfl (yw_nilCheck rfl rfl) ?_
 refine DX.takeW 2 7 (by kernel_rfl) rfl rfl rfl rfl rfl (yw_field0 rfl fld_80_0 rfl) ?_
 refine DX.takeW 3 15 (by kernel_rfl) rfl rfl rfl rfl rfl (yw_fieldAddr rfl fld_27_9 rfl) ?_
 refine DX.takeW 5 47 (by kernel_rfl) rfl rfl rfl rfl rfl (yw_move rfl rfl) ?_
 refine DX.takeW 6 111 (by kernel_rfl) rfl rfl rfl rfl rfl (yw_nilCheck rfl rfl) ?_
 refine DX.takeW 7 239 (by kernel_rfl) rfl rfl rfl rfl rfl (yw_field0 rfl fld_80_0 rfl) ?_
 refine DX.takeW 8 495 (by kernel_rfl) rfl rfl rfl rfl rfl (yw_fieldAddr rfl fld_27_11 rfl) ?_
 refine DX.step 4 511 (by kernel_rfl) rfl rfl rfl (op_callV (v := .agg (#[.pointer (some ⟨g5, 9, none⟩), .int .i64 1, .int .i64 1000000])) rfl rfl rfl rfl rfl ent_104 (fun w _ => w_fid g5 9) (DXs.mk (List.Sublist.refl _) ?_))
 refine DX.step 9 1023 (by kernel_rfl) rfl rfl rfl (op_callV (v := .agg (#[.pointer (some ⟨g5, 11, none⟩), .int .i64 0, .int .i64 1199])) rfl rfl rfl rfl rfl ent_106 (fun w _ => w_fperiod g5 11) (DXs.mk (List.Sublist.refl _) ?_))
 refine DX.step 10 2047 (by kernel_rfl) rfl rfl rfl (op_buildSlice rfl rfl rfl slb_81 rfl rfl (by intro v hv; simp only [List.mem_cons, List.not_mem_nil, or_false] at hv; rcases hv with rfl | rfl <;> exact ⟨rfl, (plain_of rfl)⟩) (by decide) fun fr => (DXs.mk (List.Sublist.cons _ (List.Sublist.refl _)) ?_))
 refine DX.takeW 11 4095 (by kernel_rfl) rfl rfl rfl rfl rfl (yw_assign rfl rfl) ?_
 refine DX.done (by kernel_rfl) (XX.next (V' := [(2, .slice (some ⟨fr, 0, none⟩) 2 2)]) ⟨rfl, trivial⟩ ?_)
 refine CX.ret ?_
 exact ret_tmp rfl rfl fun w1 hw => ⟨fr, trivial, rfl, hw.pick ((perm_pick 1 rfl).trans (List.Perm.cons _ ((perm_pick 0 rfl).trans (List.Perm.cons _ (List.Perm.refl _)))))⟩

set_option maxRecDepth 100000 in
theorem w_f_revenue {w : World} {g5 : Nat} (f : Fc) (hs : SL w [g5] w [.blk g5 (.cells (fcC f) 80 (0, 0))]) :
    Calls Tryz.prog 63 #[.pointer (some ⟨g5, 0, none⟩)] w (fun e w' => ∃ z : Nat, True ∧ e = .returned (.slice (some ⟨z, 0, none⟩) 5 5) ∧ SL w [g5] w' [.blk g5 (.cells (fcC f) 80 (0, 0)), .row (some ⟨z, 0, none⟩) 5 84 3 (List.map (fdC g5) [(1, 1, 1000000), (3, 0, 1199), (8, 0, 7), (13, 0, 10000000000), (15, 0, 20)])]) := by
 refine calls_of_CX (O := [g5]) (L := [.blk g5 (.cells (fcC f) 80 (0, 0))]) (args := [.pointer (some ⟨g5, 0, none⟩)]) Tryz.func63 rfl (by simp [Tryz.ntmps63]) hs ?_
 refine CX.sub (V' := [(0, .pointer (some ⟨g5, 0, none⟩))]) ⟨rfl, trivial⟩ ?_
 refine CX.seq ?_
 refine CX.region ?_
 refine RX.cons rfl rfl (op_w (yw_assign rfl rfl) rfl rfl ?_)
 refine RX.nil (XX.next (V' := [(0, _)]) ⟨rfl, trivial⟩ ?_)
 refine CX.seq ?_
 refine CX.draw 27 [(0, 1, 8), (1, 8, 16), (2, 16, 32), (4, 32, 64), (8, 64, 128), (0, 1, 256), (32, 256, 512), (64, 512, 1024), (128, 1024, 2048), (272, 2048, 4096), (0, 1, 8192), (1024, 8192, 16384), (2048, 16384, 32768), (4096, 32768, 65536), (8704, 65536, 131072), (0, 1, 262144), (32768, 262144, 524288), (65536, 524288, 1048576), (131072, 1048576, 2097152), (262144, 2097152, 4194304), (0, 1, 8388608), (1048576, 8388608, 16777216), (2097152, 16777216, 33554432), (4194304, 33554432, 67108864), (8388608, 67108864, 134217728), (17318416, 138547328, 268435456), (67108863, 268435456, 4)] (by kernel_rfl) (by kernel_rfl) (by kernel_rfl) ?_
 refine DX.takeW 0 1 (by kernel_rfl) rfl rfl rfl rfl rfl (yw_move rfl rfl) ?_
 refine DX.takeW 1 3 (by kernel_rfl) rfl rfl rfl rfl rfl (yw_nilCheck rfl rfl) ?_
 refine DX.takeW 2 7 (by kernel_rfl) rfl rfl rfl rfl rfl (yw_field0 rfl fld_80_0 rfl) ?_
 refine DX.takeW 3 15 (by kernel_rfl) rfl rfl rfl rfl rfl (yw_fieldAddr rfl fld_27_1 rfl) ?_
 refine DX.takeW 5 47 (by kernel_rfl) rfl rfl rfl rfl rfl (yw_move rfl rfl) ?_
 refine DX.takeW 6 111 (by kernel_rfl) rfl rfl rfl rfl rfl (yw_nilCheck rfl rfl) ?_
 refine DX.takeW 7 239 (by kernel_rfl) rfl rfl rfl rfl rfl (yw_field0 rfl fld_80_0 rfl) ?_
 refine DX.takeW 8 495 (by kernel_rfl) rfl rfl rfl rfl rfl (yw_fieldAddr rfl fld_27_3 rfl) ?_
 refine DX.takeW 10 1519 (by kernel_rfl) rfl rfl rfl rfl rfl (yw_move rfl rfl) ?_
 refine DX.takeW 11 3567 (by kernel_rfl) rfl rfl rfl rfl rfl (yw_nilCheck rfl rfl) ?_
 refine DX.takeW 12 7663 (by kernel_rfl) rfl rfl rfl rfl rfl (yw_field0 rfl fld_80_0 rfl) ?_
 refine DX.takeW 13 15855 (by kernel_rfl) rfl rfl rfl rfl rfl (yw_fieldAddr rfl fld_27_8 rfl) ?_
 refine DX.takeW 15 48623 (by kernel_rfl) rfl rfl rfl rfl rfl (yw_move rfl rfl) ?_
 refine DX.takeW 16 114159 (by kernel_rfl) rfl rfl rfl rfl rfl (yw_nilCheck rfl rfl) ?_
 refine DX.takeW 17 245231 (by kernel_rfl) rfl rfl rfl rfl rfl (yw_field0 rfl fld_80_0 rfl) ?_
 refine DX.takeW 18 507375 (by kernel_rfl) rfl rfl rfl rfl rfl (yw_fieldAddr rfl fld_27_13 rfl) ?_
 refine DX.takeW 19 1031663 (by kernel_rfl) rfl rfl rfl rfl rfl (yw_build (v := .agg (#[.pointer (some ⟨g5, 13, none⟩), .int .i64 0, .int .i64 10000000000])) rfl rfl (fun _ => by kernel_rfl)) ?_
 refine DX.takeW 20 2080239 (by kernel_rfl) rfl rfl rfl rfl rfl (yw_move rfl rfl) ?_
 refine DX.takeW 21 4177391 (by kernel_rfl) rfl rfl rfl rfl rfl (yw_nilCheck rfl rfl) ?_
 refine DX.takeW 22 8371695 (by kernel_rfl) rfl rfl rfl rfl rfl (yw_field0 rfl fld_80_0 rfl) ?_
 refine DX.takeW 23 16760303 (by kernel_rfl) rfl rfl rfl rfl rfl (yw_fieldAddr rfl fld_27_15 rfl) ?_
 refine DX.takeW 24 33537519 (by kernel_rfl) rfl rfl rfl rfl rfl (yw_build (v := .agg (#[.pointer (some ⟨g5, 15, none⟩), .int .i64 0, .int .i64 20])) rfl rfl (fun _ => by kernel_rfl)) ?_
 refine DX.step 4 33537535 (by kernel_rfl) rfl rfl rfl (op_callV (v := .agg (#[.pointer (some ⟨g5, 1, none⟩), .int .i64 1, .int .i64 1000000])) rfl rfl rfl rfl rfl ent_104 (fun w _ => w_fid g5 1) (DXs.mk (List.Sublist.refl _) ?_))
 refine DX.step 9 33538047 (by kernel_rfl) rfl rfl rfl (op_callV (v := .agg (#[.pointer (some ⟨g5, 3, none⟩), .int .i64 0, .int .i64 1199])) rfl rfl rfl rfl rfl ent_106 (fun w _ => w_fperiod g5 3) (DXs.mk (List.Sublist.refl _) ?_))
 refine DX.step 14 33554431 (by kernel_rfl) rfl rfl rfl (op_callV (v := .agg (#[.pointer (some ⟨g5, 8, none⟩), .int .i64 0, .int .i64 7])) rfl rfl rfl rfl rfl ent_105 (fun w _ => w_fterritory g5 8) (DXs.mk (List.Sublist.refl _) ?_))
 refine DX.step 25 67108863 (by kernel_rfl) rfl rfl rfl (op_buildSlice rfl rfl rfl slb_81 rfl rfl (by intro v hv; simp only [List.mem_cons, List.not_mem_nil, or_false] at hv; rcases hv with rfl | rfl | rfl | rfl | rfl <;> exact ⟨rfl, (plain_of rfl)⟩) (by decide) fun fr => (DXs.mk (List.Sublist.cons _ (List.Sublist.refl _)) ?_))
 refine DX.takeW 26 134217727 (by kernel_rfl) rfl rfl rfl rfl rfl (yw_assign rfl rfl) ?_
 refine DX.done (by kernel_rfl) (XX.next (V' := [(2, .slice (some ⟨fr, 0, none⟩) 5 5)]) ⟨rfl, trivial⟩ ?_)
 refine CX.ret ?_
 exact ret_tmp rfl rfl fun w1 hw => ⟨fr, trivial, rfl, hw.pick ((perm_pick 1 rfl).trans (List.Perm.cons _ ((perm_pick 0 rfl).trans (List.Perm.cons _ (List.Perm.refl _)))))⟩

set_option maxRecDepth 100000 in
theorem w_f_subscription {w : World} {g5 : Nat} (f : Fc) (hs : SL w [g5] w [.blk g5 (.cells (fcC f) 80 (0, 0))]) :
    Calls Tryz.prog 64 #[.pointer (some ⟨g5, 0, none⟩)] w (fun e w' => ∃ z : Nat, True ∧ e = .returned (.slice (some ⟨z, 0, none⟩) 5 5) ∧ SL w [g5] w' [.blk g5 (.cells (fcC f) 80 (0, 0)), .row (some ⟨z, 0, none⟩) 5 84 3 (List.map (fdC g5) [(5, 1, 1000000), (3, 0, 1199), (8, 0, 7), (13, 0, 1000000000), (15, 0, 20)])]) := by
 refine calls_of_CX (O := [g5]) (L := [.blk g5 (.cells (fcC f) 80 (0, 0))]) (args := [.pointer (some ⟨g5, 0, none⟩)]) Tryz.func64 rfl (by simp [Tryz.ntmps64]) hs ?_
 refine CX.sub (V' := [(0, .pointer (some ⟨g5, 0, none⟩))]) ⟨rfl, trivial⟩ ?_
 refine CX.seq ?_
 refine CX.region ?_
 refine RX.cons rfl rfl (op_w (yw_assign rfl rfl) rfl rfl ?_)
 refine RX.nil (XX.next (V' := [(0, _)]) ⟨rfl, trivial⟩ ?_)
 refine CX.seq ?_
 refine CX.draw 27 [(0, 1, 8), (1, 8, 16), (2, 16, 32), (4, 32, 64), (8, 64, 128), (0, 1, 256), (32, 256, 512), (64, 512, 1024), (128, 1024, 2048), (272, 2048, 4096), (0, 1, 8192), (1024, 8192, 16384), (2048, 16384, 32768), (4096, 32768, 65536), (8704, 65536, 131072), (0, 1, 262144), (32768, 262144, 524288), (65536, 524288, 1048576), (131072, 1048576, 2097152), (262144, 2097152, 4194304), (0, 1, 8388608), (1048576, 8388608, 16777216), (2097152, 16777216, 33554432), (4194304, 33554432, 67108864), (8388608, 67108864, 134217728), (17318416, 138547328, 268435456), (67108863, 268435456, 4)] (by kernel_rfl) (by kernel_rfl) (by kernel_rfl) ?_
 refine DX.takeW 0 1 (by kernel_rfl) rfl rfl rfl rfl rfl (yw_move rfl rfl) ?_
 refine DX.takeW 1 3 (by kernel_rfl) rfl rfl rfl rfl rfl (yw_nilCheck rfl rfl) ?_
 refine DX.takeW 2 7 (by kernel_rfl) rfl rfl rfl rfl rfl (yw_field0 rfl fld_80_0 rfl) ?_
 refine DX.takeW 3 15 (by kernel_rfl) rfl rfl rfl rfl rfl (yw_fieldAddr rfl fld_27_5 rfl) ?_
 refine DX.takeW 5 47 (by kernel_rfl) rfl rfl rfl rfl rfl (yw_move rfl rfl) ?_
 refine DX.takeW 6 111 (by kernel_rfl) rfl rfl rfl rfl rfl (yw_nilCheck rfl rfl) ?_
 refine DX.takeW 7 239 (by kernel_rfl) rfl rfl rfl rfl rfl (yw_field0 rfl fld_80_0 rfl) ?_
 refine DX.takeW 8 495 (by kernel_rfl) rfl rfl rfl rfl rfl (yw_fieldAddr rfl fld_27_3 rfl) ?_
 refine DX.takeW 10 1519 (by kernel_rfl) rfl rfl rfl rfl rfl (yw_move rfl rfl) ?_
 refine DX.takeW 11 3567 (by kernel_rfl) rfl rfl rfl rfl rfl (yw_nilCheck rfl rfl) ?_
 refine DX.takeW 12 7663 (by kernel_rfl) rfl rfl rfl rfl rfl (yw_field0 rfl fld_80_0 rfl) ?_
 refine DX.takeW 13 15855 (by kernel_rfl) rfl rfl rfl rfl rfl (yw_fieldAddr rfl fld_27_8 rfl) ?_
 refine DX.takeW 15 48623 (by kernel_rfl) rfl rfl rfl rfl rfl (yw_move rfl rfl) ?_
 refine DX.takeW 16 114159 (by kernel_rfl) rfl rfl rfl rfl rfl (yw_nilCheck rfl rfl) ?_
 refine DX.takeW 17 245231 (by kernel_rfl) rfl rfl rfl rfl rfl (yw_field0 rfl fld_80_0 rfl) ?_
 refine DX.takeW 18 507375 (by kernel_rfl) rfl rfl rfl rfl rfl (yw_fieldAddr rfl fld_27_13 rfl) ?_
 refine DX.takeW 19 1031663 (by kernel_rfl) rfl rfl rfl rfl rfl (yw_build (v := .agg (#[.pointer (some ⟨g5, 13, none⟩), .int .i64 0, .int .i64 1000000000])) rfl rfl (fun _ => by kernel_rfl)) ?_
 refine DX.takeW 20 2080239 (by kernel_rfl) rfl rfl rfl rfl rfl (yw_move rfl rfl) ?_
 refine DX.takeW 21 4177391 (by kernel_rfl) rfl rfl rfl rfl rfl (yw_nilCheck rfl rfl) ?_
 refine DX.takeW 22 8371695 (by kernel_rfl) rfl rfl rfl rfl rfl (yw_field0 rfl fld_80_0 rfl) ?_
 refine DX.takeW 23 16760303 (by kernel_rfl) rfl rfl rfl rfl rfl (yw_fieldAddr rfl fld_27_15 rfl) ?_
 refine DX.takeW 24 33537519 (by kernel_rfl) rfl rfl rfl rfl rfl (yw_build (v := .agg (#[.pointer (some ⟨g5, 15, none⟩), .int .i64 0, .int .i64 20])) rfl rfl (fun _ => by kernel_rfl)) ?_
 refine DX.step 4 33537535 (by kernel_rfl) rfl rfl rfl (op_callV (v := .agg (#[.pointer (some ⟨g5, 5, none⟩), .int .i64 1, .int .i64 1000000])) rfl rfl rfl rfl rfl ent_104 (fun w _ => w_fid g5 5) (DXs.mk (List.Sublist.refl _) ?_))
 refine DX.step 9 33538047 (by kernel_rfl) rfl rfl rfl (op_callV (v := .agg (#[.pointer (some ⟨g5, 3, none⟩), .int .i64 0, .int .i64 1199])) rfl rfl rfl rfl rfl ent_106 (fun w _ => w_fperiod g5 3) (DXs.mk (List.Sublist.refl _) ?_))
 refine DX.step 14 33554431 (by kernel_rfl) rfl rfl rfl (op_callV (v := .agg (#[.pointer (some ⟨g5, 8, none⟩), .int .i64 0, .int .i64 7])) rfl rfl rfl rfl rfl ent_105 (fun w _ => w_fterritory g5 8) (DXs.mk (List.Sublist.refl _) ?_))
 refine DX.step 25 67108863 (by kernel_rfl) rfl rfl rfl (op_buildSlice rfl rfl rfl slb_81 rfl rfl (by intro v hv; simp only [List.mem_cons, List.not_mem_nil, or_false] at hv; rcases hv with rfl | rfl | rfl | rfl | rfl <;> exact ⟨rfl, (plain_of rfl)⟩) (by decide) fun fr => (DXs.mk (List.Sublist.cons _ (List.Sublist.refl _)) ?_))
 refine DX.takeW 26 134217727 (by kernel_rfl) rfl rfl rfl rfl rfl (yw_assign rfl rfl) ?_
 refine DX.done (by kernel_rfl) (XX.next (V' := [(2, .slice (some ⟨fr, 0, none⟩) 5 5)]) ⟨rfl, trivial⟩ ?_)
 refine CX.ret ?_
 exact ret_tmp rfl rfl fun w1 hw => ⟨fr, trivial, rfl, hw.pick ((perm_pick 1 rfl).trans (List.Perm.cons _ ((perm_pick 0 rfl).trans (List.Perm.cons _ (List.Perm.refl _)))))⟩

set_option maxRecDepth 100000 in
theorem w_f_rate {w : World} {g5 : Nat} (f : Fc) (hs : SL w [g5] w [.blk g5 (.cells (fcC f) 80 (0, 0))]) :
    Calls Tryz.prog 66 #[.pointer (some ⟨g5, 0, none⟩)] w (fun e w' => ∃ z : Nat, True ∧ e = .returned (.slice (some ⟨z, 0, none⟩) 3 3) ∧ SL w [g5] w' [.blk g5 (.cells (fcC f) 80 (0, 0)), .row (some ⟨z, 0, none⟩) 3 84 3 (List.map (fdC g5) [(15, 1, 20), (3, 0, 1199), (13, 1, 10000000)])]) := by
 refine calls_of_CX (O := [g5]) (L := [.blk g5 (.cells (fcC f) 80 (0, 0))]) (args := [.pointer (some ⟨g5, 0, none⟩)]) Tryz.func66 rfl (by simp [Tryz.ntmps66]) hs ?_
 refine CX.sub (V' := [(0, .pointer (some ⟨g5, 0, none⟩))]) ⟨rfl, trivial⟩ ?_
 refine CX.seq ?_
 refine CX.region ?_
 refine RX.cons rfl rfl (op_w (yw_assign rfl rfl) rfl rfl ?_)
 refine RX.nil (XX.next (V' := [(0, _)]) ⟨rfl, trivial⟩ ?_)
 refine CX.seq ?_
 refine CX.draw 17 [(0, 1, 8), (1, 8, 16), (2, 16, 32), (4, 32, 64), (8, 64, 128), (0, 1, 256), (32, 256, 512), (64, 512, 1024), (128, 1024, 2048), (256, 2048, 4096), (0, 1, 8192), (1024, 8192, 16384), (2048, 16384, 32768), (4096, 32768, 65536), (8192, 65536, 131072), (16912, 135296, 262144), (65535, 262144, 4)] (by kernel_rfl) (by kernel_rfl) (by kernel_rfl) ?_
 refine DX.takeW 0 1 (by kernel_rfl) rfl rfl rfl rfl rfl (yw_move rfl rfl) ?_
 refine DX.takeW 1 3 (by kernel_rfl) rfl rfl rfl rfl rfl (yw_nilCheck rfl rfl) ?_
 refine DX.takeW 2 7 (by kernel_rfl) rfl rfl rfl rfl rfl (yw_field0 rfl fld_80_0 rfl) ?_
 refine DX.takeW 3 15 (by kernel_rfl) rfl rfl rfl rfl rfl (yw_fieldAddr rfl fld_27_15 rfl) ?_
 refine DX.takeW 4 31 (by kernel_rfl) rfl rfl rfl rfl rfl (yw_build (v := .agg (#[.pointer (some ⟨g5, 15, none⟩), .int .i64 1, .int .i64 20])) rfl rfl (fun _ => by kernel_rfl)) ?_
 refine DX.takeW 5 63 (by kernel_rfl) rfl rfl rfl rfl rfl (yw_move rfl rfl) ?_
 refine DX.takeW 6 127 (by kernel_rfl) rfl rfl rfl rfl rfl (yw_nilCheck rfl rfl) ?_
 refine DX.takeW 7 255 (by kernel_rfl) rfl rfl rfl rfl rfl (yw_field0 rfl fld_80_0 rfl) ?_
 refine DX.takeW 8 511 (by kernel_rfl) rfl rfl rfl rfl rfl (yw_fieldAddr rfl fld_27_3 rfl) ?_
 refine DX.takeW 10 1535 (by kernel_rfl) rfl rfl rfl rfl rfl (yw_move rfl rfl) ?_
 refine DX.takeW 11 3583 (by kernel_rfl) rfl rfl rfl rfl rfl (yw_nilCheck rfl rfl) ?_
 refine DX.takeW 12 7679 (by kernel_rfl) rfl rfl rfl rfl rfl (yw_field0 rfl fld_80_0 rfl) ?_
 refine DX.takeW 13 15871 (by kernel_rfl) rfl rfl rfl rfl rfl (yw_fieldAddr rfl fld_27_13 rfl) ?_
 refine DX.takeW 14 32255 (by kernel_rfl) rfl rfl rfl rfl rfl (yw_build (v := .agg (#[.pointer (some ⟨g5, 13, none⟩), .int .i64 1, .int .i64 10000000])) rfl rfl (fun _ => by kernel_rfl)) ?_
 refine DX.step 9 32767 (by kernel_rfl) rfl rfl rfl (op_callV (v := .agg (#[.pointer (some ⟨g5, 3, none⟩), .int .i64 0, .int .i64 1199])) rfl rfl rfl rfl rfl ent_106 (fun w _ => w_fperiod g5 3) (DXs.mk (List.Sublist.refl _) ?_))
 refine DX.step 15 65535 (by kernel_rfl) rfl rfl rfl (op_buildSlice rfl rfl rfl slb_81 rfl rfl (by intro v hv; simp only [List.mem_cons, List.not_mem_nil, or_false] at hv; rcases hv with rfl | rfl | rfl <;> exact ⟨rfl, (plain_of rfl)⟩) (by decide) fun fr => (DXs.mk (List.Sublist.cons _ (List.Sublist.refl _)) ?_))
 refine DX.takeW 16 131071 (by kernel_rfl) rfl rfl rfl rfl rfl (yw_assign rfl rfl) ?_
 refine DX.done (by kernel_rfl) (XX.next (V' := [(2, .slice (some ⟨fr, 0, none⟩) 3 3)]) ⟨rfl, trivial⟩ ?_)
 refine CX.ret ?_
 exact ret_tmp rfl rfl fun w1 hw => ⟨fr, trivial, rfl, hw.pick ((perm_pick 1 rfl).trans (List.Perm.cons _ ((perm_pick 0 rfl).trans (List.Perm.cons _ (List.Perm.refl _)))))⟩

set_option maxRecDepth 100000 in
theorem w_f_advance {w : World} {g5 : Nat} (f : Fc) (hs : SL w [g5] w [.blk g5 (.cells (fcC f) 80 (0, 0))]) :
    Calls Tryz.prog 68 #[.pointer (some ⟨g5, 0, none⟩)] w (fun e w' => ∃ z : Nat, True ∧ e = .returned (.slice (some ⟨z, 0, none⟩) 4 4) ∧ SL w [g5] w' [.blk g5 (.cells (fcC f) 80 (0, 0)), .row (some ⟨z, 0, none⟩) 4 84 3 (List.map (fdC g5) [(1, 1, 1000000), (5, 1, 1000), (3, 0, 1199), (13, 0, 100000000000)])]) := by
 refine calls_of_CX (O := [g5]) (L := [.blk g5 (.cells (fcC f) 80 (0, 0))]) (args := [.pointer (some ⟨g5, 0, none⟩)]) Tryz.func68 rfl (by simp [Tryz.ntmps68]) hs ?_
 refine CX.sub (V' := [(0, .pointer (some ⟨g5, 0, none⟩))]) ⟨rfl, trivial⟩ ?_
 refine CX.seq ?_
 refine CX.region ?_
 refine RX.cons rfl rfl (op_w (yw_assign rfl rfl) rfl rfl ?_)
 refine RX.nil (XX.next (V' := [(0, _)]) ⟨rfl, trivial⟩ ?_)
 refine CX.seq ?_
 refine CX.draw 22 [(0, 1, 8), (1, 8, 16), (2, 16, 32), (4, 32, 64), (8, 64, 128), (0, 1, 256), (32, 256, 512), (64, 512, 1024), (128, 1024, 2048), (256, 2048, 4096), (0, 1, 8192), (1024, 8192, 16384), (2048, 16384, 32768), (4096, 32768, 65536), (8208, 65536, 131072), (0, 1, 262144), (32768, 262144, 524288), (65536, 524288, 1048576), (131072, 1048576, 2097152), (262144, 2097152, 4194304), (541200, 4329600, 8388608), (2097151, 8388608, 4)] (by kernel_rfl) (by kernel_rfl) (by kernel_rfl) ?_
 refine DX.takeW 0 1 (by kernel_rfl) rfl rfl rfl rfl rfl (yw_move rfl rfl) ?_
 refine DX.takeW 1 3 (by kernel_rfl) rfl rfl rfl rfl rfl (yw_nilCheck rfl rfl) ?_
 refine DX.takeW 2 7 (by kernel_rfl) rfl rfl rfl rfl rfl (yw_field0 rfl fld_80_0 rfl) ?_
 refine DX.takeW 3 15 (by kernel_rfl) rfl rfl rfl rfl rfl (yw_fieldAddr rfl fld_27_1 rfl) ?_
 refine DX.takeW 5 47 (by kernel_rfl) rfl rfl rfl rfl rfl (yw_move rfl rfl) ?_
 refine DX.takeW 6 111 (by kernel_rfl) rfl rfl rfl rfl rfl (yw_nilCheck rfl rfl) ?_
 refine DX.takeW 7 239 (by kernel_rfl) rfl rfl rfl rfl rfl (yw_field0 rfl fld_80_0 rfl) ?_
 refine DX.takeW 8 495 (by kernel_rfl) rfl rfl rfl rfl rfl (yw_fieldAddr rfl fld_27_5 rfl) ?_
 refine DX.takeW 9 1007 (by kernel_rfl) rfl rfl rfl rfl rfl (yw_build (v := .agg (#[.pointer (some ⟨g5, 5, none⟩), .int .i64 1, .int .i64 1000])) rfl rfl (fun _ => by kernel_rfl)) ?_
 refine DX.takeW 10 2031 (by kernel_rfl) rfl rfl rfl rfl rfl (yw_move rfl rfl) ?_
 refine DX.takeW 11 4079 (by kernel_rfl) rfl rfl rfl rfl rfl (yw_nilCheck rfl rfl) ?_
 refine DX.takeW 12 8175 (by kernel_rfl) rfl rfl rfl rfl rfl (yw_field0 rfl fld_80_0 rfl) ?_
 refine DX.takeW 13 16367 (by kernel_rfl) rfl rfl rfl rfl rfl (yw_fieldAddr rfl fld_27_3 rfl) ?_
 refine DX.takeW 15 49135 (by kernel_rfl) rfl rfl rfl rfl rfl (yw_move rfl rfl) ?_
 refine DX.takeW 16 114671 (by kernel_rfl) rfl rfl rfl rfl rfl (yw_nilCheck rfl rfl) ?_
 refine DX.takeW 17 245743 (by kernel_rfl) rfl rfl rfl rfl rfl (yw_field0 rfl fld_80_0 rfl) ?_
 refine DX.takeW 18 507887 (by kernel_rfl) rfl rfl rfl rfl rfl (yw_fieldAddr rfl fld_27_13 rfl) ?_
 refine DX.takeW 19 1032175 (by kernel_rfl) rfl rfl rfl rfl rfl (yw_build (v := .agg (#[.pointer (some ⟨g5, 13, none⟩), .int .i64 0, .int .i64 100000000000])) rfl rfl (fun _ => by kernel_rfl)) ?_
 refine DX.step 4 1032191 (by kernel_rfl) rfl rfl rfl (op_callV (v := .agg (#[.pointer (some ⟨g5, 1, none⟩), .int .i64 1, .int .i64 1000000])) rfl rfl rfl rfl rfl ent_104 (fun w _ => w_fid g5 1) (DXs.mk (List.Sublist.refl _) ?_))
 refine DX.step 14 1048575 (by kernel_rfl) rfl rfl rfl (op_callV (v := .agg (#[.pointer (some ⟨g5, 3, none⟩), .int .i64 0, .int .i64 1199])) rfl rfl rfl rfl rfl ent_106 (fun w _ => w_fperiod g5 3) (DXs.mk (List.Sublist.refl _) ?_))
 refine DX.step 20 2097151 (by kernel_rfl) rfl rfl rfl (op_buildSlice rfl rfl rfl slb_81 rfl rfl (by intro v hv; simp only [List.mem_cons, List.not_mem_nil, or_false] at hv; rcases hv with rfl | rfl | rfl | rfl <;> exact ⟨rfl, (plain_of rfl)⟩) (by decide) fun fr => (DXs.mk (List.Sublist.cons _ (List.Sublist.refl _)) ?_))
 refine DX.takeW 21 4194303 (by kernel_rfl) rfl rfl rfl rfl rfl (yw_assign rfl rfl) ?_
 refine DX.done (by kernel_rfl) (XX.next (V' := [(2, .slice (some ⟨fr, 0, none⟩) 4 4)]) ⟨rfl, trivial⟩ ?_)
 refine CX.ret ?_
 exact ret_tmp rfl rfl fun w1 hw => ⟨fr, trivial, rfl, hw.pick ((perm_pick 1 rfl).trans (List.Perm.cons _ ((perm_pick 0 rfl).trans (List.Perm.cons _ (List.Perm.refl _)))))⟩

set_option maxRecDepth 100000 in
theorem w_f_rules {w : World} {g5 : Nat} (f : Fc) (hs : SL w [g5] w [.blk g5 (.cells (fcC f) 80 (0, 0))]) :
    Calls Tryz.prog 69 #[.pointer (some ⟨g5, 0, none⟩)] w (fun e w' => ∃ z : Nat, True ∧ e = .returned (.slice (some ⟨z, 0, none⟩) 1 1) ∧ SL w [g5] w' [.blk g5 (.cells (fcC f) 80 (0, 0)), .row (some ⟨z, 0, none⟩) 1 84 3 (List.map (fdC g5) [(11, 0, 1199)])]) := by
 refine calls_of_CX (O := [g5]) (L := [.blk g5 (.cells (fcC f) 80 (0, 0))]) (args := [.pointer (some ⟨g5, 0, none⟩)]) Tryz.func69 rfl (by simp [Tryz.ntmps69]) hs ?_
 refine CX.sub (V' := [(0, .pointer (some ⟨g5, 0, none⟩))]) ⟨rfl, trivial⟩ ?_
 refine CX.seq ?_
 refine CX.region ?_
 refine RX.cons rfl rfl (op_w (yw_assign rfl rfl) rfl rfl ?_)
 refine RX.nil (XX.next (V' := [(0, _)]) ⟨rfl, trivial⟩ ?_)
 refine CX.seq ?_
 refine CX.region ?_
 refine RX.cons rfl rfl (op_w (yw_move rfl rfl) rfl rfl ?_)
 refine RX.cons rfl rfl (op_w (yw_nilCheck rfl rfl) rfl rfl ?_)
 refine RX.cons rfl rfl (op_w (yw_field0 rfl fld_80_0 rfl) rfl rfl ?_)
 refine RX.cons rfl rfl (op_w (yw_fieldAddr rfl fld_27_11 rfl) rfl rfl ?_)
 refine RX.cons rfl rfl (op_callV (v := .agg (#[.pointer (some ⟨g5, 11, none⟩), .int .i64 0, .int .i64 1199])) rfl rfl rfl rfl rfl ent_106 (fun w _ => w_fperiod g5 11) ?_)
 refine RX.cons rfl rfl (op_buildSlice rfl rfl rfl slb_81 rfl rfl (by intro v hv; simp only [List.mem_cons, List.not_mem_nil, or_false] at hv; subst hv; exact ⟨rfl, (plain_of rfl)⟩) (by decide) fun fr => ?_)
 refine RX.cons rfl rfl (op_w (yw_assign rfl rfl) rfl rfl ?_)
 refine RX.nil (XX.next (V' := [(2, .slice (some ⟨fr, 0, none⟩) 1 1)]) ⟨rfl, trivial⟩ ?_)
 refine CX.ret ?_
 exact ret_tmp rfl rfl fun w1 hw => ⟨fr, trivial, rfl, hw.pick ((perm_pick 1 rfl).trans (List.Perm.cons _ ((perm_pick 0 rfl).trans (List.Perm.cons _ (List.Perm.refl _)))))⟩

set_option maxRecDepth 100000 in
theorem w_f_method {w : World} {g5 : Nat} (f : Fc) (hs : SL w [g5] w [.blk g5 (.cells (fcC f) 80 (0, 0))]) :
    Calls Tryz.prog 71 #[.pointer (some ⟨g5, 0, none⟩)] w (fun e w' => ∃ z : Nat, True ∧ e = .returned (.slice (some ⟨z, 0, none⟩) 3 3) ∧ SL w [g5] w' [.blk g5 (.cells (fcC f) 80 (0, 0)), .row (some ⟨z, 0, none⟩) 3 84 3 (List.map (fdC g5) [(8, 0, 7), (11, 0, 1199), (16, 1, 2)])]) := by
 refine calls_of_CX (O := [g5]) (L := [.blk g5 (.cells (fcC f) 80 (0, 0))]) (args := [.pointer (some ⟨g5, 0, none⟩)]) Tryz.func71 rfl (by simp [Tryz.ntmps71]) hs ?_
 refine CX.sub (V' := [(0, .pointer (some ⟨g5, 0, none⟩))]) ⟨rfl, trivial⟩ ?_
 refine CX.seq ?_
 refine CX.region ?_
 refine RX.cons rfl rfl (op_w (yw_assign rfl rfl) rfl rfl ?_)
 refine RX.nil (XX.next (V' := [(0, _)]) ⟨rfl, trivial⟩ ?_)
 refine CX.seq ?_
 refine CX.draw 17 [(0, 1, 8), (1, 8, 16), (2, 16, 32), (4, 32, 64), (8, 64, 128), (0, 1, 256), (32, 256, 512), (64, 512, 1024), (128, 1024, 2048), (272, 2048, 4096), (0, 1, 8192), (1024, 8192, 16384), (2048, 16384, 32768), (4096, 32768, 65536), (8192, 65536, 131072), (16912, 135296, 262144), (65535, 262144, 4)] (by kernel_rfl) (by kernel_rfl) (by kernel_rfl) ?_
 refine DX.takeW 0 1 (by kernel_rfl) rfl rfl rfl rfl rfl (yw_move rfl rfl) ?_
 refine DX.takeW 1 3 (by kernel_rfl) rfl rfl rfl rfl rfl (yw_nilCheck rfl rfl) ?_
 refine DX.takeW 2 7 (by kernel_rfl) rfl rfl rfl rfl rfl (yw_field0 rfl fld_80_0 rfl) ?_
 refine DX.takeW 3 15 (by kernel_rfl) rfl rfl rfl rfl rfl (yw_fieldAddr rfl fld_27_8 rfl) ?_
 refine DX.takeW 5 47 (by kernel_rfl) rfl rfl rfl rfl rfl (yw_move rfl rfl) ?_
 refine DX.takeW 6 111 (by kernel_rfl) rfl rfl rfl rfl rfl (yw_nilCheck rfl rfl) ?_
 refine DX.takeW 7 239 (by kernel_rfl) rfl rfl rfl rfl rfl (yw_field0 rfl fld_80_0 rfl) ?_
 refine DX.takeW 8 495 (by kernel_rfl) rfl rfl rfl rfl rfl (yw_fieldAddr rfl fld_27_11 rfl) ?_
 refine DX.takeW 10 1519 (by kernel_rfl) rfl rfl rfl rfl rfl (yw_move rfl rfl) ?_
 refine DX.takeW 11 3567 (by kernel_rfl) rfl rfl rfl rfl rfl (yw_nilCheck rfl rfl) ?_
 refine DX.takeW 12 7663 (by kernel_rfl) rfl rfl rfl rfl rfl (yw_field0 rfl fld_80_0 rfl) ?_
 refine DX.takeW 13 15855 (by kernel_rfl) rfl rfl rfl rfl rfl (yw_fieldAddr rfl fld_27_16 rfl) ?_
 refine DX.takeW 14 32239 (by kernel_rfl) rfl rfl rfl rfl rfl (yw_build (v := .agg (#[.pointer (some ⟨g5, 16, none⟩), .int .i64 1, .int .i64 2])) rfl rfl (fun _ => by kernel_rfl)) ?_
 refine DX.step 4 32255 (by kernel_rfl) rfl rfl rfl (op_callV (v := .agg (#[.pointer (some ⟨g5, 8, none⟩), .int .i64 0, .int .i64 7])) rfl rfl rfl rfl rfl ent_105 (fun w _ => w_fterritory g5 8) (DXs.mk (List.Sublist.refl _) ?_))
 refine DX.step 9 32767 (by kernel_rfl) rfl rfl rfl (op_callV (v := .agg (#[.pointer (some ⟨g5, 11, none⟩), .int .i64 0, .int .i64 1199])) rfl rfl rfl rfl rfl ent_106 (fun w _ => w_fperiod g5 11) (DXs.mk (List.Sublist.refl _) ?_))
 refine DX.step 15 65535 (by kernel_rfl) rfl rfl rfl (op_buildSlice rfl rfl rfl slb_81 rfl rfl (by intro v hv; simp only [List.mem_cons, List.not_mem_nil, or_false] at hv; rcases hv with rfl | rfl | rfl <;> exact ⟨rfl, (plain_of rfl)⟩) (by decide) fun fr => (DXs.mk (List.Sublist.cons _ (List.Sublist.refl _)) ?_))
 refine DX.takeW 16 131071 (by kernel_rfl) rfl rfl rfl rfl rfl (yw_assign rfl rfl) ?_
 refine DX.done (by kernel_rfl) (XX.next (V' := [(2, .slice (some ⟨fr, 0, none⟩) 3 3)]) ⟨rfl, trivial⟩ ?_)
 refine CX.ret ?_
 exact ret_tmp rfl rfl fun w1 hw => ⟨fr, trivial, rfl, hw.pick ((perm_pick 1 rfl).trans (List.Perm.cons _ ((perm_pick 0 rfl).trans (List.Perm.cons _ (List.Perm.refl _)))))⟩

end Go.Proofs.YtpcfgoadkfajfaaGreatDoor
namespace Go.Proofs.YtpcfgoadkfajfaaGreatDoor
set_option linter.all false
open Go Go.RowKit
set_option maxRecDepth 100000
theorem ent_56 : ∀ args w, (callFunc 56 args).run Tryz.prog w = .ok (.enter 56 args) w := enters_of Tryz.func56 (by kernel_rfl) rfl
theorem ent_58 : ∀ args w, (callFunc 58 args).run Tryz.prog w = .ok (.enter 58 args) w := enters_of Tryz.func58 (by kernel_rfl) rfl
theorem ent_59 : ∀ args w, (callFunc 59 args).run Tryz.prog w = .ok (.enter 59 args) w := enters_of Tryz.func59 (by kernel_rfl) rfl
theorem ent_61 : ∀ args w, (callFunc 61 args).run Tryz.prog w = .ok (.enter 61 args) w := enters_of Tryz.func61 (by kernel_rfl) rfl
theorem ent_63 : ∀ args w, (callFunc 63 args).run Tryz.prog w = .ok (.enter 63 args) w := enters_of Tryz.func63 (by kernel_rfl) rfl
theorem ent_64 : ∀ args w, (callFunc 64 args).run Tryz.prog w = .ok (.enter 64 args) w := enters_of Tryz.func64 (by kernel_rfl) rfl
theorem ent_66 : ∀ args w, (callFunc 66 args).run Tryz.prog w = .ok (.enter 66 args) w := enters_of Tryz.func66 (by kernel_rfl) rfl
theorem ent_68 : ∀ args w, (callFunc 68 args).run Tryz.prog w = .ok (.enter 68 args) w := enters_of Tryz.func68 (by kernel_rfl) rfl
theorem ent_69 : ∀ args w, (callFunc 69 args).run Tryz.prog w = .ok (.enter 69 args) w := enters_of Tryz.func69 (by kernel_rfl) rfl
theorem ent_71 : ∀ args w, (callFunc 71 args).run Tryz.prog w = .ok (.enter 71 args) w := enters_of Tryz.func71 (by kernel_rfl) rfl
theorem mapt_76 : MapT Tryz.prog 76 (.agg (#[.nilFunc, .bool false, .nilFunc])) := ⟨_, _, (Tryz.prog.info? 74).get!, Tryz.underlying76, Tryz.underlying3, by kernel_rfl, by kernel_rfl⟩
theorem held_27 : Tryz.prog.stoodInHeld 27 = false := by kernel_rfl
theorem w_fields {w : World} {g5 : Nat} (f : Fc) (hk : 1 ≤ f.kind ∧ f.kind ≤ 10) (hs : SL w [g5] w [.blk g5 (.cells (fcC f) 80 (0, 0))]) :
    Calls Tryz.prog (mfOf f.kind) #[.pointer (some ⟨g5, 0, none⟩)] w (fun e w' => ∃ z : Nat, True ∧ e = .returned (.slice (some ⟨z, 0, none⟩) (List.length (specs f)) (List.length (specs f))) ∧ SL w [g5] w' [.blk g5 (.cells (fcC f) 80 (0, 0)), .row (some ⟨z, 0, none⟩) (List.length (specs f)) 84 3 (List.map (fdC g5) (specs f))]) := by
  unfold specs
  rcases kind_cases hk with h | h | h | h | h | h | h | h | h | h <;> rw [h]
  · exact w_f_play f hs
  · exact w_f_mark f hs
  · exact w_f_claim f hs
  · exact w_f_contract f hs
  · exact w_f_revenue f hs
  · exact w_f_subscription f hs
  · exact w_f_rate f hs
  · exact w_f_advance f hs
  · exact w_f_rules f hs
  · exact w_f_method f hs
theorem ent_mf {k : Int} (h : 1 ≤ k ∧ k ≤ 10) : ∀ args w, (callFunc (mfOf k) args).run Tryz.prog w = .ok (.enter (mfOf k) args) w := by
  rcases kind_cases h with rfl | rfl | rfl | rfl | rfl | rfl | rfl | rfl | rfl | rfl
  · exact ent_56
  · exact ent_58
  · exact ent_59
  · exact ent_61
  · exact ent_63
  · exact ent_64
  · exact ent_66
  · exact ent_68
  · exact ent_69
  · exact ent_71
set_option maxRecDepth 100000 in
theorem w_kinds {w : World} :
    Calls Tryz.prog 32 #[] w (fun e w' => ∃ x : Nat, True ∧ e = .returned (.map (some x)) ∧ SL w [] w' [.imap x kindsF]) := by
 refine calls_of_CX (O := []) (L := []) (args := []) Tryz.func32 rfl (by simp [Tryz.ntmps32]) (SL.refl w) ?_
 refine CX.sub (V' := []) trivial ?_
 refine CX.seq ?_
 refine CX.region ?_
 refine RX.cons rfl rfl (op_w (yw_assign rfl rfl) rfl rfl ?_)
 refine RX.nil (XX.next (V' := []) trivial ?_)
 refine CX.seq ?_
 refine CX.region ?_
 refine RX.cons rfl rfl (op_makeMap rfl rfl rfl fun m1 => ?_)
 refine RX.cons rfl rfl (op_w (yw_build (v := .agg (#[.func (.func 56) #[] #[], .bool false, .func (.func 57) #[] #[]])) rfl rfl (fun _ => by kernel_rfl)) rfl rfl ?_)
 refine RX.cons rfl rfl (op_mapUpdate (i := 0) (.inr rfl) rfl rfl rfl rfl mapt_76 rfl ?_)
 refine RX.cons rfl rfl (op_w (yw_build (v := .agg (#[.func (.func 58) #[] #[], .bool false, .func (.func 57) #[] #[]])) rfl rfl (fun _ => by kernel_rfl)) rfl rfl ?_)
 refine RX.cons rfl rfl (op_mapUpdate (i := 0) (.inr rfl) rfl rfl rfl rfl mapt_76 rfl ?_)
 refine RX.cons rfl rfl (op_w (yw_build (v := .agg (#[.func (.func 59) #[] #[], .bool false, .func (.func 60) #[] #[]])) rfl rfl (fun _ => by kernel_rfl)) rfl rfl ?_)
 refine RX.cons rfl rfl (op_mapUpdate (i := 0) (.inr rfl) rfl rfl rfl rfl mapt_76 rfl ?_)
 refine RX.cons rfl rfl (op_w (yw_build (v := .agg (#[.func (.func 61) #[] #[], .bool true, .func (.func 62) #[] #[]])) rfl rfl (fun _ => by kernel_rfl)) rfl rfl ?_)
 refine RX.cons rfl rfl (op_mapUpdate (i := 0) (.inr rfl) rfl rfl rfl rfl mapt_76 rfl ?_)
 refine RX.cons rfl rfl (op_w (yw_build (v := .agg (#[.func (.func 63) #[] #[], .bool false, .func (.func 60) #[] #[]])) rfl rfl (fun _ => by kernel_rfl)) rfl rfl ?_)
 refine RX.cons rfl rfl (op_mapUpdate (i := 0) (.inr rfl) rfl rfl rfl rfl mapt_76 rfl ?_)
 refine RX.cons rfl rfl (op_w (yw_build (v := .agg (#[.func (.func 64) #[] #[], .bool false, .func (.func 65) #[] #[]])) rfl rfl (fun _ => by kernel_rfl)) rfl rfl ?_)
 refine RX.cons rfl rfl (op_mapUpdate (i := 0) (.inr rfl) rfl rfl rfl rfl mapt_76 rfl ?_)
 refine RX.cons rfl rfl (op_w (yw_build (v := .agg (#[.func (.func 66) #[] #[], .bool false, .func (.func 67) #[] #[]])) rfl rfl (fun _ => by kernel_rfl)) rfl rfl ?_)
 refine RX.cons rfl rfl (op_mapUpdate (i := 0) (.inr rfl) rfl rfl rfl rfl mapt_76 rfl ?_)
 refine RX.cons rfl rfl (op_w (yw_build (v := .agg (#[.func (.func 68) #[] #[], .bool false, .func (.func 60) #[] #[]])) rfl rfl (fun _ => by kernel_rfl)) rfl rfl ?_)
 refine RX.cons rfl rfl (op_mapUpdate (i := 0) (.inr rfl) rfl rfl rfl rfl mapt_76 rfl ?_)
 refine RX.cons rfl rfl (op_w (yw_build (v := .agg (#[.func (.func 69) #[] #[], .bool true, .func (.func 70) #[] #[]])) rfl rfl (fun _ => by kernel_rfl)) rfl rfl ?_)
 refine RX.cons rfl rfl (op_mapUpdate (i := 0) (.inr rfl) rfl rfl rfl rfl mapt_76 rfl ?_)
 refine RX.cons rfl rfl (op_w (yw_build (v := .agg (#[.func (.func 71) #[] #[], .bool false, .func (.func 72) #[] #[]])) rfl rfl (fun _ => by kernel_rfl)) rfl rfl ?_)
 refine RX.cons rfl rfl (op_mapUpdate (i := 0) (.inr rfl) rfl rfl rfl rfl mapt_76 rfl ?_)
 refine RX.cons rfl rfl (op_w (yw_move rfl rfl) rfl rfl ?_)
 refine RX.cons rfl rfl (op_w (yw_assign rfl rfl) rfl rfl ?_)
 refine RX.nil (XX.next (V' := [(0, .map (some m1))]) ⟨rfl, trivial⟩ ?_)
 refine CX.ret ?_
 exact ret_tmp rfl rfl fun w1 hw => ⟨_, trivial, rfl, hw⟩

def sameF (f g : Fc) : Bool := f.kind == g.kind && (f.id == g.id && (f.ver == g.ver && (f.per == g.per && (f.sec == g.sec && (f.acc == g.acc && (f.dev == g.dev && (f.song == g.song && (f.ter == g.ter && (f.hol == g.hol && (f.role == g.role && (f.since == g.since && (f.till == g.till && (f.amt == g.amt && (f.shr == g.shr && (f.cur == g.cur && (f.mark == g.mark && (f.text.toList == g.text.toList && true)))))))))))))))))
theorem eq_fc (f g : Fc) (w : World) : (Op.equalIn 10000 27 (.agg (fcC f)) (.agg (fcC g))).run Tryz.prog w = .ok (sameF f g) w :=
  equal_of Tryz.underlying27 held_27 (eqF_int rfl Tryz.underlying3 rfl rfl (eqF_int rfl Tryz.underlying3 rfl rfl (eqF_int rfl Tryz.underlying3 rfl rfl (eqF_int rfl Tryz.underlying3 rfl rfl (eqF_int rfl Tryz.underlying3 rfl rfl (eqF_int rfl Tryz.underlying3 rfl rfl (eqF_int rfl Tryz.underlying3 rfl rfl (eqF_int rfl Tryz.underlying3 rfl rfl (eqF_int rfl Tryz.underlying3 rfl rfl (eqF_int rfl Tryz.underlying3 rfl rfl (eqF_int rfl Tryz.underlying3 rfl rfl (eqF_int rfl Tryz.underlying3 rfl rfl (eqF_int rfl Tryz.underlying3 rfl rfl (eqF_int rfl Tryz.underlying3 rfl rfl (eqF_int rfl Tryz.underlying3 rfl rfl (eqF_int rfl Tryz.underlying3 rfl rfl (eqF_int rfl Tryz.underlying3 rfl rfl (eqF_str rfl Tryz.underlying9 rfl rfl (eqF_nil)))))))))))))))))))
theorem zf_nil (f : Fc) : zf f [] = f := rfl
def bareF (f : Fc) : Fc := ⟨f.kind, 0, f.ver, 0, 0, 0, 0, 0, 0, 0, 0, 0, 0, 0, 0, 0, 0, .empty⟩
def noText (f : Fc) : Fc := { f with text := .empty }
def offs (f : Fc) (k : Nat) : List Nat := ((specs f).take k).map Prod.fst
/-- A fact without what its kind's fields and its text may hold. -/
def stripF (f : Fc) : Fc := if htOf f.kind then noText (zf f (offs f (specs f).length)) else zf f (offs f (specs f).length)
def fieldOk (f : Fc) (x : Nat × Int × Int) : Bool := within (fnum f x.1) x.2.1 x.2.2
def validF (f : Fc) : Bool := decide (1 ≤ f.kind ∧ f.kind ≤ 10) && decide (1 ≤ f.ver ∧ f.ver ≤ 1000) && decide (f.text.size ≤ 2000) && (specs f).all (fieldOk f) && sameF (stripF f) (bareF f)
theorem offs_succ {f : Fc} {k : Nat} {x : Nat × Int × Int} (h : (specs f)[k]? = some x) : offs f (k + 1) = offs f k ++ [x.1] := by
  unfold offs; rw [List.take_add_one, h]; simp
theorem specs_ok (f : Fc) : ((specs f).map Prod.fst).Nodup ∧ ∀ j ∈ (specs f).map Prod.fst, j < 17 ∧ j ≠ 0 ∧ j ≠ 2 := by
  unfold specs
  by_cases hk : 1 ≤ f.kind ∧ f.kind ≤ 10
  · rcases kind_cases hk with h | h | h | h | h | h | h | h | h | h <;> rw [h] <;> simp [specsK]
  · have : specsK f f.kind = [] := by
      simp [specsK, show ¬ f.kind = 1 by omega, show ¬ f.kind = 2 by omega, show ¬ f.kind = 3 by omega, show ¬ f.kind = 4 by omega, show ¬ f.kind = 5 by omega, show ¬ f.kind = 6 by omega, show ¬ f.kind = 7 by omega, show ¬ f.kind = 8 by omega, show ¬ f.kind = 9 by omega, show ¬ f.kind = 10 by omega]
    rw [this]; simp
theorem specs_len (f : Fc) : (specs f).length ≤ 8 := by
  unfold specs
  by_cases hk : 1 ≤ f.kind ∧ f.kind ≤ 10
  · rcases kind_cases hk with h | h | h | h | h | h | h | h | h | h <;> rw [h] <;> simp [specsK]
  · have : specsK f f.kind = [] := by
      simp [specsK, show ¬ f.kind = 1 by omega, show ¬ f.kind = 2 by omega, show ¬ f.kind = 3 by omega, show ¬ f.kind = 4 by omega, show ¬ f.kind = 5 by omega, show ¬ f.kind = 6 by omega, show ¬ f.kind = 7 by omega, show ¬ f.kind = 8 by omega, show ¬ f.kind = 9 by omega, show ¬ f.kind = 10 by omega]
    rw [this]; simp
theorem nodup_take {α : Type} {l : List α} (h : l.Nodup) {k : Nat} {x : α} (hx : l[k]? = some x) : x ∉ l.take k := by
  have hk := (List.getElem?_eq_some_iff.1 hx).1
  rw [← List.take_append_drop k l] at h
  have h3 := (List.nodup_append.1 h).2.2
  intro hm
  refine h3 x hm x ?_ rfl
  have : (l.drop k)[0]? = some x := by rw [List.getElem?_drop]; exact hx
  exact List.mem_of_getElem? this
theorem spec_at {f : Fc} {k : Nat} {x : Nat × Int × Int} (h : (specs f)[k]? = some x) : x.1 < 17 ∧ x.1 ∉ offs f k := by
  have h1 : ((specs f).map Prod.fst)[k]? = some x.1 := by rw [List.getElem?_map, h]; rfl
  refine ⟨((specs_ok f).2 _ (List.mem_of_getElem? h1)).1, ?_⟩
  have := nodup_take (specs_ok f).1 h1
  unfold offs
  rwa [List.map_take]
theorem fc_at {f : Fc} {k : Nat} {x : Nat × Int × Int} (h : (specs f)[k]? = some x) : (fcC (zf f (offs f k)))[x.1]? = some (.int .i64 (fnum f x.1)) := by
  have ⟨h1, h2⟩ := spec_at h
  rw [fcC_get _ _ h1, zf_get f _ h2 h1]
theorem fc_put {f : Fc} {k : Nat} {x : Nat × Int × Int} (h : (specs f)[k]? = some x) : (fcC (zf f (offs f k))).setIfInBounds x.1 (.int .i64 0) = fcC (zf f (offs f (k + 1))) := by
  rw [zf_set _ _ _ (spec_at h).1, offs_succ h]
theorem y_lookupOkN {P : Program} {w0 w : World} {O : List Nat} {n : Nat} {D : List Deferred} {o : Oper} {V : List (Nat × Value)} {L : List Ent} {t : TypeId} {m x : Operand} {g i : Nat} {f : Int → Option Value} {k : Int} {z : Value} (ho : o.op = .lookup t m x true) (hm : ev V m = some (.map (some g))) (hx : ev V x = some (.int .i64 k)) (ht : MapT P t z) (hL : L[i]? = some (.imap g f)) (hf : f k = none) :
    Yld P w0 O n D o V L (.tuple #[z, .bool false]) := by
  have := y_lookupOk (P := P) (w0 := w0) (O := O) (n := n) (D := D) ho hm hx ht hL
  rw [hf] at this
  exact this
theorem val_kind {f : Fc} (h : ¬ (1 ≤ f.kind ∧ f.kind ≤ 10)) : false = validF f := by unfold validF; rw [decide_eq_false h]; rfl
theorem val_ver {f : Fc} (h : ¬ (1 ≤ f.ver ∧ f.ver ≤ 1000)) : false = validF f := by unfold validF; rw [decide_eq_false h]; simp
theorem val_text {f : Fc} (h : ¬ f.text.size ≤ 2000) : false = validF f := by unfold validF; rw [decide_eq_false h]; simp
theorem val_field {f : Fc} {k : Nat} {x : Nat × Int × Int} (h : (specs f)[k]? = some x) (hb : within (fnum f x.1) x.2.1 x.2.2 = false) : false = validF f := by
  have : (specs f).all (fieldOk f) = false := by
    rw [List.all_eq_false]
    exact ⟨x, List.mem_of_getElem? h, by simp [fieldOk, hb]⟩
  unfold validF; rw [this]; simp
theorem val_yes {f : Fc} (h1 : 1 ≤ f.kind ∧ f.kind ≤ 10) (h2 : 1 ≤ f.ver ∧ f.ver ≤ 1000) (h3 : f.text.size ≤ 2000) (h4 : ∀ (j : Nat) (x : Nat × Int × Int), (specs f)[j]? = some x → fieldOk f x = true) : sameF (stripF f) (bareF f) = validF f := by
  have : (specs f).all (fieldOk f) = true := by
    rw [List.all_eq_true]
    intro x hx
    obtain ⟨j, hj⟩ := List.getElem?_of_mem hx
    exact h4 j x hj
  unfold validF; rw [decide_eq_true h1, decide_eq_true h2, decide_eq_true h3, this]; rfl
end Go.Proofs.YtpcfgoadkfajfaaGreatDoor
