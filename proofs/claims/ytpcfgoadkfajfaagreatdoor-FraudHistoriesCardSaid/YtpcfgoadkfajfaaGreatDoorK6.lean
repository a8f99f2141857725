/- Words of n bits: the operations on unsigned integers, over bit vectors. Bytes of a string, converted: a row behind whose end the model marks one cell; append to it. Arrays in blocks and as values, slices of arrays, copies, bytes of slices as strings, string indices. Walks, printed by a program. Walks, printed by a program. The shelf's contracts laid at this program, in plain words (printed by the kit's tool). The library's sort of integers, by the shelf's contract, over a slice of the call's own. Walks, printed by a program. Plain aids for the walks of law11. Walks, printed by a program. Walks, printed by a program. Walks, printed by a program. Walks, printed by a program. Walks, printed by a program. Walks, printed by a program. Walks, printed by a program. Walks, printed by a program. Walks, printed by a program. -/
import Derived.Test.YtpcfgoadkfajfaaGreatDoorK5
import Derived.Laws.Shifts
import Derived.Lib.ConvBytes
import Derived.Laws.Append
import Derived.Laws.CopyRow
import Derived.Laws.IdiomStrings
import Derived.Test.YtpcfgoadkfajfaaGreatDoorChecked
import Derived.Shelf.Sort.Plain
import Derived.Shelf.Slices.In.SortNone
import Derived.Shelf.Slices.CompactI
import Derived.Shelf.SlSortCmp.NoneTotal
import Derived.Sort.OwnSortedInts
import Derived.Lib.OwnBridge
namespace Go.Proofs.YtpcfgoadkfajfaaGreatDoor
set_option linter.all false
open Go Go.RowKit
/-- A word as a value. -/
abbrev wi {n : Nat} (x : BitVec n) : Int := ((x.toNat : Nat) : Int)
/-- An unsigned kind of n bits. -/
def UK (k : IntKind) (n : Nat) : Prop := k.bits = n ∧ k.signed = false
theorem UK.u8 : UK .u8 8 := ⟨rfl, rfl⟩
theorem UK.u32 : UK .u32 32 := ⟨rfl, rfl⟩
theorem UK.u64 : UK .u64 64 := ⟨rfl, rfl⟩
theorem UK.wrap {k : IntKind} {n : Nat} (h : UK k n) (a : Int) : k.wrap a = a % 2 ^ n := by
  obtain ⟨h1, h2⟩ := h
  unfold IntKind.wrap
  rw [h1, h2]; simp
theorem wi_lt {n : Nat} (x : BitVec n) : wi x < 2 ^ n := by
  have := x.isLt
  have h : ((2 ^ n : Nat) : Int) = 2 ^ n := by simp
  rw [← h]; exact Int.ofNat_lt.2 this
theorem wi_nn {n : Nat} (x : BitVec n) : 0 ≤ wi x := Int.natCast_nonneg _
theorem UK.wrap_id {k : IntKind} {n : Nat} (h : UK k n) (x : BitVec n) : k.wrap (wi x) = wi x := by
  rw [h.wrap]; exact Int.emod_eq_of_lt (wi_nn x) (wi_lt x)
theorem ofInt_wi {n : Nat} (x : BitVec n) : BitVec.ofInt n (wi x) = x := by
  apply BitVec.eq_of_toNat_eq
  simp
theorem UK.wrap_nat {k : IntKind} {n : Nat} (h : UK k n) (a : Nat) : k.wrap (a : Int) = wi (BitVec.ofNat n a) := by
  rw [h.wrap]
  simp [wi]
theorem UK.wrap_int {k : IntKind} {n : Nat} (h : UK k n) (a : Int) : k.wrap a = wi (BitVec.ofInt n a) := by
  rw [h.wrap]
  have h0 : (0 : Int) < 2 ^ n := Int.pow_pos (by decide)
  have := Int.emod_nonneg a (Int.ne_of_gt h0)
  simp [wi, BitVec.toNat_ofInt]
  omega
section
variable {P : Program} {n : Nat} {D : List Deferred} {o : Oper} {V : List (Nat × Value)} {t u : TypeId} {x y : Operand} {k : IntKind} {m : Nat}
theorem bits_and {a b : BitVec m} (h : UK k m) : bits .and k (wi a) (wi b) = wi (a &&& b) := by
  unfold bits
  obtain ⟨h1, h2⟩ := h
  subst h1
  simp only [ofInt_wi]
  exact UK.wrap_id ⟨rfl, h2⟩ _
theorem bits_or {a b : BitVec m} (h : UK k m) : bits .or k (wi a) (wi b) = wi (a ||| b) := by
  unfold bits
  obtain ⟨h1, h2⟩ := h
  subst h1
  simp only [ofInt_wi]
  exact UK.wrap_id ⟨rfl, h2⟩ _
theorem bits_xor {a b : BitVec m} (h : UK k m) : bits .xor k (wi a) (wi b) = wi (a ^^^ b) := by
  unfold bits
  obtain ⟨h1, h2⟩ := h
  subst h1
  simp only [ofInt_wi]
  exact UK.wrap_id ⟨rfl, h2⟩ _
theorem yw_bvAnd {a b : BitVec m} (h : UK k m) (ho : o.op = .binOp .and t x y u) (hx : ev V x = some (.int k (wi a))) (hy : ev V y = some (.int k (wi b))) : YldW P n D o V (.int k (wi (a &&& b))) := by
  intro c w ha
  simp [execOp, ho, ha.eval hx, ha.eval hy, eqGuard, binOp, intBits_and, bits_and h]
theorem yw_bvOr {a b : BitVec m} (h : UK k m) (ho : o.op = .binOp .or t x y u) (hx : ev V x = some (.int k (wi a))) (hy : ev V y = some (.int k (wi b))) : YldW P n D o V (.int k (wi (a ||| b))) := by
  intro c w ha
  simp [execOp, ho, ha.eval hx, ha.eval hy, eqGuard, binOp, intBits_or, bits_or h]
theorem yw_bvXor {a b : BitVec m} (h : UK k m) (ho : o.op = .binOp .xor t x y u) (hx : ev V x = some (.int k (wi a))) (hy : ev V y = some (.int k (wi b))) : YldW P n D o V (.int k (wi (a ^^^ b))) := by
  intro c w ha
  simp [execOp, ho, ha.eval hx, ha.eval hy, eqGuard, binOp, intBits_xor, bits_xor h]
theorem yw_bvAdd {a b : BitVec m} (h : UK k m) (ho : o.op = .binOp .add t x y u) (hx : ev V x = some (.int k (wi a))) (hy : ev V y = some (.int k (wi b))) : YldW P n D o V (.int k (wi (a + b))) := by
  intro c w ha
  have e : k.wrap (wi a + wi b) = wi (a + b) := by rw [h.wrap]; simp [wi, BitVec.toNat_add]
  simp [execOp, ho, ha.eval hx, ha.eval hy, eqGuard, binOp, Op.intArith, e]
theorem yw_bvSub {a b : BitVec m} (h : UK k m) (ho : o.op = .binOp .sub t x y u) (hx : ev V x = some (.int k (wi a))) (hy : ev V y = some (.int k (wi b))) : YldW P n D o V (.int k (wi (a - b))) := by
  intro c w ha
  have e : k.wrap (wi a - wi b) = wi (a - b) := by
    rw [h.wrap]
    have hb := wi_lt b
    have hb' : b.toNat ≤ 2 ^ m := Nat.le_of_lt b.isLt
    have e1 : wi (a - b) = ((2 ^ m - b.toNat + a.toNat : Nat) : Int) % 2 ^ m := by simp [wi, BitVec.toNat_sub]
    have e2 : ((2 ^ m - b.toNat + a.toNat : Nat) : Int) = (wi a - wi b) + 2 ^ m := by
      rw [Int.natCast_add, Int.ofNat_sub hb']
      simp only [wi, Int.natCast_pow]
      have : ((2 : Nat) : Int) = 2 := rfl
      rw [this]; omega
    rw [e1, e2, Int.add_emod_right]
  simp [execOp, ho, ha.eval hx, ha.eval hy, eqGuard, binOp, Op.intArith, e]
theorem yw_bvMul {a b : BitVec m} (h : UK k m) (ho : o.op = .binOp .mul t x y u) (hx : ev V x = some (.int k (wi a))) (hy : ev V y = some (.int k (wi b))) : YldW P n D o V (.int k (wi (a * b))) := by
  intro c w ha
  have e : k.wrap (wi a * wi b) = wi (a * b) := by rw [h.wrap]; simp [wi, BitVec.toNat_mul]
  simp [execOp, ho, ha.eval hx, ha.eval hy, eqGuard, binOp, Op.intArith, e]
theorem shl_min {a : BitVec m} (j : Nat) : a <<< min j m = a <<< j := by
  by_cases hj : j ≤ m
  · rw [Nat.min_eq_left hj]
  · rw [Nat.min_eq_right (by omega)]
    apply BitVec.eq_of_toNat_eq
    simp [BitVec.toNat_shiftLeft, Nat.shiftLeft_eq]
    obtain ⟨d, rfl⟩ : ∃ d, j = m + d := ⟨j - m, by omega⟩
    rw [Nat.pow_add, ← Nat.mul_assoc, Nat.mul_right_comm]
    simp
theorem yw_bvShl {a : BitVec m} {ky : IntKind} {q : Int} (j : Nat) (h : UK k m) (ho : o.op = .binOp .shl t x y u) (hx : ev V x = some (.int k (wi a))) (hy : ev V y = some (.int ky q)) (hq : q = (j : Int)) : YldW P n D o V (.int k (wi (a <<< j))) := by
  intro c w ha
  subst hq
  have := shift_shl_any k ky (wi a) (j : Int) (by omega)
  have e : k.wrap (wi a * 2 ^ min (j : Int).toNat k.bits) = wi (a <<< j) := by
    rw [h.wrap, h.1, Int.toNat_natCast, ← shl_min]
    simp [wi, BitVec.toNat_shiftLeft, Nat.shiftLeft_eq]
  rw [e] at this
  simp [execOp, ho, ha.eval hx, ha.eval hy, eqGuard, binOp, this]
theorem shr_min {a : BitVec m} (j : Nat) : a >>> min j m = a >>> j := by
  by_cases hj : j ≤ m
  · rw [Nat.min_eq_left hj]
  · rw [Nat.min_eq_right (by omega)]
    apply BitVec.eq_of_toNat_eq
    rw [BitVec.toNat_ushiftRight, BitVec.toNat_ushiftRight, Nat.shiftRight_eq_div_pow, Nat.shiftRight_eq_div_pow, Nat.div_eq_of_lt a.isLt, Nat.div_eq_of_lt]
    exact Nat.lt_of_lt_of_le a.isLt (Nat.pow_le_pow_right (by decide) (by omega))
theorem yw_bvShr {a : BitVec m} {ky : IntKind} {q : Int} (j : Nat) (h : UK k m) (ho : o.op = .binOp .shr t x y u) (hx : ev V x = some (.int k (wi a))) (hy : ev V y = some (.int ky q)) (hq : q = (j : Int)) : YldW P n D o V (.int k (wi (a >>> j))) := by
  intro c w ha
  subst hq
  have := shift_shr_any k ky (wi a) (j : Int) (by omega)
  have e : wi a / 2 ^ min (j : Int).toNat k.bits = wi (a >>> j) := by
    rw [h.1, Int.toNat_natCast, ← shr_min]
    simp [wi, BitVec.toNat_ushiftRight, Nat.shiftRight_eq_div_pow]
  rw [e] at this
  simp [execOp, ho, ha.eval hx, ha.eval hy, eqGuard, binOp, this]
theorem yw_bvNot {a : BitVec m} (h : UK k m) (ho : o.op = .unOp .xor t x) (hx : ev V x = some (.int k (wi a))) : YldW P n D o V (.int k (wi (~~~a))) := by
  intro c w ha
  have hm : k.max = wi (BitVec.allOnes m) := by
    obtain ⟨h1, h2⟩ := h
    unfold IntKind.max
    rw [h1, h2]
    have : (1 : Nat) ≤ 2 ^ m := Nat.one_le_two_pow
    simp only [wi, BitVec.toNat_allOnes]
    rw [Int.ofNat_sub this]; simp
  have e : bits .xor k k.max (wi a) = wi (~~~a) := by
    rw [hm, bits_xor h, BitVec.allOnes_xor]
  simp [execOp, ho, ha.eval hx, unary_xor, h.2, intBits_xor, e]
/-- From any integer to an unsigned one. -/
theorem yw_bvOf {k1 : IntKind} {a : Int} {s d : TypeId} {sd : TypeDesc} (h : UK k m) (ho : o.op = .convert s d x) (hx : ev V x = some (.int k1 a)) (hs : P.underlying s = some sd) (hd : P.underlying d = some (.int k)) : YldW P n D o V (.int k (wi (BitVec.ofInt m a))) := by
  rw [← h.wrap_int]
  exact yw_conv ho hx hs hd
theorem yw_bvConv {k1 : IntKind} {m1 : Nat} {a : BitVec m1} {s d : TypeId} {sd : TypeDesc} (h : UK k m) (ho : o.op = .convert s d x) (hx : ev V x = some (.int k1 (wi a))) (hs : P.underlying s = some sd) (hd : P.underlying d = some (.int k)) : YldW P n D o V (.int k (wi (a.setWidth m))) := by
  have e : BitVec.ofInt m (wi a) = a.setWidth m := by
    apply BitVec.eq_of_toNat_eq
    simp [wi]
  rw [← e]
  exact yw_bvOf h ho hx hs hd
/-- .. to an int. -/
theorem yw_bvInt {k1 : IntKind} {m1 : Nat} {a : BitVec m1} {s d : TypeId} {sd : TypeDesc} (hm : m1 ≤ 63) (ho : o.op = .convert s d x) (hx : ev V x = some (.int k1 (wi a))) (hs : P.underlying s = some sd) (hd : P.underlying d = some (.int .i64)) : YldW P n D o V (.int .i64 (wi a)) := by
  have h1 := wi_lt a
  have h2 := wi_nn a
  have h3 : (2 : Int) ^ m1 ≤ 2 ^ 63 := by
    have : (2 : Nat) ^ m1 ≤ 2 ^ 63 := Nat.pow_le_pow_right (by decide) hm
    have h : ((2 ^ m1 : Nat) : Int) ≤ ((2 ^ 63 : Nat) : Int) := Int.ofNat_le.2 this
    simpa using h
  have e : IntKind.i64.wrap (wi a) = wi a := by rw [IntKind.wrap_i64]; omega
  have := yw_conv (P := P) (n := n) (D := D) ho hx hs hd
  rw [e] at this
  exact this
theorem yw_neg {a : Int} (ho : o.op = .unOp .neg t x) (hx : ev V x = some (.int .i64 a)) (h1 : -9223372036854775807 ≤ a) (h2 : a ≤ 9223372036854775807) : YldW P n D o V (.int .i64 (-a)) := by
  intro c w ha
  have : IntKind.i64.wrap (-a) = -a := by rw [IntKind.wrap_i64]; omega
  simp [execOp, ho, ha.eval hx, Op.unary, Op.intArith, this]
/-- 1 shifted left, as an int. -/
theorem yw_one_shl {ky : IntKind} {q : Int} (j : Nat) (ho : o.op = .binOp .shl t x y u) (hx : ev V x = some (.int .i64 1)) (hy : ev V y = some (.int ky q)) (hq : q = (j : Int)) (hj : j ≤ 62) : YldW P n D o V (.int .i64 ((2 ^ j : Nat) : Int)) := by
  intro c w ha
  subst hq
  have := shift_shl_any .i64 ky 1 (j : Int) (by omega)
  have hp : (2 : Nat) ^ j ≤ 2 ^ 62 := Nat.pow_le_pow_right (by decide) hj
  have e : IntKind.i64.wrap (1 * 2 ^ min (j : Int).toNat IntKind.i64.bits) = ((2 ^ j : Nat) : Int) := by
    have e1 : min (j : Int).toNat IntKind.i64.bits = j := by
      rw [Int.toNat_natCast]; exact Nat.min_eq_left (by show j ≤ 64; omega)
    have e2 : (1 * 2 ^ j : Int) = ((2 ^ j : Nat) : Int) := by simp
    have key : ∀ N : Nat, N ≤ 4611686018427387904 → IntKind.i64.wrap (N : Int) = N := fun N hN => by rw [IntKind.wrap_i64]; omega
    rw [e1, e2, key _ hp]
  rw [e] at this
  simp only [execOp, ho, ha.eval hx, ha.eval hy, eqGuard, binOp, Sem.run_bind, Sem.run_pure, this]
  simp
/-- An int shifted right. -/
theorem yw_shr_i {ky : IntKind} {a q : Int} (j : Nat) (ho : o.op = .binOp .shr t x y u) (hx : ev V x = some (.int .i64 a)) (hy : ev V y = some (.int ky q)) (hq : q = (j : Int)) (hj : j ≤ 64) : YldW P n D o V (.int .i64 (a / 2 ^ j)) := by
  intro c w ha
  subst hq
  have := shift_shr_any .i64 ky a (j : Int) (by omega)
  have e1 : min (j : Int).toNat IntKind.i64.bits = j := by
    rw [Int.toNat_natCast]; exact Nat.min_eq_left (by show j ≤ 64; exact hj)
  rw [e1] at this
  simp [execOp, ho, ha.eval hx, ha.eval hy, eqGuard, binOp, this]
end
end Go.Proofs.YtpcfgoadkfajfaaGreatDoor
namespace Go.Proofs.YtpcfgoadkfajfaaGreatDoor
set_option linter.all false
open Go Go.RowKit
/-- A byte's cell. -/
abbrev u8c (b : UInt8) : Array Value := #[.int .u8 ((b.toNat : Nat) : Int)]
abbrev u8v (b : UInt8) : Value := .int .u8 ((b.toNat : Nat) : Int)

/-- A slice of bytes of the call's own: none of its cells is frozen. -/
def MrowAt (g cap : Nat) (e : TypeId) (xs : List UInt8) (w : World) : Prop :=
  ∃ cur fz, w.heap[g]? = some (.cells cur e fz) ∧ (fz = (0, 0) ∨ cur.size ≤ fz.1) ∧ xs.length ≤ cap ∧ cap ≤ maxLen ∧ cur.size = cap ∧ cur.toList.take xs.length = xs.map u8v
def mrow (g cap : Nat) (e : TypeId) (xs : List UInt8) : Ent :=
  .gen [g] (MrowAt g cap e xs)
    (fun w ⟨cur, fz, h, _⟩ b hb => by
      obtain rfl : b = g := by simpa using hb
      exact (Array.getElem?_eq_some_iff.1 h).1)
    (fun w w' ⟨cur, fz, h, r⟩ hk => ⟨cur, fz, by rw [hk g (by simp)]; exact h, r⟩)
theorem MrowAt.rd {g cap : Nat} {e : TypeId} {xs : List UInt8} {w : World} (h : MrowAt g cap e xs w) : Rd w (some ⟨g, 0, none⟩) 1 (xs.map u8c) := by
  obtain ⟨cur, fz, hg, _, _, _, hs, ht⟩ := h
  refine ⟨fun k c hk => ?_⟩
  rw [List.getElem?_map] at hk
  cases hx : xs[k]? with
  | none => rw [hx] at hk; simp at hk
  | some x =>
    rw [hx] at hk
    simp only [Option.map_some, Option.some.injEq] at hk
    subst hk
    refine ⟨rfl, ⟨g, 0, rfl⟩, (Array.getElem?_eq_some_iff.1 hg).1, by intro u hu; simp at hu; subst hu; rfl, fun j hj => ?_⟩
    obtain rfl : j = 0 := by omega
    have hkl := (List.getElem?_eq_some_iff.1 hx).1
    have h1 : (cur.toList.take xs.length)[k]? = some (u8v x) := by rw [ht, List.getElem?_map, hx]; rfl
    rw [List.getElem?_take_of_lt hkl, Array.getElem?_toList] at h1
    show w.cell? ⟨g, 0 + k * 1 + 0, none⟩ = _
    rw [cell_of_row w _ _ cur e fz hg]
    simpa using h1
theorem SL.mrd {w0 w : World} {O : List Nat} {L : List Ent} (h : SL w0 O w L) {i g cap : Nat} {e : TypeId} {xs : List UInt8} (hL : L[i]? = some (mrow g cap e xs)) : Rd w (some ⟨g, 0, none⟩) 1 (xs.map u8c) :=
  MrowAt.rd (h.ents _ (List.mem_of_getElem? hL))

theorem SL.mcap {w0 w : World} {O : List Nat} {L : List Ent} (h : SL w0 O w L) {i g cap : Nat} {e : TypeId} {xs : List UInt8} (hL : L[i]? = some (mrow g cap e xs)) : xs.length ≤ cap := by
  obtain ⟨_, _, _, _, h1, _⟩ := (h.ents _ (List.mem_of_getElem? hL) : MrowAt g cap e xs w)
  exact h1

section
variable {P : Program} {w0 : World} {O : List Nat} {n : Nat} {D : List Deferred} {o : Oper} {V : List (Nat × Value)} {L : List Ent} {T : List (Nat × Value) → List Ent → Prop}
/-- Stores into cells ahead of the mark. -/
theorem run_storeCells_M (g : Nat) (t : TypeId) (fz : Nat × Nat) : ∀ (vs : List Value) (j i : Nat) (cur : Array Value) (w : World), w.heap[g]? = some (.cells cur t fz) → (fz = (0, 0) ∨ cur.size ≤ fz.1) → j + i + vs.length ≤ cur.size → (∀ v ∈ vs, v.oneCell' = true) →
    ∃ cur' : Array Value, (storeCells ⟨g, j, none⟩ vs i).run P w = .ok () (w.setRow g cur') ∧ cur'.size = cur.size ∧ cur'.toList = cur.toList.take (j + i) ++ vs ++ cur.toList.drop (j + i + vs.length)
  | [], j, i, cur, w, hg, _, _, _ => by
    refine ⟨cur, ?_, rfl, by simp⟩
    rw [setRow_self w g cur t fz hg]
    rfl
  | v :: rest, j, i, cur, w, hg, hfz, hl, h1 => by
    have hlt : j + i < cur.size := by simp at hl; omega
    have hcell : w.cell? ⟨g, j + i, none⟩ = some cur[j + i] := by rw [cell_of_row w g _ cur t fz hg]; simp [hlt]
    have hfro : w.frozen? ⟨g, j + i, none⟩ = false := by
      simp only [World.frozen?, hg]
      rcases hfz with h | h
      · subst h; simp
      · simp only [Bool.and_eq_false_iff, decide_eq_false_iff_not]
        left; omega
    have hst : (store ((⟨g, j, none⟩ : Addr).add i) v).run P w = .ok () (w.setRow g (cur.setIfInBounds (j + i) v)) := by
      rw [add_none, run_store P w _ v _ (h1 v (by simp)), hcell]
      simp [hfro, setCell_eq_setRow w g (j + i) cur t fz v hg]
    obtain ⟨cur', h2, h3, h4⟩ := run_storeCells_M g t fz rest j (i + 1) (cur.setIfInBounds (j + i) v) (w.setRow g (cur.setIfInBounds (j + i) v)) (setRow_heap w g cur _ t _ hg) (by simpa using hfz) (by simp at hl ⊢; omega) (fun x hx => h1 x (by simp [hx]))
    refine ⟨cur', ?_, by simpa using h3, ?_⟩
    · simp only [storeCells, Sem.run_bind, hst, Result.andThen_ok, h2, setRow_setRow]
    · rw [h4, Array.toList_setIfInBounds]
      have hl' : j + i < cur.toList.length := by simpa using hlt
      have e1 : (cur.toList.set (j + i) v).take (j + (i + 1)) = cur.toList.take (j + i) ++ [v] := by
        rw [show j + (i + 1) = (j + i) + 1 from by omega, List.take_succ_eq_append_getElem (by simpa using hl'), List.take_set_of_le (Nat.le_refl _)]
        simp
      have e2 : (cur.toList.set (j + i) v).drop (j + (i + 1) + rest.length) = cur.toList.drop (j + i + (v :: rest).length) := by
        rw [List.drop_set_of_lt (by omega)]
        congr 1; simp; omega
      rw [e1, e2]; simp

theorem run_append_M {t ty e : TypeId} {w : World} {g cap : Nat} {xs ys : List UInt8} (ht : SlB P t e 1 1 (.int .u8 0)) (h : MrowAt g cap e xs w) {B : Option Addr} {c : Nat} (hB : Rd w B 1 (ys.map u8c)) (hby : xs.length + ys.length ≤ 140737488355328) :
    ∃ g' cap' w', (Builtin.append_ #[t, t] ty #[.slice (some ⟨g, 0, none⟩) xs.length cap, .slice B ys.length c]).run P w = .ok (.slice (some ⟨g', 0, none⟩) (xs ++ ys).length cap') w' ∧ MrowAt g' cap' e (xs ++ ys) w' ∧
      w'.os = w.os ∧ w'.tape = w.tape ∧ w'.output = w.output ∧ w.heap.size ≤ w'.heap.size ∧ (∀ k, k < w.heap.size → k ≠ g → w'.heap[k]? = w.heap[k]?) ∧ (g' = g ∨ w.heap.size ≤ g') := by
  obtain ⟨i, hi, hz, hsz, hbb⟩ := ht.info
  obtain ⟨cur, fz, hg, hfz, hxc, hcm, hcs, htk⟩ := h
  have hgl : g < w.heap.size := (Array.getElem?_eq_some_iff.1 hg).1
  rcases ys with _ | ⟨y, ys⟩
  · refine ⟨g, cap, w, ?_, ⟨cur, fz, hg, hfz, by simpa using hxc, hcm, hcs, by simpa using htk⟩, rfl, rfl, rfl, Nat.le_refl _, fun _ _ _ => rfl, .inl rfl⟩
    have hA : (some (⟨g, 0, none⟩ : Addr)) = none → xs.length = 0 := fun h => by cases h
    have hf : (Builtin.firstCells i.size 0 (.slice B 0 c)).run P w = .ok #[] w := by
      cases B <;> simp [Builtin.firstCells, loadCells, loadCellsFrom]
    simp [Builtin.append_, run_underlying ht.under, sizeOf, typeInfo, hi, Builtin.lenOf, hxc, hf, storeCells]
  · obtain ⟨_, ⟨b, j, rfl⟩, _, _⟩ := hB.at_ 0 (u8c y) (by simp)
    have hnews : ∀ q u, ((y :: ys).map u8v)[q]? = some u → w.cell? ((⟨b, j, none⟩ : Addr).add q) = some u := by
      intro q u hq
      rw [List.getElem?_map] at hq
      cases hy : (y :: ys)[q]? with
      | none => rw [hy] at hq; simp at hq
      | some z =>
        rw [hy] at hq
        obtain ⟨_, _, _, _, hc⟩ := hB.at_ q (u8c z) (by rw [List.getElem?_map, hy]; rfl)
        have := hc 0 (by decide)
        rw [add_none]
        simp only [Option.map_some, Option.some.injEq] at hq
        subst hq
        simpa [ab, ao] using this
    have h1 : ∀ u ∈ (y :: ys).map u8v, u.oneCell' = true := by
      intro u hu
      obtain ⟨z, _, rfl⟩ := List.mem_map.1 hu
      rfl
    by_cases hroom : xs.length + (y :: ys).length ≤ cap
    · obtain ⟨cur', hst, hs', hl'⟩ := run_storeCells_M (P := P) g e fz ((y :: ys).map u8v) (xs.length * i.size) 0 cur w hg hfz (by rw [hsz]; simp at hroom ⊢; omega) h1
      have hf := run_firstCells_some (P := P) w i.size (y :: ys).length ⟨b, j, none⟩ (y :: ys).length c ((y :: ys).map u8v) (by rw [hsz]; simp) hnews
      refine ⟨g, cap, w.setRow g cur', ?_, ⟨cur', fz, setRow_heap w g cur cur' e fz hg, by rw [hs']; exact hfz, by simpa using hroom, hcm, by omega, ?_⟩, rfl, rfl, rfl, by simp, fun k _ hk => setRow_other w g k _ hk, .inl rfl⟩
      · have hroom' : xs.length + (ys.length + 1) ≤ cap := by simpa using hroom
        simp only [List.length_cons] at hf
        simp [Builtin.append_, run_underlying ht.under, sizeOf, typeInfo, hi, Builtin.lenOf, hroom', hf, Addr.add_lit, hst]
        rw [List.map_cons] at hst
        simp [hst]
      · rw [hl', Nat.add_zero, hsz, Nat.mul_one, htk, List.length_append]
        have : (xs.map u8v ++ (y :: ys).map u8v).length = xs.length + (y :: ys).length := by simp
        rw [← this, List.take_left, List.map_append]
    · have holds : ∀ j u, (xs.map u8v)[j]? = some u → w.cell? ((⟨g, 0, none⟩ : Addr).add j) = some u := by
        intro q u hq
        have hql : q < xs.length := by
          have := (List.getElem?_eq_some_iff.1 hq).1
          simpa using this
        rw [← htk, List.getElem?_take_of_lt hql, Array.getElem?_toList] at hq
        rw [add_none, cell_of_row w _ _ cur e fz hg]
        simpa using hq
      have hr := run_append_grow (P := P) w t ty e i (.int .u8 0) ht.under hi hz ⟨g, 0, none⟩ xs.length cap (xs.map u8v) (by rw [hsz]; simp) holds ⟨b, j, none⟩ (y :: ys).length c ((y :: ys).map u8v) (by rw [hsz]; simp) hnews (by omega) (by omega) (growslice_fits (by omega) (by rw [hbb]; omega))
      have hm : xs.length + (y :: ys).length ≤ maxLen := by simp only [maxLen]; omega
      refine ⟨w.heap.size, _, _, by rw [List.length_append]; exact hr, ⟨_, (0, 0), heap_alloc_new w.drew _, .inl rfl, ?_, grownCap_le_maxLen w _ cap e hm, ?_, ?_⟩, rfl, rfl, rfl, by simp, fun k hk _ => heap_alloc_old w.drew _ hk, .inr (Nat.le_refl _)⟩
      · rw [List.length_append]; exact grownCap_ge w _ cap e
      · have hge := grownCap_ge w (xs.length + (y :: ys).length) cap e
        have hz1 : (Value.int IntKind.u8 0).cells.size = 1 := rfl
        simp only [Array.size_append, List.size_toArray, size_zeroCells, hz1, List.length_map]
        omega
      · simp only [Array.toList_append]
        have : (xs.map u8v ++ (y :: ys).map u8v).length = (xs ++ (y :: ys)).length := by simp
        rw [← this, List.map_append]
        exact List.take_left

/-- append to such a row, of bytes that lie in L. -/
theorem op_appendM1 {x y : Operand} {t e : TypeId} {d g cap i j m cy capy : Nat} {ey : TypeId} {B : Option Addr} {xs : List UInt8} (ys : List UInt8) {yc : List (Array Value)}
    (ho : o.op = .call { callee := .builtin .append, args := #[x, y], argTypes := #[t, t] }) (hd : o.dst = some d) (hdn : Nat.blt d n = true) (ht : SlB P t e 1 1 (.int .u8 0)) (hx : ev V x = some (.slice (some ⟨g, 0, none⟩) xs.length cap)) (hL : L[i]? = some (mrow g cap e xs))
    (hy : ev V y = some (.slice B m cy)) (hm : ys.length = m) (hLy : L[j]? = some (.row B capy ey 1 yc)) (hyc : ys.map u8c = yc) (hby : xs.length + ys.length ≤ 140737488355328)
    (hT : ∀ g' cap', T ((d, .slice (some ⟨g', 0, none⟩) (xs ++ ys).length cap') :: V) (L.set i (mrow g' cap' e (xs ++ ys)))) : OpS P w0 O n D o V L T := by
  intro a w ha hw
  subst hm
  subst hyc
  have hB : Rd w B 1 (ys.map u8c) := Ent.rd (hw.ents _ (List.mem_of_getElem? hLy))
  obtain ⟨g', cap', w', hrun, hat, e1, e2, e3, e4, e5, e6⟩ := run_append_M (P := P) (ty := o.type) (c := cy) ht (hw.ents _ (List.mem_of_getElem? hL)) hB hby
  have hr : (execOp a.eval o).run P w = .ok (.value (.slice (some ⟨g', 0, none⟩) (xs ++ ys).length cap')) w' := by
    simp only [execOp, ho, resolve, invoke, builtin, Sem.run_bind, Sem.run_pure, Result.andThen_ok, List.map_toArray, List.map_cons, List.map_nil, ha.eval hx, ha.eval hy, hrun]
  unfold Does
  rw [hr, hd]
  refine ⟨_, _, hT g' cap', ha.put hdn _, hw.setI hL e1 e2 e3 e4 hat (by simp [mrow, Ent.blocks]) ?_ ?_⟩
  · intro b hb
    obtain rfl : b = g' := by simpa [mrow, Ent.blocks] using hb
    rcases e6 with h | h
    · left; simp [mrow, Ent.blocks, h]
    · exact .inr h
  · intro k hk hkb
    exact e5 k hk (fun h => hkb (by simp [mrow, Ent.blocks, h]))

/-- The bytes of a string. -/
theorem op_strBytes {s' d' e : TypeId} {x : Operand} {s : ByteArray} {d : Nat} {u : TypeDesc} (ho : o.op = .convert s' d' x) (hd : o.dst = some d) (hdn : Nat.blt d n = true) (hs : P.underlying s' = some u) (ht : P.underlying d' = some (.slice e)) (he : P.underlying e = some (.int .u8)) (hx : ev V x = some (.string s)) (hm : s.size ≤ 9223372036854775807)
    (hT : ∀ g cap, T ((d, .slice (some ⟨g, 0, none⟩) (s.data.toList).length cap) :: V) (mrow g cap e s.data.toList :: L)) : OpS P w0 O n D o V L T := by
  intro a w ha hw
  have hrun := Lib.run_convert_string_bytes (P := P) w s' d' e s hs ht he
  have hr : (execOp a.eval o).run P w = .ok (.value (.slice (some ⟨w.heap.size, 0, none⟩) (s.data.toList).length (grownCap w s.size 0 e))) (Lib.bytesWorld w e s) := by
    have hl : (s.data.toList).length = s.size := by rw [Array.length_toList]; rfl
    simp only [execOp, ho, ha.eval hx, Sem.run_bind, hrun, Result.andThen_ok, Sem.run_pure, hl]
  have hsl : (s.data.toList).length = s.size := by rw [Array.length_toList]; rfl
  have hge := grownCap_ge w s.size 0 e
  have hat : MrowAt w.heap.size (grownCap w s.size 0 e) e s.data.toList (Lib.bytesWorld w e s) := by
    refine ⟨_, _, Lib.bytesWorld_at_new w e s, .inr (Nat.le_refl _), by omega, grownCap_le_maxLen w _ 0 e (by simpa [maxLen] using hm), ?_, ?_⟩
    · unfold Lib.bytesCells
      rw [Array.size_append, Array.size_map, Array.size_replicate]
      show s.size + _ = _
      omega
    · unfold Lib.bytesCells
      rw [Array.toList_append, Array.toList_map]
      have : (s.data.toList.map fun b => Value.int .u8 ((b.toNat : Nat) : Int)).length = s.data.toList.length := List.length_map _
      rw [← this]
      exact List.take_left
  unfold Does
  rw [hr, hd]
  refine ⟨_, _, hT w.heap.size _, ha.put hdn _, ?_⟩
  have hall := hw.alloc (.cells #[] e)
  have := hall.set (A := []) (R := L) (w' := Lib.bytesWorld w e s) (p := .blk w.heap.size (.cells #[] e)) (p' := mrow w.heap.size (grownCap w s.size 0 e) e s.data.toList) rfl rfl rfl rfl (by rw [Lib.bytesWorld_size]; simp) hat (by simp [mrow, Ent.blocks]) (fun b hb => .inl (by simpa [mrow, Ent.blocks] using hb)) (fun k hk hkb => ?_)
  · simpa using this
  · have hkl : k < w.heap.size := by
      have hne : k ≠ w.heap.size := fun e => hkb (by simp [Ent.blocks, e])
      have : k < w.heap.size + 1 := by simpa using hk
      omega
    rw [Lib.bytesWorld_at_old w e s k hkl, heap_alloc_old w _ hkl]
end
end Go.Proofs.YtpcfgoadkfajfaaGreatDoor
namespace Go.Proofs.YtpcfgoadkfajfaaGreatDoor
set_option linter.all false
open Go Go.RowKit
section
variable {P : Program} {w0 : World} {O : List Nat} {n : Nat} {D : List Deferred} {o : Oper} {V : List (Nat × Value)} {L : List Ent} {T : List (Nat × Value) → List Ent → Prop}

/-- An array's element, of one cell. -/
theorem yw_aggIdx {t e : TypeId} {x y : Operand} {cs : Array Value} {len k : Nat} {q : Int} {v : Value} (ho : o.op = .index t x y) (ht : P.underlying t = some (.array len e)) (h1 : One P e) (hs : SzT P e 1) (hx : ev V x = some (.agg cs)) (hy : ev V y = some (.int .i64 q)) (hq : q = (k : Int)) (hk : k < len) (hv : cs[k]? = some v) :
    YldW P n D o V v := by
  intro a w ha
  obtain ⟨i, h2, h3⟩ := hs
  obtain ⟨d, hd, hb⟩ := h1
  subst hq
  have hag : (isAgg e).run P w = .ok false w := by
    simp only [isAgg, Sem.run_bind, run_underlying hd, Result.andThen_ok]
    cases d <;> simp [oneB] at hb ⊢
  have h4 : (k : Int) < (len : Int) := by omega
  simp [execOp, ho, ha.eval hx, ha.eval hy, Instr.index, asIntOf, run_underlying ht, sizeOf, typeInfo, h2, h3, hk, part, hag, hv]
theorem yw_strIdx {t : TypeId} {x y : Operand} {s : ByteArray} {k : Nat} {q : Int} {ky : IntKind} {b : UInt8} (ho : o.op = .index t x y) (ht : P.underlying t = some .string) (hx : ev V x = some (.string s)) (hy : ev V y = some (.int ky q)) (hq : q = (k : Int)) (hb : s.data[k]? = some b) :
    YldW P n D o V (.int .u8 ((b.toNat : Nat) : Int)) := by
  intro a w ha
  subst hq
  have hk : k < s.size := (Array.getElem?_eq_some_iff.1 hb).1
  have h4 : (k : Int) < (s.size : Int) := by omega
  have hg : s[k] = b := (Array.getElem?_eq_some_iff.1 hb).2
  simp [execOp, ho, ha.eval hx, ha.eval hy, run_index_string w t s ky (k : Int) ht, hk, hg]
/-- Slices of an array behind a pointer. -/
theorem yw_arrFrom {t e : TypeId} {x y : Operand} {b len sz k : Nat} {q : Int} (ho : o.op = .slice t x (some y) none none) (ht : P.underlying t = some (.array len e)) (hs : SzT P e sz) (hx : ev V x = some (.pointer (some ⟨b, 0, none⟩))) (hy : ev V y = some (.int .i64 q)) (hq : q = (k : Int)) (hk : k < len) :
    YldW P n D o V (.slice (some ⟨b, k * sz, none⟩) (len - k) (len - k)) := by
  intro a w ha
  obtain ⟨i, h4, h5⟩ := hs
  subst h5; subst hq
  have g1 : (k : Int) ≤ (len : Int) := by omega
  have g2 : k ≤ len := by omega
  have g3 : ¬ len = k := by omega
  simp [execOp, ho, ha.eval hx, ha.eval hy, Instr.sliceAt, Instr.slice, Instr.sureAddr, run_underlying ht, Instr.sliceBounds, Instr.sliceBound, asIntOf, sizeOf, typeInfo, h4, g1, g2, g3, add_none]
theorem yw_arrTo {t e : TypeId} {x y : Operand} {b len sz k : Nat} {q : Int} (ho : o.op = .slice t x none (some y) none) (ht : P.underlying t = some (.array len e)) (hs : SzT P e sz) (hx : ev V x = some (.pointer (some ⟨b, 0, none⟩))) (hy : ev V y = some (.int .i64 q)) (hq : q = (k : Int)) (hk : k ≤ len) :
    YldW P n D o V (.slice (some ⟨b, 0, none⟩) k len) := by
  intro a w ha
  obtain ⟨i, h4, h5⟩ := hs
  subst h5; subst hq
  have g1 : (k : Int) ≤ (len : Int) := by omega
  simp [execOp, ho, ha.eval hx, ha.eval hy, Instr.sliceAt, Instr.slice, Instr.sureAddr, run_underlying ht, Instr.sliceBounds, Instr.sliceBound, asIntOf, sizeOf, typeInfo, h4, g1, hk, add_none]
theorem yw_arrAll {t e : TypeId} {x : Operand} {b len sz : Nat} (ho : o.op = .slice t x none none none) (ht : P.underlying t = some (.array len e)) (hs : SzT P e sz) (hx : ev V x = some (.pointer (some ⟨b, 0, none⟩))) :
    YldW P n D o V (.slice (some ⟨b, 0, none⟩) len len) := by
  intro a w ha
  obtain ⟨i, h4, h5⟩ := hs
  subst h5
  simp [execOp, ho, ha.eval hx, Instr.sliceAt, Instr.slice, Instr.sureAddr, run_underlying ht, Instr.sliceBounds, Instr.sliceBound, asIntOf, sizeOf, typeInfo, h4, add_none]
/-- x[lo:hi:max] -/
theorem yw_slice3 {t e : TypeId} {x l h m : Operand} {A : Addr} {len cap sz i j k : Nat} {qi qj qk : Int} (ho : o.op = .slice t x (some l) (some h) (some m)) (ht : SlT P t e sz) (hx : ev V x = some (.slice (some A) len cap)) (hl : ev V l = some (.int .i64 qi)) (hh : ev V h = some (.int .i64 qj)) (hm : ev V m = some (.int .i64 qk))
    (e1 : qi = (i : Int)) (e2 : qj = (j : Int)) (e3 : qk = (k : Int)) (h1 : i ≤ j) (h2 : j ≤ k) (h3 : k ≤ cap) (h4 : i < k) :
    YldW P n D o V (.slice (some (A.add (i * sz))) (j - i) (k - i)) := by
  intro a w ha
  obtain ⟨f, g1, g2, g3⟩ := ht
  subst e1; subst e2; subst e3; subst g3
  have a1 : (i : Int) ≤ (j : Int) := by omega
  have a2 : (j : Int) ≤ (k : Int) := by omega
  have a3 : (k : Int) ≤ (cap : Int) := by omega
  have a4 : ¬ k = i := by omega
  simp [execOp, ho, ha.eval hx, ha.eval hl, ha.eval hh, ha.eval hm, Instr.sliceAt, Instr.slice, run_underlying g1, Instr.sliceBounds, Instr.sliceBound, asIntOf, h1, h2, h3, sizeOf, typeInfo, g2, a4]
theorem yw_slice3n {t e : TypeId} {x l h m : Operand} {b q0 len cap sz i j k mm cc : Nat} {qi qj qk : Int} (ho : o.op = .slice t x (some l) (some h) (some m)) (ht : SlT P t e sz) (hx : ev V x = some (.slice (some ⟨b, q0, none⟩) len cap)) (hl : ev V l = some (.int .i64 qi)) (hh : ev V h = some (.int .i64 qj)) (hm : ev V m = some (.int .i64 qk))
    (e1 : qi = (i : Int)) (e2 : qj = (j : Int)) (e3 : qk = (k : Int)) (h1 : i ≤ j) (h2 : j ≤ k) (h3 : k ≤ cap) (h4 : i < k) (hmm : j - i = mm) (hcc : k - i = cc) :
    YldW P n D o V (.slice (some ⟨b, q0 + i * sz, none⟩) mm cc) := by
  have := yw_slice3 (P := P) (n := n) (D := D) ho ht hx hl hh hm e1 e2 e3 h1 h2 h3 h4
  rw [add_none, hmm, hcc] at this
  exact this
theorem yw_lenAny {x : Operand} {t e : TypeId} {A : Option Addr} {m c : Nat} (ho : o.op = .call { callee := .builtin .len, args := #[x], argTypes := #[t] }) (ht : P.underlying t = some (.slice e)) (hx : ev V x = some (.slice A m c)) : YldW P n D o V (.int .i64 ((m : Nat) : Int)) := yw_lenS ho ht hx

/-- Bytes of a slice as a string. -/
theorem y_bytesRd {s d e : TypeId} {x : Operand} {b j len c : Nat} (l : List UInt8) (ho : o.op = .convert s d x) (hx : ev V x = some (.slice (some ⟨b, j, none⟩) len c)) (hs : P.underlying s = some (.slice e)) (he : P.underlying e = some (.int .u8)) (hd : P.underlying d = some .string)
    (hr : ∀ w, SL w0 O w L → Rd w (some ⟨b, j, none⟩) 1 (l.map u8c)) (hlen : l.length = len) : Yld P w0 O n D o V L (.string ⟨l.toArray⟩) := by
  intro a w ha hw
  subst hlen
  have := run_convert_bytes_back (P := P) w s d e ⟨b, j, none⟩ c l hs he hd (fun k hk => by
    obtain ⟨_, _, _, _, hc⟩ := (hr w hw).at_ k (u8c l[k]) (by rw [List.getElem?_map, List.getElem?_eq_getElem hk]; rfl)
    have := hc 0 (by decide)
    rw [add_none]
    simpa [ab, ao] using this)
  simp only [execOp, ho, ha.eval hx, Sem.run_bind, this, Result.andThen_ok, Sem.run_pure]

/-- copy within a block. -/
theorem op_copyBlk {x y : Operand} {t e : TypeId} {d g i j k m c1 c2 m2 : Nat} {cs : Array Value} {tt : TypeId} (cs' : Array Value) (ho : o.op = .call { callee := .builtin .copy, args := #[x, y], argTypes := #[t, t] }) (hd : o.dst = some d) (hdn : Nat.blt d n = true) (ht : SlT P t e 1) (hx : ev V x = some (.slice (some ⟨g, j, none⟩) m c1)) (hy : ev V y = some (.slice (some ⟨g, k, none⟩) m2 c2))
    (hL : L[i]? = some (.blk g (.cells cs tt (0, 0)))) (hm : m2 = m) (h1 : j + m ≤ cs.size) (h2 : k + m ≤ cs.size) (hone : ∀ v ∈ cs.toList, v.oneCell' = true) (hcs : cs.toList.take j ++ (cs.toList.drop k).take m ++ cs.toList.drop (j + m) = cs'.toList)
    (hT : T ((d, .int .i64 ((m : Nat) : Int)) :: V) (L.set i (.blk g (.cells cs' tt (0, 0))))) : OpS P w0 O n D o V L T := by
  intro a w ha hw
  subst hm
  have hg := hw.ents _ (List.mem_of_getElem? hL)
  obtain ⟨f, g1, g2, g3⟩ := ht
  have hl2 : ((cs.toList.drop k).take m2).length = m2 := by simp; omega
  have hr := run_copy_row (P := P) w t t o.type e g j m2 c1 ⟨g, k, none⟩ m2 c2 cs tt ((cs.toList.drop k).take m2) g1 (by rw [g2]; simp [g3]) hg (by rw [hl2]; simp) (fun q v hq => by
    have hql : q < m2 := by
      have := (List.getElem?_eq_some_iff.1 hq).1
      omega
    rw [add_none, cell_of_row w g _ cs tt _ hg]
    rw [List.getElem?_take_of_lt hql, List.getElem?_drop, Array.getElem?_toList] at hq
    exact hq) (by rw [hl2]; exact h1) (fun v hv => hone v (List.mem_of_mem_drop (List.mem_of_mem_take hv)))
  rw [hl2, hcs] at hr
  have hr' : (execOp a.eval o).run P w = .ok (.value (.int .i64 ((m2 : Nat) : Int))) (w.setRow g cs') := by
    simp only [execOp, ho, resolve, invoke, builtin, Sem.run_bind, Sem.run_pure, Result.andThen_ok, List.map_toArray, List.map_cons, List.map_nil, ha.eval hx, ha.eval hy, hr]
    rfl
  unfold Does
  rw [hr', hd]
  exact ⟨_, _, hT, ha.put hdn _, hw.setB hL (.cells cs' tt (0, 0)) (w' := w.setRow g cs') rfl rfl rfl (by simp) (setRow_heap w g cs cs' tt _ hg) (fun k hk => setRow_other w g k _ hk)⟩
/-- An array that lay ahead of the call, whole. -/
theorem y_loadGA {t : TypeId} {x : Operand} {b sz : Nat} {cs : Array Value} (ho : o.op = .load t x) (hx : ev V x = some (.pointer (some ⟨b, 0, none⟩))) (h1 : AggT P t sz) (hc : cs.size = sz ∧ 0 < sz ∧ ∀ i v, cs[i]? = some v → w0.cell? ⟨b, i, none⟩ = some v) (hO : b ∉ O) : Yld P w0 O n D o V L (.agg cs) := by
  intro a w ha hw
  have hb : b < w0.heap.size := by
    have := hc.2.2 0 cs[0] (by rw [Array.getElem?_eq_getElem])
    exact World.block_lt_of_cell? w0 _ this
  have := run_load_agg (P := P) (w := w) (b := b) (j := 0) (cs := cs.toList) h1 (by simpa using hc.1) (fun i v hv => by
    rw [hw.cell0 (p := ⟨b, 0 + i, none⟩) hb hO, Nat.zero_add]
    exact hc.2.2 i v (by simpa using hv))
  simp [execOp, ho, ha.eval hx, Instr.loadAt, Instr.sureAddr, this]
/-- The bytes of a block. -/
theorem SL.blkRd {w : World} (hw : SL w0 O w L) {i g : Nat} {cs : Array Value} {tt : TypeId} {fr : Nat × Nat} {l : List UInt8} (hL : L[i]? = some (.blk g (.cells cs tt fr))) (hcs : cs.toList = l.map u8v) : Rd w (some ⟨g, 0, none⟩) 1 (l.map u8c) := by
  have hg := hw.ents _ (List.mem_of_getElem? hL)
  have hg' : w.heap[g]? = some (.cells cs tt fr) := hg
  refine ⟨fun k c hk => ?_⟩
  rw [List.getElem?_map] at hk
  cases hx : l[k]? with
  | none => rw [hx] at hk; simp at hk
  | some x =>
    rw [hx] at hk
    simp only [Option.map_some, Option.some.injEq] at hk
    subst hk
    refine ⟨rfl, ⟨g, 0, rfl⟩, (Array.getElem?_eq_some_iff.1 hg').1, by intro u hu; simp at hu; subst hu; rfl, fun j hj => ?_⟩
    obtain rfl : j = 0 := by omega
    show w.cell? ⟨g, 0 + k * 1 + 0, none⟩ = _
    rw [cell_of_row w _ _ cs tt fr hg, ← Array.getElem?_toList, hcs]
    simp [hx]
end
end Go.Proofs.YtpcfgoadkfajfaaGreatDoor
namespace Go.Proofs.YtpcfgoadkfajfaaGreatDoor
set_option linter.all false
open Go Go.RowKit
set_option maxRecDepth 100000
theorem zero_179 : Zero Tryz.prog 179 (.agg (#[.bool false, .int .i64 0])) := ⟨(Tryz.prog.info? 179).get!, by kernel_rfl, by kernel_rfl⟩
theorem fld_183_0 : Fld Tryz.prog 183 0 0 := ⟨_, _, (Tryz.prog.info? 181).get!, Tryz.underlying183, rfl, rfl, by kernel_rfl, by decide +kernel⟩
theorem one_181 : One Tryz.prog 181 := ⟨_, Tryz.underlying181, rfl⟩
theorem agg_179 : AggT Tryz.prog 179 2 := ⟨_, _, Tryz.underlying179, rfl, (by kernel_rfl : Tryz.prog.info? 179 = some (Tryz.prog.info? 179).get!), by kernel_rfl⟩
theorem kmapt_181 : KMapT Tryz.prog keyB 181 (.agg (#[.bool false, .int .i64 0])) := ⟨_, _, (Tryz.prog.info? 179).get!, Tryz.underlying181, (keyOk_boolInt Tryz.underlying179 (by kernel_rfl) (by decide) (by decide) Tryz.underlying4 Tryz.underlying3 rfl rfl), by kernel_rfl, by kernel_rfl⟩
theorem szt_179 : SzT Tryz.prog 179 2 := ⟨(Tryz.prog.info? 179).get!, by kernel_rfl, by kernel_rfl⟩
theorem agg_183 : AggT Tryz.prog 183 1 := ⟨_, _, Tryz.underlying183, rfl, (by kernel_rfl : Tryz.prog.info? 183 = some (Tryz.prog.info? 183).get!), by kernel_rfl⟩
theorem ent_120 : ∀ args w, (callFunc 120 args).run Tryz.prog w = .ok (.enter 120 args) w := enters_of Tryz.func120 (by kernel_rfl) rfl
set_option maxRecDepth 100000 in
theorem w_find_s {w : World} {g : Nat} {R : Nd → Nd} {rk : Nd → Nat} (x : Nd) (p : List (Nd × Nd)) (hF : Forest p R rk) (hs : SL w [g] w [kmap keyB keyB g p]) (ih : ∀ (y : Nd) (p : List (Nd × Nd)) (w : World), rk y < rk x → Forest p R rk → SL w [g] w [kmap keyB keyB g p] → Calls Tryz.prog 120 #[.agg #[.map (some g)], .agg #[Value.bool (Prod.fst y), Value.int .i64 (Prod.snd y)]] w (fun e w' => ∃ p' : List (Nd × Nd), Forest p' R rk ∧ e = .returned (keyB (R y)) ∧ SL w [g] w' [kmap keyB keyB g p'])) :
    Calls Tryz.prog 120 #[.agg (#[.map (some g)]), .agg (#[Value.bool (Prod.fst x), Value.int .i64 (Prod.snd x)])] w (fun e w' => ∃ p' : List (Nd × Nd), Forest p' R rk ∧ e = .returned (keyB (R x)) ∧ SL w [g] w' [kmap keyB keyB g p']) := by
 refine calls_of_CX (O := [g]) (L := [kmap keyB keyB g p]) (args := [.agg (#[.map (some g)]), .agg (#[Value.bool (Prod.fst x), Value.int .i64 (Prod.snd x)])]) Tryz.func120 rfl (by simp [Tryz.ntmps120]) hs ?_
 refine CX.sub (V' := [(0, .agg (#[.map (some g)])), (1, .agg (#[Value.bool (Prod.fst x), Value.int .i64 (Prod.snd x)]))]) ⟨rfl, rfl, trivial⟩ ?_
 refine CX.seq ?_
 refine CX.region ?_
 refine RX.cons rfl rfl (op_box rfl rfl rfl rfl fun gf => ?_)
 refine RX.cons rfl rfl (op_box rfl rfl rfl rfl fun gx => ?_)
 refine RX.cons rfl rfl (op_alloc rfl rfl rfl zero_179 fun gr => ?_)
 refine RX.nil (XX.next (V' := [(2, _), (3, _), (4, .pointer (some ⟨gr, 0, none⟩))]) ⟨rfl, rfl, rfl, trivial⟩ ?_)
 refine CX.seq ?_
 rcases hk : kget x p with _ | y
 ·refine CX.region ?_
  refine RX.cons rfl rfl (op_w (yw_field0 rfl fld_183_0 rfl) rfl rfl ?_)
  refine RX.cons rfl rfl (op_yld (y_load (i := 2) rfl rfl one_181 rfl rfl) rfl rfl ?_)
  refine RX.cons rfl rfl (op_yld (y_loadA (i := 1) rfl rfl agg_179 rfl rfl) rfl rfl ?_)
  refine RX.cons rfl rfl (op_yld (y_klookupOk (i := 3) (k := x) (kv := p) (encK := keyB) (encV := keyB) rfl rfl rfl kmapt_181 rfl) rfl rfl ?_)
  refine RX.know (t := 12) (u := .tuple #[.agg (#[.bool false, .int .i64 0]), .bool false]) rfl (by rw [hk]; rfl) ?_
  refine RX.cons rfl rfl (op_w (yw_move rfl rfl) rfl rfl ?_)
  refine RX.cons rfl rfl (op_w (yw_extract rfl rfl rfl) rfl rfl ?_)
  refine RX.cons rfl rfl (op_w (yw_extract rfl rfl rfl) rfl rfl ?_)
  refine RX.cons rfl rfl (op_alloc rfl rfl rfl zero_179 fun gy => ?_)
  refine RX.cons rfl rfl (op_storeAll (i := 0) rfl rfl rfl rfl szt_179 rfl (plain_of rfl) rfl rfl ?_)
  refine RX.cons rfl rfl (op_w (yw_assign rfl rfl) rfl rfl ?_)
  refine RX.nil (XX.next (V' := [(2, _), (3, _), (4, .pointer (some ⟨gr, 0, none⟩)), (5, _), (6, _)]) ⟨rfl, rfl, rfl, rfl, rfl, trivial⟩ ?_)
  refine CX.seq ?_
  refine CX.seq ?_
  refine CX.region ?_
  refine RX.cons rfl rfl (op_w (yw_move rfl rfl) rfl rfl ?_)
  refine RX.cons rfl rfl (op_w (yw_not rfl rfl) rfl rfl ?_)
  refine RX.nil (XX.next (V' := [(2, _), (3, _), (4, .pointer (some ⟨gr, 0, none⟩)), (5, _), (16, _)]) ⟨rfl, rfl, rfl, rfl, rfl, trivial⟩ ?_)
  refine CX.condT rfl ?_
  refine CX.seq ?_
  refine CX.region ?_
  refine RX.cons rfl rfl (op_yld (y_loadA (i := 2) rfl rfl agg_179 rfl rfl) rfl rfl ?_)
  refine RX.cons rfl rfl (op_storeAll (i := 1) rfl rfl rfl rfl szt_179 rfl (plain_of rfl) rfl rfl ?_)
  refine RX.nil (XX.next (V' := [(4, .pointer (some ⟨gr, 0, none⟩))]) ⟨rfl, trivial⟩ ?_)
  refine CX.ret ?_
  refine XX.then_ret ?_
  exact ret_cell (i := 1) rfl rfl agg_179 rfl rfl fun w1 hw => ⟨p, hF, by rw [hF.top x hk]; rfl, hw.pick ((perm_pick 4 rfl).trans (List.Perm.cons _ (List.Perm.refl _)))⟩
 ·refine CX.region ?_
  refine RX.cons rfl rfl (op_w (yw_field0 rfl fld_183_0 rfl) rfl rfl ?_)
  refine RX.cons rfl rfl (op_yld (y_load (i := 2) rfl rfl one_181 rfl rfl) rfl rfl ?_)
  refine RX.cons rfl rfl (op_yld (y_loadA (i := 1) rfl rfl agg_179 rfl rfl) rfl rfl ?_)
  refine RX.cons rfl rfl (op_yld (y_klookupOk (i := 3) (k := x) (kv := p) (encK := keyB) (encV := keyB) rfl rfl rfl kmapt_181 rfl) rfl rfl ?_)
  refine RX.know (t := 12) (u := .tuple #[.agg (#[Value.bool (Prod.fst y), Value.int .i64 (Prod.snd y)]), .bool true]) rfl (by rw [hk]; rfl) ?_
  refine RX.cons rfl rfl (op_w (yw_move rfl rfl) rfl rfl ?_)
  refine RX.cons rfl rfl (op_w (yw_extract rfl rfl rfl) rfl rfl ?_)
  refine RX.cons rfl rfl (op_w (yw_extract rfl rfl rfl) rfl rfl ?_)
  refine RX.cons rfl rfl (op_alloc rfl rfl rfl zero_179 fun gy => ?_)
  refine RX.cons rfl rfl (op_storeAll (i := 0) rfl rfl rfl rfl szt_179 rfl (plain_of rfl) rfl rfl ?_)
  refine RX.cons rfl rfl (op_w (yw_assign rfl rfl) rfl rfl ?_)
  refine RX.nil (XX.next (V' := [(2, _), (3, _), (4, .pointer (some ⟨gr, 0, none⟩)), (5, _), (6, _)]) ⟨rfl, rfl, rfl, rfl, rfl, trivial⟩ ?_)
  refine CX.seq ?_
  refine CX.seq ?_
  refine CX.region ?_
  refine RX.cons rfl rfl (op_w (yw_move rfl rfl) rfl rfl ?_)
  refine RX.cons rfl rfl (op_w (yw_not rfl rfl) rfl rfl ?_)
  refine RX.nil (XX.next (V' := [(2, _), (3, _), (4, .pointer (some ⟨gr, 0, none⟩)), (5, _), (16, _)]) ⟨rfl, rfl, rfl, rfl, rfl, trivial⟩ ?_)
  refine CX.condF rfl ?_
  refine CX.skip (XX.next (V' := [(2, _), (3, _), (4, .pointer (some ⟨gr, 0, none⟩)), (5, _)]) ⟨rfl, rfl, rfl, rfl, trivial⟩ ?_)
  refine CX.seq ?_
  refine CX.region ?_
  refine RX.cons rfl rfl (op_yld (y_loadA (i := 3) rfl rfl agg_183 rfl rfl) rfl rfl ?_)
  refine RX.cons rfl rfl (op_yld (y_loadA (i := 0) rfl rfl agg_179 rfl rfl) rfl rfl ?_)
  refine RX.cons rfl rfl (op_callP [kmap keyB keyB g p] [.blk gy (.cells (#[Value.bool (Prod.fst y), Value.int .i64 (Prod.snd y)]) 179 (0, 0)), .blk gr (.cells (#[.bool false, .int .i64 0]) 179 (0, 0)), .blk gx (.cells (#[Value.bool (Prod.fst x), Value.int .i64 (Prod.snd x)]) 179 (0, 0)), .blk gf (.cells (#[.map (some g)]) 183 (0, 0))] rfl rfl rfl rfl rfl ent_120 ((perm_pick 4 rfl).trans (List.Perm.cons _ (List.Perm.refl _))) (σ := List (Nd × Nd)) (val := fun _ => keyB (R y)) (LL := fun p' => [kmap keyB keyB g p']) (post := fun p' => Forest p' R rk) (fun w hw hs => ih y p w (hF.dec x y hk).1 hF hs) (fun p1 hp1 => ?_))
  refine RX.cons rfl rfl (op_alloc rfl rfl rfl zero_179 fun gz => ?_)
  refine RX.cons rfl rfl (op_storeAll (i := 0) rfl rfl rfl rfl szt_179 rfl (plain_of rfl) rfl rfl ?_)
  refine RX.nil (XX.next (V' := [(2, _), (3, _), (4, .pointer (some ⟨gr, 0, none⟩)), (7, _)]) ⟨rfl, rfl, rfl, rfl, trivial⟩ ?_)
  refine CX.seq ?_
  refine CX.region ?_
  refine RX.cons rfl rfl (op_w (yw_field0 rfl fld_183_0 rfl) rfl rfl ?_)
  refine RX.cons rfl rfl (op_yld (y_load (i := 5) rfl rfl one_181 rfl rfl) rfl rfl ?_)
  refine RX.cons rfl rfl (op_yld (y_loadA (i := 4) rfl rfl agg_179 rfl rfl) rfl rfl ?_)
  refine RX.cons rfl rfl (op_yld (y_loadA (i := 0) rfl rfl agg_179 rfl rfl) rfl rfl ?_)
  refine RX.cons rfl rfl (op_kupdate (i := 1) (k := x) (u := (R y)) (kv := p1) (encK := keyB) (encV := keyB) (.inl rfl) rfl rfl rfl rfl kmapt_181 rfl ?_)
  refine RX.nil (XX.next (V' := [(4, .pointer (some ⟨gr, 0, none⟩)), (7, _)]) ⟨rfl, rfl, trivial⟩ ?_)
  refine CX.seq ?_
  refine CX.region ?_
  refine RX.cons rfl rfl (op_yld (y_loadA (i := 0) rfl rfl agg_179 rfl rfl) rfl rfl ?_)
  refine RX.cons rfl rfl (op_storeAll (i := 3) rfl rfl rfl rfl szt_179 rfl (plain_of rfl) rfl rfl ?_)
  refine RX.nil (XX.next (V' := [(4, .pointer (some ⟨gr, 0, none⟩))]) ⟨rfl, trivial⟩ ?_)
  refine CX.ret ?_
  exact ret_cell (i := 3) rfl rfl agg_179 rfl rfl fun w1 hw => ⟨kset x (R y) p1, by rw [← (hF.dec x y hk).2]; exact hp1.short (hF.lt hk), by rw [(hF.dec x y hk).2]; rfl, hw.pick ((perm_pick 1 rfl).trans (List.Perm.cons _ (List.Perm.refl _)))⟩

theorem w_find {w : World} {g : Nat} {R : Nd → Nd} {rk : Nd → Nat} (x : Nd) (p : List (Nd × Nd)) (hF : Forest p R rk) (hs : SL w [g] w [kmap keyB keyB g p]) : Calls Tryz.prog 120 #[.agg #[.map (some g)], .agg #[Value.bool (Prod.fst x), Value.int .i64 (Prod.snd x)]] w (fun e w' => ∃ p' : List (Nd × Nd), Forest p' R rk ∧ e = .returned (keyB (R x)) ∧ SL w [g] w' [kmap keyB keyB g p']) := by
  have H : ∀ (N : Nat) (x : Nd) (p : List (Nd × Nd)) (w : World), rk x ≤ N → Forest p R rk → SL w [g] w [kmap keyB keyB g p] → Calls Tryz.prog 120 #[.agg #[.map (some g)], .agg #[Value.bool (Prod.fst x), Value.int .i64 (Prod.snd x)]] w (fun e w' => ∃ p' : List (Nd × Nd), Forest p' R rk ∧ e = .returned (keyB (R x)) ∧ SL w [g] w' [kmap keyB keyB g p']) := by
    intro N
    induction N with
    | zero => exact fun x p w hN hF hs => w_find_s x p hF hs (fun y p w h => by omega)
    | succ N ih => exact fun x p w hN hF hs => w_find_s x p hF hs (fun y p w h => ih y p w (by omega))
  exact H (rk x) x p w (Nat.le_refl _) hF hs
end Go.Proofs.YtpcfgoadkfajfaaGreatDoor
namespace Go.Proofs.YtpcfgoadkfajfaaGreatDoor
set_option linter.all false
open Go Go.RowKit
set_option maxRecDepth 100000
theorem eqg_179 : Tryz.prog.eqGuardType Tryz.prog.depth 179 = false := by kernel_rfl
theorem key_node : KeyOk Tryz.prog keyB 179 := keyOk_boolInt Tryz.underlying179 (by kernel_rfl) (by decide) (by decide) Tryz.underlying4 Tryz.underlying3 rfl rfl
set_option maxRecDepth 100000 in
theorem w_join {w : World} {g : Nat} {R : Nd → Nd} {rk : Nd → Nat} (a b : Nd) (p : List (Nd × Nd)) (hF : Forest p R rk) (hs : SL w [g] w [kmap keyB keyB g p]) :
    Calls Tryz.prog 125 #[.agg (#[.map (some g)]), .agg (#[Value.bool (Prod.fst a), Value.int .i64 (Prod.snd a)]), .agg (#[Value.bool (Prod.fst b), Value.int .i64 (Prod.snd b)])] w (fun e w' => ∃ q : List (Nd × Nd) × (Nd → Nat), Forest q.1 (joinR R a b) q.2 ∧ e = .returned (.tuple #[]) ∧ SL w [g] w' [kmap keyB keyB g q.1]) := by
 refine calls_of_CX (O := [g]) (L := [kmap keyB keyB g p]) (args := [.agg (#[.map (some g)]), .agg (#[Value.bool (Prod.fst a), Value.int .i64 (Prod.snd a)]), .agg (#[Value.bool (Prod.fst b), Value.int .i64 (Prod.snd b)])]) Tryz.func125 rfl (by simp [Tryz.ntmps125]) hs ?_
 refine CX.sub (V' := [(0, .agg (#[.map (some g)])), (1, .agg (#[Value.bool (Prod.fst a), Value.int .i64 (Prod.snd a)])), (2, .agg (#[Value.bool (Prod.fst b), Value.int .i64 (Prod.snd b)]))]) ⟨rfl, rfl, rfl, trivial⟩ ?_
 refine CX.seq ?_
 refine CX.region ?_
 refine RX.cons rfl rfl (op_box rfl rfl rfl rfl fun gf => ?_)
 refine RX.cons rfl rfl (op_box rfl rfl rfl rfl fun ga => ?_)
 refine RX.cons rfl rfl (op_box rfl rfl rfl rfl fun gb => ?_)
 refine RX.nil (XX.next (V' := [(3, _), (4, _), (5, _)]) ⟨rfl, rfl, rfl, trivial⟩ ?_)
 refine CX.seq ?_
 refine CX.drawL 6 ([.blk gb (.cells (#[Value.bool (Prod.fst b), Value.int .i64 (Prod.snd b)]) 179 (0, 0)), .blk ga (.cells (#[Value.bool (Prod.fst a), Value.int .i64 (Prod.snd a)]) 179 (0, 0)), .blk gf (.cells (#[.map (some g)]) 183 (0, 0))]) [(0, 8, 64), (0, 16, 128), (3, 192, 256), (0, 8, 512), (0, 32, 1024), (28, 1536, 2048), (39, 272, 0), (127, 2080, 0)] (by kernel_rfl) (by kernel_rfl) (by kernel_rfl) ?_
 refine DX.take 0 1 (by kernel_rfl) rfl rfl rfl rfl rfl (List.Sublist.cons_cons _ (List.Sublist.cons_cons _ (List.Sublist.cons_cons _ (List.nil_sublist _)))) (y_loadA (i := 2) rfl rfl agg_183 rfl rfl) ?_
 refine DX.take 1 3 (by kernel_rfl) rfl rfl rfl rfl rfl (List.Sublist.cons_cons _ (List.Sublist.cons_cons _ (List.Sublist.cons_cons _ (List.nil_sublist _)))) (y_loadA (i := 1) rfl rfl agg_179 rfl rfl) ?_
 refine DX.take 3 11 (by kernel_rfl) rfl rfl rfl rfl rfl (List.Sublist.cons_cons _ (List.Sublist.cons_cons _ (List.Sublist.cons_cons _ (List.nil_sublist _)))) (y_loadA (i := 2) rfl rfl agg_183 rfl rfl) ?_
 refine DX.take 4 27 (by kernel_rfl) rfl rfl rfl rfl rfl (List.Sublist.cons_cons _ (List.Sublist.cons_cons _ (List.Sublist.cons_cons _ (List.nil_sublist _)))) (y_loadA (i := 0) rfl rfl agg_179 rfl rfl) ?_
 refine DX.step 2 31 (by kernel_rfl) rfl rfl rfl (op_callP [kmap keyB keyB g p] [.blk gb (.cells (#[Value.bool (Prod.fst b), Value.int .i64 (Prod.snd b)]) 179 (0, 0)), .blk ga (.cells (#[Value.bool (Prod.fst a), Value.int .i64 (Prod.snd a)]) 179 (0, 0)), .blk gf (.cells (#[.map (some g)]) 183 (0, 0))] rfl rfl rfl rfl rfl ent_120 ((perm_pick 3 rfl).trans (List.Perm.cons _ (List.Perm.refl _))) (σ := List (Nd × Nd)) (val := fun _ => keyB (R a)) (LL := fun p' => [kmap keyB keyB g p']) (post := fun p' => Forest p' R rk) (fun w hw hs => w_find a p hF hs) (fun p1 hp1 => (DXs.mk (List.Sublist.cons _ (List.Sublist.refl _)) ?_)))
 refine DX.step 5 63 (by kernel_rfl) rfl rfl rfl (op_callP [kmap keyB keyB g p1] [.blk gb (.cells (#[Value.bool (Prod.fst b), Value.int .i64 (Prod.snd b)]) 179 (0, 0)), .blk ga (.cells (#[Value.bool (Prod.fst a), Value.int .i64 (Prod.snd a)]) 179 (0, 0)), .blk gf (.cells (#[.map (some g)]) 183 (0, 0))] rfl rfl rfl rfl rfl ent_120 ((perm_pick 0 rfl).trans (List.Perm.cons _ (List.Perm.refl _))) (σ := List (Nd × Nd)) (val := fun _ => keyB (R b)) (LL := fun p' => [kmap keyB keyB g p']) (post := fun p' => Forest p' R rk) (fun w hw hs => w_find b p1 hp1 hs) (fun p2 hp2 => (DXs.mk (List.Sublist.cons _ (List.Sublist.refl _)) ?_)))
 refine DX.stepT 6 127 (by kernel_rfl) rfl rfl rfl rfl (op_storeAll (i := 2) rfl rfl rfl rfl szt_179 rfl (plain_of rfl) rfl rfl ?_)
 refine DX.stepT 7 255 (by kernel_rfl) rfl rfl rfl rfl (op_storeAll (i := 1) rfl rfl rfl rfl szt_179 rfl (plain_of rfl) rfl rfl ?_)
 refine DX.done (by kernel_rfl) (XX.next (V' := [(3, _), (4, _), (5, _)]) ⟨rfl, rfl, rfl, trivial⟩ ?_)
 refine CX.seq ?_
 refine CX.region ?_
 refine RX.cons rfl rfl (op_yld (y_loadA (i := 2) rfl rfl agg_179 rfl rfl) rfl rfl ?_)
 refine RX.cons rfl rfl (op_yld (y_loadA (i := 1) rfl rfl agg_179 rfl rfl) rfl rfl ?_)
 refine RX.cons rfl rfl (op_w (yw_neqAgg (b := decide (R a = R b)) rfl rfl rfl eqg_179 (fun w => key_node.eq (R a) (R b) w)) rfl rfl ?_)
 refine RX.nil (XX.next (V' := [(3, _), (4, _), (5, _), (14, _)]) ⟨rfl, rfl, rfl, rfl, trivial⟩ ?_)
 refine CX.cond (b := !(decide (R a = R b))) rfl (fun c14 => ?_) (fun c14 => ?_)
 ·refine CX.region ?_
  refine RX.cons rfl rfl (op_w (yw_field0 rfl fld_183_0 rfl) rfl rfl ?_)
  refine RX.cons rfl rfl (op_yld (y_load (i := 3) rfl rfl one_181 rfl rfl) rfl rfl ?_)
  refine RX.cons rfl rfl (op_yld (y_loadA (i := 2) rfl rfl agg_179 rfl rfl) rfl rfl ?_)
  refine RX.cons rfl rfl (op_yld (y_loadA (i := 1) rfl rfl agg_179 rfl rfl) rfl rfl ?_)
  refine RX.cons rfl rfl (op_kupdate (i := 0) (k := (R a)) (u := (R b)) (kv := p2) (encK := keyB) (encV := keyB) (.inl rfl) rfl rfl rfl rfl kmapt_181 rfl ?_)
  refine RX.nil ?_
  exact end_none rfl fun w1 hw => ⟨(kset (R a) (R b) p2, _), hp2.join (by simpa using c14), rfl, hw.pick ((perm_pick 0 rfl).trans (List.Perm.cons _ (List.Perm.refl _)))⟩
 ·refine CX.skip ?_
  exact end_none rfl fun w1 hw => ⟨(p2, rk), by rw [joinR_same (by simpa using c14)]; exact hp2, rfl, hw.pick ((perm_pick 0 rfl).trans (List.Perm.cons _ (List.Perm.refl _)))⟩

end Go.Proofs.YtpcfgoadkfajfaaGreatDoor
namespace Go.Proofs
set_option linter.all false
open Go.Shelf
def Tryz.laysSort_ren : Go.Shelf.Ren := ⟨fun | 189 => 128 | 125 => 37 | 257 => 130 | 128 => 87 | 129 => 88 | 294 => 131 | 295 => 132 | 296 => 133 | 297 => 134 | 298 => 135 | 299 => 136 | 216 => 137 | 300 => 138 | 301 => 139 | 328 => 140 | 329 => 111 | 330 => 112 | 331 => 141 | 332 => 142 | 215 => 89 | 343 => 143 | n => n, fun | 28 => 24 | 3 => 3 | 46 => 92 | 0 => 0 | 51 => 145 | 53 => 147 | 4 => 4 | 183 => 138 | 182 => 137 | 131 => 142 | 5 => 5 | 9 => 9 | 218 => 167 | 222 => 82 | 228 => 191 | 229 => 85 | n => n, fun | n => n⟩
theorem Tryz.laysSort : Go.Proofs.Lays.n189 Tryz.prog Tryz.laysSort_ren := {
  mixed := by kernel_rfl
  f125 := Tryz.func37.trans (congrArg some (by kernel_rfl))
  f128 := Tryz.func87.trans (congrArg some (by kernel_rfl))
  f129 := Tryz.func88.trans (congrArg some (by kernel_rfl))
  f189 := Tryz.func128.trans (congrArg some (by kernel_rfl))
  f215 := Tryz.func89.trans (congrArg some (by kernel_rfl))
  f216 := Tryz.func137.trans (congrArg some (by kernel_rfl))
  f257 := Tryz.func130.trans (congrArg some (by kernel_rfl))
  f294 := Tryz.func131.trans (congrArg some (by kernel_rfl))
  f295 := Tryz.func132.trans (congrArg some (by kernel_rfl))
  f296 := Tryz.func133.trans (congrArg some (by kernel_rfl))
  f297 := Tryz.func134.trans (congrArg some (by kernel_rfl))
  f298 := Tryz.func135.trans (congrArg some (by kernel_rfl))
  f299 := Tryz.func136.trans (congrArg some (by kernel_rfl))
  f300 := Tryz.func138.trans (congrArg some (by kernel_rfl))
  f301 := Tryz.func139.trans (congrArg some (by kernel_rfl))
  f328 := Tryz.func140.trans (congrArg some (by kernel_rfl))
  f329 := Tryz.func111.trans (congrArg some (by kernel_rfl))
  f330 := Tryz.func112.trans (congrArg some (by kernel_rfl))
  f331 := Tryz.func141.trans (congrArg some (by kernel_rfl))
  f332 := Tryz.func142.trans (congrArg some (by kernel_rfl))
  f343 := Tryz.func143.trans (congrArg some (by kernel_rfl))
  t0 := Tryz.underlying0
  a0 := Tryz.isAgg0
  z0 := Tryz.sizeOf0
  v0 := Tryz.zeroValue0
  t3 := Tryz.underlying3
  a3 := Tryz.isAgg3
  z3 := Tryz.sizeOf3
  v3 := Tryz.zeroValue3
  t4 := Tryz.underlying4
  a4 := Tryz.isAgg4
  z4 := Tryz.sizeOf4
  v4 := Tryz.zeroValue4
  t5 := Tryz.underlying5
  a5 := Tryz.isAgg5
  z5 := Tryz.sizeOf5
  v5 := Tryz.zeroValue5
  t9 := Tryz.underlying9
  a9 := Tryz.isAgg9
  z9 := Tryz.sizeOf9
  v9 := Tryz.zeroValue9
  t28 := Tryz.underlying24
  a28 := Tryz.isAgg24
  z28 := Tryz.sizeOf24
  v28 := Tryz.zeroValue24
  t46 := Tryz.underlying92
  a46 := Tryz.isAgg92
  z46 := Tryz.sizeOf92
  v46 := Tryz.zeroValue92
  t51 := Tryz.underlying145
  a51 := Tryz.isAgg145
  z51 := Tryz.sizeOf145
  v51 := Tryz.zeroValue145
  t53 := Tryz.underlying147
  a53 := Tryz.isAgg147
  z53 := Tryz.sizeOf147
  v53 := Tryz.zeroValue147
  t131 := Tryz.underlying142
  a131 := Tryz.isAgg142
  z131 := Tryz.sizeOf142
  v131 := Tryz.zeroValue142
  t182 := Tryz.underlying137
  a182 := Tryz.isAgg137
  z182 := Tryz.sizeOf137
  v182 := Tryz.zeroValue137
  t183 := Tryz.underlying138
  a183 := Tryz.isAgg138
  z183 := Tryz.sizeOf138
  v183 := Tryz.zeroValue138
  t218 := Tryz.underlying167
  a218 := Tryz.isAgg167
  z218 := Tryz.sizeOf167
  v218 := Tryz.zeroValue167
  t222 := Tryz.underlying82
  a222 := Tryz.isAgg82
  z222 := Tryz.sizeOf82
  v222 := Tryz.zeroValue82
  t228 := Tryz.underlying191
  a228 := Tryz.isAgg191
  z228 := Tryz.sizeOf191
  v228 := Tryz.zeroValue191
  t229 := Tryz.underlying85
  a229 := Tryz.isAgg85
  z229 := Tryz.sizeOf85
  v229 := Tryz.zeroValue85 }
def Tryz.laysCompact_ren : Go.Shelf.Ren := ⟨fun | 20 => 129 | n => n, fun | 22 => 24 | 3 => 3 | 4 => 4 | 0 => 0 | n => n, fun | n => n⟩
theorem Tryz.laysCompact : Go.Proofs.Lays2.n20 Tryz.prog Tryz.laysCompact_ren := {
  mixed := by kernel_rfl
  f20 := Tryz.func129.trans (congrArg some (by kernel_rfl))
  t0 := Tryz.underlying0
  a0 := Tryz.isAgg0
  z0 := Tryz.sizeOf0
  v0 := Tryz.zeroValue0
  t3 := Tryz.underlying3
  a3 := Tryz.isAgg3
  z3 := Tryz.sizeOf3
  v3 := Tryz.zeroValue3
  t4 := Tryz.underlying4
  a4 := Tryz.isAgg4
  z4 := Tryz.sizeOf4
  v4 := Tryz.zeroValue4
  t22 := Tryz.underlying24
  a22 := Tryz.isAgg24
  z22 := Tryz.sizeOf24
  v22 := Tryz.zeroValue24
  i3 := by kernel_rfl }
def Tryz.laysSortK_ren : Go.Shelf.Ren := ⟨fun | 6 => 18 | 15 => 37 | 14 => 36 | 28 => 87 | 29 => 88 | 20 => 79 | 21 => 80 | 22 => 81 | 23 => 82 | 24 => 83 | 25 => 84 | 26 => 85 | 27 => 86 | 46 => 110 | 47 => 111 | 48 => 112 | 49 => 113 | 50 => 114 | 57 => 123 | n => n, fun | 22 => 52 | 24 => 48 | 25 => 55 | 3 => 3 | 39 => 92 | 0 => 0 | 53 => 145 | 55 => 147 | 4 => 4 | 46 => 138 | 45 => 137 | 50 => 142 | 5 => 5 | 9 => 9 | 66 => 167 | 70 => 82 | 76 => 191 | 77 => 85 | n => n, fun | n => n⟩
theorem Tryz.laysSortK : Go.Proofs.SlLaysF0.n6 Tryz.prog Tryz.laysSortK_ren := {
  mixed := by kernel_rfl
  f6 := ⟨Tryz.f18.name, by decide, Tryz.func18.trans (congrArg some (by kernel_rfl))⟩
  f14 := ⟨Tryz.f36.name, by decide, Tryz.func36.trans (congrArg some (by kernel_rfl))⟩
  f15 := Tryz.func37.trans (congrArg some (by kernel_rfl))
  f20 := ⟨Tryz.f79.name, by decide, Tryz.func79.trans (congrArg some (by kernel_rfl))⟩
  f21 := ⟨Tryz.f80.name, by decide, Tryz.func80.trans (congrArg some (by kernel_rfl))⟩
  f22 := ⟨Tryz.f81.name, by decide, Tryz.func81.trans (congrArg some (by kernel_rfl))⟩
  f23 := ⟨Tryz.f82.name, by decide, Tryz.func82.trans (congrArg some (by kernel_rfl))⟩
  f24 := ⟨Tryz.f83.name, by decide, Tryz.func83.trans (congrArg some (by kernel_rfl))⟩
  f25 := ⟨Tryz.f84.name, by decide, Tryz.func84.trans (congrArg some (by kernel_rfl))⟩
  f26 := ⟨Tryz.f85.name, by decide, Tryz.func85.trans (congrArg some (by kernel_rfl))⟩
  f27 := ⟨Tryz.f86.name, by decide, Tryz.func86.trans (congrArg some (by kernel_rfl))⟩
  f28 := Tryz.func87.trans (congrArg some (by kernel_rfl))
  f29 := Tryz.func88.trans (congrArg some (by kernel_rfl))
  f46 := ⟨Tryz.f110.name, by decide, Tryz.func110.trans (congrArg some (by kernel_rfl))⟩
  f47 := Tryz.func111.trans (congrArg some (by kernel_rfl))
  f48 := Tryz.func112.trans (congrArg some (by kernel_rfl))
  f49 := ⟨Tryz.f113.name, by decide, Tryz.func113.trans (congrArg some (by kernel_rfl))⟩
  f50 := ⟨Tryz.f114.name, by decide, Tryz.func114.trans (congrArg some (by kernel_rfl))⟩
  f57 := ⟨Tryz.f123.name, by decide, Tryz.func123.trans (congrArg some (by kernel_rfl))⟩
  t0 := Tryz.underlying0
  a0 := Tryz.isAgg0
  z0 := Tryz.sizeOf0
  v0 := Tryz.zeroValue0
  t3 := Tryz.underlying3
  a3 := Tryz.isAgg3
  z3 := Tryz.sizeOf3
  v3 := Tryz.zeroValue3
  t4 := Tryz.underlying4
  a4 := Tryz.isAgg4
  z4 := Tryz.sizeOf4
  v4 := Tryz.zeroValue4
  t5 := Tryz.underlying5
  a5 := Tryz.isAgg5
  z5 := Tryz.sizeOf5
  v5 := Tryz.zeroValue5
  t9 := Tryz.underlying9
  a9 := Tryz.isAgg9
  z9 := Tryz.sizeOf9
  v9 := Tryz.zeroValue9
  t22 := Tryz.underlying52
  a22 := Tryz.isAgg52
  z22 := Tryz.sizeOf52
  v22 := Tryz.zeroValue52
  t25 := Tryz.underlying55
  a25 := Tryz.isAgg55
  z25 := Tryz.sizeOf55
  v25 := Tryz.zeroValue55
  t39 := Tryz.underlying92
  a39 := Tryz.isAgg92
  z39 := Tryz.sizeOf92
  v39 := Tryz.zeroValue92
  t45 := Tryz.underlying137
  a45 := Tryz.isAgg137
  z45 := Tryz.sizeOf137
  v45 := Tryz.zeroValue137
  t46 := Tryz.underlying138
  a46 := Tryz.isAgg138
  z46 := Tryz.sizeOf138
  v46 := Tryz.zeroValue138
  t50 := Tryz.underlying142
  a50 := Tryz.isAgg142
  z50 := Tryz.sizeOf142
  v50 := Tryz.zeroValue142
  t53 := Tryz.underlying145
  a53 := Tryz.isAgg145
  z53 := Tryz.sizeOf145
  v53 := Tryz.zeroValue145
  t55 := Tryz.underlying147
  a55 := Tryz.isAgg147
  z55 := Tryz.sizeOf147
  v55 := Tryz.zeroValue147
  t66 := Tryz.underlying167
  a66 := Tryz.isAgg167
  z66 := Tryz.sizeOf167
  v66 := Tryz.zeroValue167
  t70 := Tryz.underlying82
  a70 := Tryz.isAgg82
  z70 := Tryz.sizeOf82
  v70 := Tryz.zeroValue82
  t76 := Tryz.underlying191
  a76 := Tryz.isAgg191
  z76 := Tryz.sizeOf191
  v76 := Tryz.zeroValue191
  t77 := Tryz.underlying85
  a77 := Tryz.isAgg85
  z77 := Tryz.sizeOf85
  v77 := Tryz.zeroValue85 }
end Go.Proofs
namespace Go.Proofs.YtpcfgoadkfajfaaGreatDoor
set_option linter.all false
open Go Go.RowKit Go.Shelf Go.Sort
abbrev iR (n : Int) : Array Value := #[.int .i64 n]
abbrev isort (l : List Int) : List Int := l.mergeSort fun x y => decide (x ≤ y)
theorem flat_iR (l : List Int) : flat (l.map iR) = l.map (Value.int .i64) := by
  induction l with
  | nil => rfl
  | cons a l ih => rw [List.map_cons, List.map_cons, ← ih]; rfl
theorem w_sort {w : World} {A : Option Addr} {cap : Nat} (xs : List Int) (hs : SL w (Ent.row A cap 3 1 (xs.map iR)).blocks w [.row A cap 3 1 (xs.map iR)]) (hl : xs.length ≤ 1000000) :
    Calls Tryz.prog 128 #[.slice A xs.length cap] w (fun e w' => e = .returned (.tuple #[]) ∧ SL w (Ent.row A cap 3 1 (xs.map iR)).blocks w' [.row A cap 3 1 ((isort xs).map iR)]) := by
  have hsat : (Ent.row A cap 3 1 (xs.map iR)).sat w := hs.ents _ List.mem_cons_self
  obtain ⟨hown, _⟩ := hsat
  rw [List.length_map, flat_iR] at hown
  have hls : (isort xs).length = xs.length := List.length_mergeSort xs
  rcases hown.2 with ⟨h0, hx⟩ | ⟨g, cap', cur, hv, hbase, hb, h1, h2, h3, h4⟩
  · injection h0 with e1 e2 e3
    subst e1; subst e3
    obtain rfl := List.eq_nil_of_length_eq_zero e2
    refine (Any.slices_Sort_int_none Tryz.laysSort none 0 w).mono ?_
    rintro e w' ⟨rfl, rfl⟩
    exact ⟨rfl, by rw [show isort [] = [] from List.mergeSort_nil]; exact hs⟩
  · injection hv with e1 _ e3
    subst e1; subst e3
    have hH : Go.Sort.Holds (Value.int .i64) w g 0 xs.toArray := holds_of_blockI hb (by rw [Nat.mul_one] at h4; exact h4)
    have hg : g < w.heap.size := (Array.getElem?_eq_some_iff.1 hb).1
    refine (Any.slices_Sort_int Tryz.laysSort g 0 cap xs w hH hg (by omega)).mono ?_
    rintro e w' ⟨rfl, n, os, rfl⟩
    refine ⟨rfl, ?_⟩
    have hgr := grownBy_sortedI (w := w) (g := g) (n := n) (os := os) (isort xs).toArray
    have hrow := ownsRow_sortedI (n := n) (os := os) (ss := xs) (ts := isort xs) hls (Nat.zero_le g) hb h1 h2 (by rw [h3])
    refine hs.setI (i := 0) (p' := .row (some ⟨g, 0, none⟩) cap 3 1 ((isort xs).map iR)) rfl ?_ ?_ ?_ ?_ ⟨?_, ?_⟩ ?_ ?_ ?_
    · exact hgr.os
    · exact hgr.tape
    · exact hgr.output
    · exact hgr.size
    · rw [List.length_map, flat_iR, hls]; exact hrow
    · intro c hc
      obtain ⟨x, _, rfl⟩ := List.mem_map.1 hc
      exact ⟨rfl, fun u hu => by simp at hu; subst hu; rfl⟩
    · simp [Ent.blocks]
    · intro b hb2; exact .inl (by simpa [Ent.blocks] using hb2)
    · intro k hk hkb
      exact hgr.block k hk (fun e => hkb (by cases e; simp [Ent.blocks]))
theorem w_compact {w : World} {A : Option Addr} {cap : Nat} (xs : List Int) (hs : SL w (Ent.row A cap 3 1 (xs.map iR)).blocks w [.row A cap 3 1 (xs.map iR)]) (hl : xs.length ≤ 1000000) :
    Calls Tryz.prog 129 #[.slice A xs.length cap] w (fun e w' => e = .returned (.slice A (Lib.compact xs).length cap) ∧ SL w (Ent.row A cap 3 1 (xs.map iR)).blocks w' [.row A cap 3 1 ((Lib.compact xs).map iR)]) := by
  have hsat : (Ent.row A cap 3 1 (xs.map iR)).sat w := hs.ents _ List.mem_cons_self
  obtain ⟨hown, _⟩ := hsat
  rw [List.length_map, flat_iR] at hown
  have hle := Lib.compact_length_le xs
  rcases hown.2 with ⟨h0, hx⟩ | ⟨g, cap', cur, hv, hbase, hb, h1, h2, h3, h4⟩
  · injection h0 with e1 e2 e3
    subst e1; subst e3
    obtain rfl := List.eq_nil_of_length_eq_zero e2
    refine (Any.slices_Compact_int_empty Tryz.laysCompact none 0 w).mono ?_
    rintro e w' ⟨rfl, rfl⟩
    exact ⟨rfl, hs⟩
  · injection hv with e1 _ e3
    subst e1; subst e3
    have hH : Go.Sort.Holds (Value.int .i64) w g 0 xs.toArray := holds_of_blockI hb (by rw [Nat.mul_one] at h4; exact h4)
    have hg : g < w.heap.size := (Array.getElem?_eq_some_iff.1 hb).1
    refine (Any.slices_Compact_int Tryz.laysCompact g 0 cap xs w hH (by omega) h1).mono ?_
    rintro e w' ⟨rfl, n, rfl⟩
    refine ⟨rfl, ?_⟩
    have hgr := grownBy_sortedI (w := w) (g := g) (n := n) (os := #[]) (Lib.compact xs ++ List.replicate (xs.length - (Lib.compact xs).length) 0).toArray
    rw [grow_empty] at hgr
    have hrow := Lib.ownsRow_putRow (enc := Value.int .i64) (q := n) (k := (Lib.compact xs).length) (zs := xs) (ys := Lib.compact xs ++ List.replicate (xs.length - (Lib.compact xs).length) 0) hown (by rw [List.length_append, List.length_replicate]; omega) hle
    rw [List.take_left] at hrow
    refine hs.setI (i := 0) (p' := .row (some ⟨g, 0, none⟩) cap 3 1 ((Lib.compact xs).map iR)) rfl ?_ ?_ ?_ ?_ ⟨?_, ?_⟩ ?_ ?_ ?_
    · exact hgr.os
    · exact hgr.tape
    · exact hgr.output
    · exact hgr.size
    · rw [List.length_map, flat_iR]; exact hrow
    · intro c hc
      obtain ⟨x, _, rfl⟩ := List.mem_map.1 hc
      exact ⟨rfl, fun u hu => by simp at hu; subst hu; rfl⟩
    · simp [Ent.blocks]
    · intro b hb2; exact .inl (by simpa [Ent.blocks] using hb2)
    · intro k hk hkb
      exact hgr.block k hk (fun e => hkb (by cases e; simp [Ent.blocks]))
/-- The numbers of a list in ascending order, each once. -/
def uniq (xs : List Int) : List Int := Lib.compact (isort xs)
end Go.Proofs.YtpcfgoadkfajfaaGreatDoor
namespace Go.Proofs.YtpcfgoadkfajfaaGreatDoor
set_option linter.all false
open Go Go.RowKit
set_option maxRecDepth 100000
theorem ent_128 : ∀ args w, (callFunc 128 args).run Tryz.prog w = .ok (.enter 128 args) w := enters_of Tryz.func128 (by kernel_rfl) rfl
theorem ent_129 : ∀ args w, (callFunc 129 args).run Tryz.prog w = .ok (.enter 129 args) w := enters_of Tryz.func129 (by kernel_rfl) rfl
theorem w_sortM {w : World} {A : Option Addr} {cap : Nat} (xs : List Int) (hs : SL w (List.flatMap Ent.blocks [.row A cap 3 1 (List.map iR xs)]) w [.row A cap 3 1 (List.map iR xs)]) (hl : xs.length ≤ 1000000) : Calls Tryz.prog 128 #[.slice A xs.length cap] w (fun e w' => ∃ y : Unit, True ∧ e = .returned (.tuple #[]) ∧ SL w (List.flatMap Ent.blocks [.row A cap 3 1 (List.map iR xs)]) w' [.row A cap 3 1 (List.map iR (isort xs))]) := by
  have e0 : (List.flatMap Ent.blocks [.row A cap 3 1 (List.map iR xs)]) = (Ent.row A cap 3 1 (xs.map iR)).blocks := by rw [List.flatMap_cons, List.flatMap_nil, List.append_nil]
  rw [e0] at hs ⊢
  exact (w_sort xs hs hl).mono fun e w' h => ⟨(), trivial, h⟩
theorem w_compactM {w : World} {A : Option Addr} {cap : Nat} (xs : List Int) (hs : SL w (List.flatMap Ent.blocks [.row A cap 3 1 (List.map iR xs)]) w [.row A cap 3 1 (List.map iR xs)]) (hl : xs.length ≤ 1000000) : Calls Tryz.prog 129 #[.slice A xs.length cap] w (fun e w' => ∃ y : Unit, True ∧ e = .returned (.slice A (Lib.compact xs).length cap) ∧ SL w (List.flatMap Ent.blocks [.row A cap 3 1 (List.map iR xs)]) w' [.row A cap 3 1 (List.map iR (Lib.compact xs))]) := by
  have e0 : (List.flatMap Ent.blocks [.row A cap 3 1 (List.map iR xs)]) = (Ent.row A cap 3 1 (xs.map iR)).blocks := by rw [List.flatMap_cons, List.flatMap_nil, List.append_nil]
  rw [e0] at hs ⊢
  exact (w_compact xs hs hl).mono fun e w' h => ⟨(), trivial, h⟩
set_option maxRecDepth 100000 in
theorem w_unique {w : World} {A : Option Addr} {cap : Nat} (xs : List Int) (hs : SL w (List.flatMap Ent.blocks [.row A cap 3 1 (List.map iR xs)]) w [.row A cap 3 1 (List.map iR xs)]) (hl : xs.length ≤ 1000000) :
    Calls Tryz.prog 126 #[.slice A (List.length (xs : List Int)) cap] w (fun e w' => ∃ y : Unit, True ∧ e = .returned (.slice A (List.length (uniq xs)) cap) ∧ SL w (List.flatMap Ent.blocks [.row A cap 3 1 (List.map iR xs)]) w' [.row A cap 3 1 (List.map iR (uniq xs))]) := by
 refine calls_of_CX (O := (List.flatMap Ent.blocks [.row A cap 3 1 (List.map iR xs)])) (L := [.row A cap 3 1 (List.map iR xs)]) (args := [.slice A (List.length (xs : List Int)) cap]) Tryz.func126 rfl (by simp [Tryz.ntmps126]) hs ?_
 refine CX.sub (V' := [(0, .slice A (List.length (xs : List Int)) cap)]) ⟨rfl, trivial⟩ ?_
 refine CX.seq ?_
 refine CX.region ?_
 refine RX.cons rfl rfl (op_w (yw_assign rfl rfl) rfl rfl ?_)
 refine RX.nil (XX.next (V' := [(0, _)]) ⟨rfl, trivial⟩ ?_)
 refine CX.seq ?_
 refine CX.region ?_
 refine RX.cons rfl rfl (op_w (yw_move rfl rfl) rfl rfl ?_)
 refine RX.cons rfl rfl (op_callP [.row A cap 3 1 (List.map iR xs)] [] rfl rfl rfl rfl rfl ent_128 ((perm_pick 0 rfl).trans (List.Perm.cons _ (List.Perm.refl _))) (σ := Unit) (val := fun _ => .tuple #[]) (LL := fun _ => [.row A cap 3 1 (List.map iR (isort xs))]) (post := fun _ => True) (fun w hw hs => w_sortM xs hs hl) (fun _ _ => ?_))
 refine RX.nil (XX.next (V' := [(0, _)]) ⟨rfl, trivial⟩ ?_)
 refine CX.seq ?_
 refine CX.region ?_
 refine RX.cons rfl rfl (op_w (yw_move rfl rfl) rfl rfl ?_)
 refine RX.know (t := 5) (u := .slice A (List.length ((isort xs) : List Int)) cap) rfl (congrArg (fun n : Nat => Value.slice A n cap) (List.length_mergeSort xs).symm) ?_
 refine RX.cons rfl rfl (op_callP [.row A cap 3 1 (List.map iR (isort xs))] [] rfl rfl rfl rfl rfl ent_129 ((perm_pick 0 rfl).trans (List.Perm.cons _ (List.Perm.refl _))) (σ := Unit) (val := fun _ => .slice A (List.length ((Lib.compact (isort xs)) : List Int)) cap) (LL := fun _ => [.row A cap 3 1 (List.map iR (Lib.compact (isort xs)))]) (post := fun _ => True) (fun w hw hs => w_compactM (isort xs) hs (by rw [List.length_mergeSort]; exact hl)) (fun _ _ => ?_))
 refine RX.cons rfl rfl (op_w (yw_assign rfl rfl) rfl rfl ?_)
 refine RX.nil (XX.next (V' := [(2, .slice A (List.length ((Lib.compact (isort xs)) : List Int)) cap)]) ⟨rfl, trivial⟩ ?_)
 refine CX.ret ?_
 exact ret_tmp rfl rfl fun w1 hw => ⟨(), trivial, rfl, hw⟩

end Go.Proofs.YtpcfgoadkfajfaaGreatDoor
namespace Go.Proofs.YtpcfgoadkfajfaaGreatDoor
set_option linter.all false
theorem get_some {α : Type} {l : List α} {k : Nat} (h : k < l.length) : ∃ x, l[k]? = some x := ⟨l[k], List.getElem?_eq_getElem h⟩
theorem map_get {α β : Type} {f : α → β} {l : List α} {k : Nat} {x : α} (h : l[k]? = some x) : (l.map f)[k]? = some (f x) := by rw [List.getElem?_map, h]; rfl
theorem take_succ {α : Type} {l : List α} {i : Nat} {x : α} (h : l[i]? = some x) : l.take (i + 1) = l.take i ++ [x] := by
  rw [List.take_add_one, h]; rfl
end Go.Proofs.YtpcfgoadkfajfaaGreatDoor
namespace Go.Proofs.YtpcfgoadkfajfaaGreatDoor
set_option linter.all false
open Go Go.RowKit
set_option maxRecDepth 100000
theorem slt_153 : SlT Tryz.prog 153 155 2 := ⟨(Tryz.prog.info? 155).get!, Tryz.underlying153, by kernel_rfl, by kernel_rfl⟩
theorem agg_155 : AggT Tryz.prog 155 2 := ⟨_, _, Tryz.underlying155, rfl, (by kernel_rfl : Tryz.prog.info? 155 = some (Tryz.prog.info? 155).get!), by kernel_rfl⟩
theorem zero_155 : Zero Tryz.prog 155 (.agg (#[.int .i64 0, .int .i64 0])) := ⟨(Tryz.prog.info? 155).get!, by kernel_rfl, by kernel_rfl⟩
theorem szt_155 : SzT Tryz.prog 155 2 := ⟨(Tryz.prog.info? 155).get!, by kernel_rfl, by kernel_rfl⟩
theorem fld_185_0 : Fld Tryz.prog 185 0 0 := ⟨_, _, (Tryz.prog.info? 183).get!, Tryz.underlying185, rfl, rfl, by kernel_rfl, by decide +kernel⟩
theorem fld_155_0 : Fld Tryz.prog 155 0 0 := ⟨_, _, (Tryz.prog.info? 3).get!, Tryz.underlying155, rfl, rfl, by kernel_rfl, by decide +kernel⟩
theorem one_3 : One Tryz.prog 3 := ⟨_, Tryz.underlying3, rfl⟩
theorem fld_155_1 : Fld Tryz.prog 155 1 1 := ⟨_, _, (Tryz.prog.info? 3).get!, Tryz.underlying155, rfl, rfl, by kernel_rfl, by decide +kernel⟩
theorem ent_125 : ∀ args w, (callFunc 125 args).run Tryz.prog w = .ok (.enter 125 args) w := enters_of Tryz.func125 (by kernel_rfl) rfl
theorem fld_185_1 : Fld Tryz.prog 185 1 1 := ⟨_, _, (Tryz.prog.info? 24).get!, Tryz.underlying185, rfl, rfl, by kernel_rfl, by decide +kernel⟩
theorem one_24 : One Tryz.prog 24 := ⟨_, Tryz.underlying24, rfl⟩
theorem slb_24 : SlB Tryz.prog 24 3 1 8 (.int .i64 0) := ⟨Tryz.underlying24, ⟨(Tryz.prog.info? 3).get!, by kernel_rfl, by kernel_rfl, by kernel_rfl, by kernel_rfl⟩, by decide, by decide⟩
theorem szt_24 : SzT Tryz.prog 24 1 := ⟨(Tryz.prog.info? 24).get!, by kernel_rfl, by kernel_rfl⟩
theorem fld_185_2 : Fld Tryz.prog 185 2 2 := ⟨_, _, (Tryz.prog.info? 24).get!, Tryz.underlying185, rfl, rfl, by kernel_rfl, by decide +kernel⟩
theorem ent_126 : ∀ args w, (callFunc 126 args).run Tryz.prog w = .ok (.enter 126 args) w := enters_of Tryz.func126 (by kernel_rfl) rfl
/-- An edge in memory. -/
abbrev edC (e : Int × Int) : Array Value := #[.int .i64 e.1, .int .i64 e.2]
theorem take_map_succ {α β : Type} {f : α → β} {l : List α} {i : Nat} {x : α} (h : l[i]? = some x) : (l.take (i + 1)).map f = (l.take i).map f ++ [f x] := by rw [take_succ h, List.map_append]; rfl
set_option maxRecDepth 100000 in
theorem w_of {w : World} {A : Option Addr} {cap : Nat} (E : List (Int × Int)) (hr : Rd w A 2 (E.map edC)) (hl : E.length ≤ 1000000) :
    Calls Tryz.prog 118 #[.slice A E.length cap] w (fun e w' => ∃ z : ((Nat × Nat) × List (Nd × Nd) × (Nd → Nat)) × (Option Addr × Nat) × (Option Addr × Nat), Forest z.1.2.1 (rep E) z.1.2.2 ∧ e = .returned (.pointer (some ⟨z.1.1.1, 0, none⟩)) ∧ SL w [] w' [.row z.2.2.1 z.2.2.2 3 1 (List.map iR (uniq (List.map Prod.snd E))), .row z.2.1.1 z.2.1.2 3 1 (List.map iR (uniq (List.map Prod.fst E))), .blk z.1.1.1 (.cells (#[.map (some z.1.1.2), .slice z.2.1.1 (List.length ((uniq (List.map Prod.fst E)) : List Int)) z.2.1.2, .slice z.2.2.1 (List.length ((uniq (List.map Prod.snd E)) : List Int)) z.2.2.2]) 185 (0, 0)), kmap keyB keyB z.1.1.2 z.1.2.1]) := by
 refine calls_of_CX (O := []) (L := []) (args := [.slice A E.length cap]) Tryz.func118 rfl (by simp [Tryz.ntmps118]) (SL.refl w) ?_
 refine CX.sub (V' := [(0, .slice A E.length cap)]) ⟨rfl, trivial⟩ ?_
 refine CX.seq ?_
 refine CX.region ?_
 refine RX.cons rfl rfl (op_w (yw_assign rfl rfl) rfl rfl ?_)
 refine RX.nil (XX.next (V' := [(0, _)]) ⟨rfl, trivial⟩ ?_)
 refine CX.seq ?_
 refine CX.region ?_
 refine RX.cons rfl rfl (op_kmake keyB keyB rfl rfl rfl fun gm => ?_)
 refine RX.cons rfl rfl (op_w (yw_build (v := .agg (#[.map (some gm)])) rfl rfl (fun _ => by kernel_rfl)) rfl rfl ?_)
 refine RX.cons rfl rfl (op_w (yw_build (v := .agg (#[.map (some gm), .slice none 0 0, .slice none 0 0])) rfl rfl (fun _ => by kernel_rfl)) rfl rfl ?_)
 refine RX.cons rfl rfl (op_box rfl rfl rfl rfl fun gc => ?_)
 refine RX.cons rfl rfl (op_w (yw_assign rfl rfl) rfl rfl ?_)
 refine RX.nil (XX.next (V' := [(0, _), (3, _)]) ⟨rfl, rfl, trivial⟩ ?_)
 refine CX.seq ?_
 refine CX.seq ?_
 refine CX.region ?_
 refine RX.cons rfl rfl (op_w (yw_move rfl rfl) rfl rfl ?_)
 refine RX.cons rfl rfl (op_w (yw_lenS rfl Tryz.underlying153 rfl) rfl rfl ?_)
 refine RX.cons rfl rfl (op_w (yw_move rfl rfl) rfl rfl ?_)
 refine RX.nil (XX.next (V' := [(3, _), (10, _), (11, _), (12, _)]) ⟨rfl, rfl, rfl, rfl, trivial⟩ ?_)
 refine CX.block ?_
 refine CX.rowNil 3 1 ?_
 refine CX.rowNil 3 1 ?_
 refine CX.loop (σ := Nat × (List (Nd × Nd) × (Nd → Nat)) × ((Option Addr × Nat) × List Int) × ((Option Addr × Nat) × List Int)) (fun z => [(3, .pointer (some ⟨gc, 0, none⟩)), (10, .slice A E.length cap), (11, .int .i64 ((E.length : Nat) : Int)), (12, .int .i64 ((z.1 : Nat) : Int))]) (fun z => [.row z.2.2.2.1.1 z.2.2.2.1.2 3 1 (List.map iR z.2.2.2.2), .row z.2.2.1.1.1 z.2.2.1.1.2 3 1 (List.map iR z.2.2.1.2), .blk gc (.cells (#[.map (some gm), .slice z.2.2.1.1.1 (List.length (z.2.2.1.2 : List Int)) z.2.2.1.1.2, .slice z.2.2.2.1.1 (List.length (z.2.2.2.2 : List Int)) z.2.2.2.1.2]) 185 (0, 0)), kmap keyB keyB gm z.2.1.1]) (fun z => z.1 ≤ E.length ∧ Forest z.2.1.1 (rep (E.take z.1)) z.2.1.2 ∧ z.2.2.1.2 = (List.map Prod.fst (List.take z.1 E)) ∧ z.2.2.2.2 = (List.map Prod.snd (List.take z.1 E))) (fun z => E.length - z.1) (0, ([], fun _ => 0), ((none, 0), []), ((none, 0), [])) ⟨Nat.zero_le _, Forest.nil, rfl, rfl⟩ ⟨rfl, rfl, rfl, rfl, trivial⟩ rfl (fun z hI => ?_)
 obtain ⟨i, ⟨p, rk⟩, ⟨⟨A1, c1⟩, X1⟩, ⟨⟨A2, c2⟩, X2⟩⟩ := z
 dsimp only at hI ⊢
 obtain ⟨hi, hF, hX1, hX2⟩ := hI
 have hX1n : X1.length = i := by rw [hX1, List.length_map, List.length_take]; omega
 have hX2n : X2.length = i := by rw [hX2, List.length_map, List.length_take]; omega
 refine CX.seq ?_
 refine CX.region ?_
 refine RX.cons rfl rfl (op_w (yw_lss rfl rfl rfl) rfl rfl ?_)
 refine RX.nil (XX.next (V' := [(3, _), (10, _), (11, _), (12, _), (13, _)]) ⟨rfl, rfl, rfl, rfl, rfl, trivial⟩ ?_)
 refine CX.seq ?_
 refine CX.condD (p := ((i : Nat) : Int) < ((E.length : Nat) : Int)) rfl (fun c13 => ?_) (fun c13 => ?_)
 ·obtain ⟨e0, he0⟩ := get_some (l := E) (k := i) (by omega)
  have he0m := List.mem_of_getElem? he0
  have hA : ∃ b j, A = some ⟨b, j, none⟩ := hr.some (k := 0) (by simp; omega)
  refine CX.skip (XX.next (V' := [(3, _), (10, _), (11, _), (12, _)]) ⟨rfl, rfl, rfl, rfl, trivial⟩ ?_)
  refine CX.seq ?_
  refine CX.block ?_
  refine CX.seq ?_
  refine CX.region ?_
  refine RX.cons rfl rfl (op_w (yw_index (k := i) rfl slt_153 rfl rfl (by omega) (by omega) hA) rfl rfl ?_)
  refine RX.cons rfl rfl (op_yld (y_elem rfl rfl agg_155 hr (by simp) (map_get he0)) rfl rfl ?_)
  refine RX.cons rfl rfl (op_alloc rfl rfl rfl zero_155 fun ge => ?_)
  refine RX.cons rfl rfl (op_storeAll (i := 0) rfl rfl rfl rfl szt_155 rfl (plain_of rfl) rfl rfl ?_)
  refine RX.nil (XX.next (V' := [(3, _), (5, _), (10, _), (11, _), (12, _)]) ⟨rfl, rfl, rfl, rfl, rfl, trivial⟩ ?_)
  refine CX.seq ?_
  refine CX.draw 10 [(0, 8, 65536), (1, 65536, 131072), (2, 131072, 262144), (4, 262144, 524288), (0, 32, 1048576), (16, 1048576, 2097152), (32, 2097152, 4194304), (0, 32, 8388608), (128, 8388608, 16777216), (256, 16777216, 33554432), (584, 38273024, 67108864)] (by kernel_rfl) (by kernel_rfl) (by kernel_rfl) ?_
  refine DX.takeW 0 1 (by kernel_rfl) rfl rfl rfl rfl rfl (yw_move rfl rfl) ?_
  refine DX.takeW 1 3 (by kernel_rfl) rfl rfl rfl rfl rfl (yw_nilCheck rfl rfl) ?_
  refine DX.takeW 2 7 (by kernel_rfl) rfl rfl rfl rfl rfl (yw_field0 rfl fld_185_0 rfl) ?_
  refine DX.take 3 15 (by kernel_rfl) rfl rfl rfl rfl rfl (List.Sublist.refl _) (y_loadP (i := 3) (vs := #[.map (some gm)]) rfl rfl agg_183 rfl rfl (fun k hk => by match k, hk with | 0, _ => rfl)) ?_
  refine DX.takeW 4 31 (by kernel_rfl) rfl rfl rfl rfl rfl (yw_field0 rfl fld_155_0 rfl) ?_
  refine DX.take 5 63 (by kernel_rfl) rfl rfl rfl rfl rfl (List.Sublist.refl _) (y_load (i := 0) rfl rfl one_3 rfl rfl) ?_
  refine DX.takeW 6 127 (by kernel_rfl) rfl rfl rfl rfl rfl (yw_build (v := .agg (#[.bool false, .int .i64 (Prod.fst e0)])) rfl rfl (fun _ => by kernel_rfl)) ?_
  refine DX.takeW 7 255 (by kernel_rfl) rfl rfl rfl rfl rfl (yw_fieldAddr rfl fld_155_1 rfl) ?_
  refine DX.take 8 511 (by kernel_rfl) rfl rfl rfl rfl rfl (List.Sublist.refl _) (y_load (i := 0) rfl rfl one_3 rfl rfl) ?_
  refine DX.takeW 9 1023 (by kernel_rfl) rfl rfl rfl rfl rfl (yw_build (v := .agg (#[.bool true, .int .i64 (Prod.snd e0)])) rfl rfl (fun _ => by kernel_rfl)) ?_
  refine DX.stepT 10 2047 (by kernel_rfl) rfl rfl rfl rfl (op_callP [kmap keyB keyB gm p] [.blk ge (.cells (edC e0) 155 (0, 0)), .row A2 c2 3 1 (List.map iR X2), .row A1 c1 3 1 (List.map iR X1), .blk gc (.cells (#[.map (some gm), .slice A1 (List.length (X1 : List Int)) c1, .slice A2 (List.length (X2 : List Int)) c2]) 185 (0, 0))] rfl rfl rfl rfl rfl ent_125 ((perm_pick 4 rfl).trans (List.Perm.cons _ (List.Perm.refl _))) (σ := List (Nd × Nd) × (Nd → Nat)) (val := fun _ => .tuple #[]) (LL := fun q => [kmap keyB keyB gm q.1]) (post := fun q => Forest q.1 (joinR (rep (E.take i)) (false, Prod.fst e0) (true, Prod.snd e0)) q.2) (fun w hw hs => w_join (false, Prod.fst e0) (true, Prod.snd e0) p hF hs) (fun q hq => ?_))
  refine DX.done (by kernel_rfl) (XX.next (V' := [(3, _), (5, _), (10, _), (11, _), (12, _)]) ⟨rfl, rfl, rfl, rfl, rfl, trivial⟩ ?_)
  refine CX.seq ?_
  refine CX.draw 8 [(0, 8, 134217728), (0, 8, 268435456), (2, 268435456, 536870912), (4, 536870912, 1073741824), (8, 1073741824, 2147483648), (0, 32, 4294967296), (32, 4294967296, 8589934592), (64, 8589934592, 17179869184), (144, 19327352832, 34359738368), (511, 134217728, 68719476736), (1023, 68719476736, 137438953472), (1535, 171798691840, 0)] (by kernel_rfl) (by kernel_rfl) (by kernel_rfl) ?_
  refine DX.takeW 0 1 (by kernel_rfl) rfl rfl rfl rfl rfl (yw_move rfl rfl) ?_
  refine DX.takeW 1 3 (by kernel_rfl) rfl rfl rfl rfl rfl (yw_move rfl rfl) ?_
  refine DX.takeW 2 7 (by kernel_rfl) rfl rfl rfl rfl rfl (yw_nilCheck rfl rfl) ?_
  refine DX.takeW 3 15 (by kernel_rfl) rfl rfl rfl rfl rfl (yw_fieldAddr rfl fld_185_1 rfl) ?_
  refine DX.take 4 31 (by kernel_rfl) rfl rfl rfl rfl rfl (List.Sublist.refl _) (y_load (i := 4) rfl rfl one_24 rfl rfl) ?_
  refine DX.takeW 5 63 (by kernel_rfl) rfl rfl rfl rfl rfl (yw_field0 rfl fld_155_0 rfl) ?_
  refine DX.take 6 127 (by kernel_rfl) rfl rfl rfl rfl rfl (List.Sublist.refl _) (y_load (i := 1) rfl rfl one_3 rfl rfl) ?_
  refine DX.step 7 255 (by kernel_rfl) rfl rfl rfl (op_buildSlice rfl rfl rfl slb_24 rfl rfl (by intro v hv; simp only [List.mem_cons, List.not_mem_nil, or_false] at hv; subst hv; exact ⟨rfl, (plain_of rfl)⟩) (by decide) fun g7 => (DXs.mk (List.Sublist.cons _ (List.Sublist.refl _)) ?_))
  refine DX.stepT 8 511 (by kernel_rfl) rfl rfl rfl rfl (op_appendM iR (i := 4) (j := 0) (xs := X1) ([Prod.fst e0]) rfl rfl rfl slb_24 rfl rfl rfl rfl rfl rfl (by rw [List.length_singleton]; omega) (by rw [List.length_singleton]; omega) fun A3 c3 => ?_)
  refine DX.takeW 9 1023 (by kernel_rfl) rfl rfl rfl rfl rfl (yw_nilCheck rfl rfl) ?_
  refine DX.takeW 10 2047 (by kernel_rfl) rfl rfl rfl rfl rfl (yw_fieldAddr rfl fld_185_1 rfl) ?_
  refine DX.stepT 11 4095 (by kernel_rfl) rfl rfl rfl rfl (op_store1 (i := 5) (cs' := #[.map (some gm), .slice A3 ((X1 ++ [Prod.fst e0]).length) c3, .slice A2 (List.length (X2 : List Int)) c2]) rfl rfl rfl rfl szt_24 rfl rfl rfl rfl ?_)
  refine DX.done (by kernel_rfl) (XX.next (V' := [(3, _), (5, _), (10, _), (11, _), (12, _)]) ⟨rfl, rfl, rfl, rfl, rfl, trivial⟩ ?_)
  refine CX.draw 8 [(0, 8, 274877906944), (0, 8, 549755813888), (2, 549755813888, 1099511627776), (4, 1099511627776, 2199023255552), (8, 2199023255552, 4398046511104), (0, 32, 8796093022208), (32, 8796093022208, 17592186044416), (64, 17592186044416, 35184372088832), (144, 39582418599936, 70368744177664), (511, 274877906944, 140737488355328), (1023, 140737488355328, 281474976710656), (1535, 351843720888320, 0)] (by kernel_rfl) (by kernel_rfl) (by kernel_rfl) ?_
  refine DX.takeW 0 1 (by kernel_rfl) rfl rfl rfl rfl rfl (yw_move rfl rfl) ?_
  refine DX.takeW 1 3 (by kernel_rfl) rfl rfl rfl rfl rfl (yw_move rfl rfl) ?_
  refine DX.takeW 2 7 (by kernel_rfl) rfl rfl rfl rfl rfl (yw_nilCheck rfl rfl) ?_
  refine DX.takeW 3 15 (by kernel_rfl) rfl rfl rfl rfl rfl (yw_fieldAddr rfl fld_185_2 rfl) ?_
  refine DX.take 4 31 (by kernel_rfl) rfl rfl rfl rfl rfl (List.Sublist.refl _) (y_load (i := 5) rfl rfl one_24 rfl rfl) ?_
  refine DX.takeW 5 63 (by kernel_rfl) rfl rfl rfl rfl rfl (yw_fieldAddr rfl fld_155_1 rfl) ?_
  refine DX.take 6 127 (by kernel_rfl) rfl rfl rfl rfl rfl (List.Sublist.refl _) (y_load (i := 2) rfl rfl one_3 rfl rfl) ?_
  refine DX.step 7 255 (by kernel_rfl) rfl rfl rfl (op_buildSlice rfl rfl rfl slb_24 rfl rfl (by intro v hv; simp only [List.mem_cons, List.not_mem_nil, or_false] at hv; subst hv; exact ⟨rfl, (plain_of rfl)⟩) (by decide) fun g8 => (DXs.mk (List.Sublist.cons _ (List.Sublist.refl _)) ?_))
  refine DX.stepT 8 511 (by kernel_rfl) rfl rfl rfl rfl (op_appendM iR (i := 4) (j := 0) (xs := X2) ([Prod.snd e0]) rfl rfl rfl slb_24 rfl rfl rfl rfl rfl rfl (by rw [List.length_singleton]; omega) (by rw [List.length_singleton]; omega) fun A4 c4 => ?_)
  refine DX.takeW 9 1023 (by kernel_rfl) rfl rfl rfl rfl rfl (yw_nilCheck rfl rfl) ?_
  refine DX.takeW 10 2047 (by kernel_rfl) rfl rfl rfl rfl rfl (yw_fieldAddr rfl fld_185_2 rfl) ?_
  refine DX.stepT 11 4095 (by kernel_rfl) rfl rfl rfl rfl (op_store1 (i := 6) (cs' := #[.map (some gm), .slice A3 ((X1 ++ [Prod.fst e0]).length) c3, .slice A4 ((X2 ++ [Prod.snd e0]).length) c4]) rfl rfl rfl rfl szt_24 rfl rfl rfl rfl ?_)
  refine DX.done (by kernel_rfl) (XX.inBlock (V' := [(3, _), (10, _), (11, _), (12, _)]) ⟨rfl, rfl, rfl, rfl, trivial⟩ ?_)
  refine XX.next (V' := [(3, _), (10, _), (11, _), (12, _)]) ⟨rfl, rfl, rfl, rfl, trivial⟩ ?_
  refine CX.region ?_
  refine RX.cons rfl rfl (op_w (yw_add rfl rfl rfl (by omega) (by omega)) rfl rfl ?_)
  refine RX.cons rfl rfl (op_w (yw_move rfl rfl) rfl rfl ?_)
  refine RX.nil (XX.againP ([.row (some ⟨g8, 0, none⟩) 1 3 1 (List.map iR ([Prod.snd e0])), .row (some ⟨g7, 0, none⟩) 1 3 1 (List.map iR ([Prod.fst e0])), .blk ge (.cells (edC e0) 155 (0, 0))]) (i + 1, q, ((A3, c3), X1 ++ [Prod.fst e0]), ((A4, c4), X2 ++ [Prod.snd e0])) (by dsimp only; omega) ⟨by dsimp only; omega, by dsimp only; rw [take_succ he0, rep_snoc]; exact hq, by dsimp only; rw [take_map_succ he0, ← hX1], by dsimp only; rw [take_map_succ he0, ← hX2]⟩ ⟨rfl, rfl, rfl, rfl, trivial⟩ ((perm_pick 4 rfl).trans (List.Perm.cons _ ((perm_pick 4 rfl).trans (List.Perm.cons _ ((perm_pick 4 rfl).trans (List.Perm.cons _ ((perm_pick 2 rfl).trans (List.Perm.cons _ (List.Perm.refl _))))))))))
 ·rw [List.take_of_length_le (by omega)] at hF hX1 hX2
  refine CX.exit ?_
  refine XX.then_exit ?_
  refine XX.then_exit ?_
  refine XX.block_exit ?_
  refine XX.next (V' := [(3, _)]) ⟨rfl, trivial⟩ ?_
  refine CX.seq ?_
  refine CX.drawL 14 ([.blk gc (.cells (#[.map (some gm), .slice A1 (List.length (X1 : List Int)) c1, .slice A2 (List.length (X2 : List Int)) c2]) 185 (0, 0))]) [(0, 8, 1125899906842624), (0, 8, 2251799813685248), (0, 8, 4503599627370496), (4, 4503599627370496, 9007199254740992), (8, 9007199254740992, 18014398509481984), (16, 18014398509481984, 36028797018963968), (32, 36028797018963968, 72057594037927936), (0, 8, 144115188075855872), (128, 144115188075855872, 288230376151711744), (256, 288230376151711744, 576460752303423488), (512, 576460752303423488, 1152921504606846976), (1088, 1152921504606846976, 2305843009213693952), (3197, 1125899906842624, 4611686018427387904), (7293, 4611686018427387904, 9223372036854775808), (11389, 9295429630892703744, 0), (32767, 2251799813685248, 18446744073709551616), (65535, 18446744073709551616, 36893488147419103232), (98303, 39199331156632797184, 0)] (by kernel_rfl) (by kernel_rfl) (by kernel_rfl) ?_
  refine DX.takeW 0 1 (by kernel_rfl) rfl rfl rfl rfl rfl (yw_move rfl rfl) ?_
  refine DX.takeW 1 3 (by kernel_rfl) rfl rfl rfl rfl rfl (yw_move rfl rfl) ?_
  refine DX.takeW 2 7 (by kernel_rfl) rfl rfl rfl rfl rfl (yw_move rfl rfl) ?_
  refine DX.takeW 3 15 (by kernel_rfl) rfl rfl rfl rfl rfl (yw_nilCheck rfl rfl) ?_
  refine DX.takeW 4 31 (by kernel_rfl) rfl rfl rfl rfl rfl (yw_fieldAddr rfl fld_185_1 rfl) ?_
  refine DX.take 5 63 (by kernel_rfl) rfl rfl rfl rfl rfl (List.Sublist.cons _ (List.Sublist.cons _ (List.Sublist.cons_cons _ (List.nil_sublist _)))) (y_load (i := 0) rfl rfl one_24 rfl rfl) ?_
  refine DX.takeW 7 191 (by kernel_rfl) rfl rfl rfl rfl rfl (yw_move rfl rfl) ?_
  refine DX.takeW 8 447 (by kernel_rfl) rfl rfl rfl rfl rfl (yw_nilCheck rfl rfl) ?_
  refine DX.takeW 9 959 (by kernel_rfl) rfl rfl rfl rfl rfl (yw_fieldAddr rfl fld_185_2 rfl) ?_
  refine DX.take 10 1983 (by kernel_rfl) rfl rfl rfl rfl rfl (List.Sublist.cons _ (List.Sublist.cons _ (List.Sublist.cons_cons _ (List.nil_sublist _)))) (y_load (i := 0) rfl rfl one_24 rfl rfl) ?_
  refine DX.step 6 2047 (by kernel_rfl) rfl rfl rfl (op_callP [.row A1 c1 3 1 (List.map iR X1)] [.row A2 c2 3 1 (List.map iR X2), .blk gc (.cells (#[.map (some gm), .slice A1 (List.length (X1 : List Int)) c1, .slice A2 (List.length (X2 : List Int)) c2]) 185 (0, 0)), kmap keyB keyB gm p] rfl rfl rfl rfl rfl ent_126 ((perm_pick 1 rfl).trans (List.Perm.cons _ (List.Perm.refl _))) (σ := Unit) (val := fun _ => .slice A1 (List.length ((uniq X1) : List Int)) c1) (LL := fun _ => [.row A1 c1 3 1 (List.map iR (uniq X1))]) (post := fun _ => True) (fun w hw hs => w_unique X1 hs (by omega)) (fun _ _ => (DXs.mk (List.Sublist.cons _ (List.Sublist.cons _ (List.Sublist.cons_cons _ (List.nil_sublist _)))) ?_)))
  refine DX.step 11 4095 (by kernel_rfl) rfl rfl rfl (op_callP [.row A2 c2 3 1 (List.map iR X2)] [.row A1 c1 3 1 (List.map iR (uniq X1)), .blk gc (.cells (#[.map (some gm), .slice A1 (List.length (X1 : List Int)) c1, .slice A2 (List.length (X2 : List Int)) c2]) 185 (0, 0)), kmap keyB keyB gm p] rfl rfl rfl rfl rfl ent_126 ((perm_pick 1 rfl).trans (List.Perm.cons _ (List.Perm.refl _))) (σ := Unit) (val := fun _ => .slice A2 (List.length ((uniq X2) : List Int)) c2) (LL := fun _ => [.row A2 c2 3 1 (List.map iR (uniq X2))]) (post := fun _ => True) (fun w hw hs => w_unique X2 hs (by omega)) (fun _ _ => (DXs.mk (List.Sublist.cons _ (List.Sublist.cons _ (List.Sublist.cons_cons _ (List.nil_sublist _)))) ?_)))
  refine DX.takeW 12 8191 (by kernel_rfl) rfl rfl rfl rfl rfl (yw_nilCheck rfl rfl) ?_
  refine DX.takeW 13 16383 (by kernel_rfl) rfl rfl rfl rfl rfl (yw_fieldAddr rfl fld_185_1 rfl) ?_
  refine DX.stepT 14 32767 (by kernel_rfl) rfl rfl rfl rfl (op_store1 (i := 2) (cs' := #[.map (some gm), .slice A1 (List.length ((uniq X1) : List Int)) c1, .slice A2 (List.length (X2 : List Int)) c2]) rfl rfl rfl rfl szt_24 rfl rfl rfl rfl ?_)
  refine DX.takeW 15 65535 (by kernel_rfl) rfl rfl rfl rfl rfl (yw_nilCheck rfl rfl) ?_
  refine DX.takeW 16 131071 (by kernel_rfl) rfl rfl rfl rfl rfl (yw_fieldAddr rfl fld_185_2 rfl) ?_
  refine DX.stepT 17 262143 (by kernel_rfl) rfl rfl rfl rfl (op_store1 (i := 2) (cs' := #[.map (some gm), .slice A1 (List.length ((uniq X1) : List Int)) c1, .slice A2 (List.length ((uniq X2) : List Int)) c2]) rfl rfl rfl rfl szt_24 rfl rfl rfl rfl ?_)
  refine DX.done (by kernel_rfl) (XX.next (V' := [(3, _)]) ⟨rfl, trivial⟩ ?_)
  refine CX.seq ?_
  refine CX.region ?_
  refine RX.cons rfl rfl (op_w (yw_move rfl rfl) rfl rfl ?_)
  refine RX.cons rfl rfl (op_w (yw_assign rfl rfl) rfl rfl ?_)
  refine RX.nil (XX.next (V' := [(2, .pointer (some ⟨gc, 0, none⟩))]) ⟨rfl, trivial⟩ ?_)
  refine CX.ret ?_
  exact ret_tmp rfl rfl fun w1 hw => ⟨(((gc, gm), (p, rk)), (A1, c1), (A2, c2)), hF, rfl, by rw [← hX1, ← hX2]; exact hw.pick ((perm_pick 0 rfl).trans (List.Perm.cons _ ((perm_pick 0 rfl).trans (List.Perm.cons _ ((perm_pick 0 rfl).trans (List.Perm.cons _ ((perm_pick 0 rfl).trans (List.Perm.cons _ (List.Perm.refl _)))))))))⟩

end Go.Proofs.YtpcfgoadkfajfaaGreatDoor
namespace Go.Proofs.YtpcfgoadkfajfaaGreatDoor
set_option linter.all false
open Go Go.RowKit
set_option maxRecDepth 100000

end Go.Proofs.YtpcfgoadkfajfaaGreatDoor
namespace Go.Proofs.YtpcfgoadkfajfaaGreatDoor
set_option linter.all false
open Go Go.RowKit
set_option maxRecDepth 100000
theorem all_snocP {α : Type} {p : α → Prop} {l : List α} {i : Nat} {x : α} (hx : l[i]? = some x) (hp : p x) (h : ∀ y ∈ l.take i, p y) : ∀ y ∈ l.take (i + 1), p y := by
  intro y hy
  rw [take_succ hx] at hy
  rcases List.mem_append.1 hy with h1 | h1
  · exact h y h1
  · rw [List.mem_singleton.1 h1]; exact hp
theorem same_upto {α : Type} {l m : List α} {i : Nat} {x y : α} (h : l.take i = m.take i) (hx : l[i]? = some x) (hy : m[i]? = some y) (e : x = y) : l.take (i + 1) = m.take (i + 1) := by
  rw [take_succ hx, take_succ hy, h, e]
theorem differ_at {α : Type} {l m : List α} {i : Nat} {x y : α} (hx : l[i]? = some x) (hy : m[i]? = some y) (h : x ≠ y) : l ≠ m := by
  intro e; subst e; rw [hx] at hy; exact h (Option.some.inj hy)
end Go.Proofs.YtpcfgoadkfajfaaGreatDoor
namespace Go.Proofs.YtpcfgoadkfajfaaGreatDoor
set_option linter.all false
open Go Go.RowKit
set_option maxRecDepth 100000
theorem slt_24 : SlT Tryz.prog 24 3 1 := ⟨(Tryz.prog.info? 3).get!, Tryz.underlying24, by kernel_rfl, by kernel_rfl⟩
set_option maxRecDepth 100000 in
theorem w_sameInts {w : World} {A B : Option Addr} {ca cb : Nat} (X Y : List Int) (hrX : Rd w A 1 (X.map iR)) (hrY : Rd w B 1 (Y.map iR)) (hl : X.length ≤ 1000000) :
    Calls Tryz.prog 13 #[.slice A X.length ca, .slice B Y.length cb] w (fun e w' => e = .returned (.bool (decide (X = Y))) ∧ SL w [] w' []) := by
 refine calls_of_CX (O := []) (L := []) (args := [.slice A X.length ca, .slice B Y.length cb]) Tryz.func13 rfl (by simp [Tryz.ntmps13]) (SL.refl w) ?_
 refine CX.sub (V' := [(0, .slice A X.length ca), (1, .slice B Y.length cb)]) ⟨rfl, rfl, trivial⟩ ?_
 refine CX.seq ?_
 refine CX.region ?_
 refine RX.cons rfl rfl (op_w (yw_assign rfl rfl) rfl rfl ?_)
 refine RX.nil (XX.next (V' := [(0, _), (1, _)]) ⟨rfl, rfl, trivial⟩ ?_)
 refine CX.seq ?_
 refine CX.seq ?_
 refine CX.region ?_
 refine RX.cons rfl rfl (op_w (yw_move rfl rfl) rfl rfl ?_)
 refine RX.cons rfl rfl (op_w (yw_lenS rfl Tryz.underlying24 rfl) rfl rfl ?_)
 refine RX.cons rfl rfl (op_w (yw_move rfl rfl) rfl rfl ?_)
 refine RX.cons rfl rfl (op_w (yw_lenS rfl Tryz.underlying24 rfl) rfl rfl ?_)
 refine RX.cons rfl rfl (op_w (yw_neq rfl rfl rfl) rfl rfl ?_)
 refine RX.nil (XX.next (V' := [(0, _), (1, _), (10, _)]) ⟨rfl, rfl, rfl, trivial⟩ ?_)
 refine CX.condD (p := ((X.length : Nat) : Int) ≠ ((Y.length : Nat) : Int)) rfl (fun c10 => ?_) (fun c10 => ?_)
 ·refine CX.seq ?_
  refine CX.region ?_
  refine RX.cons rfl rfl (op_w (yw_assign rfl rfl) rfl rfl ?_)
  refine RX.nil (XX.next (V' := [(4, .bool false)]) ⟨rfl, trivial⟩ ?_)
  refine CX.ret ?_
  refine XX.then_ret ?_
  exact ret_tmp rfl rfl fun w1 hw => ⟨by rw [decide_eq_false (fun e => c10 (by rw [e]))], hw.sub (List.nil_sublist _)⟩
 ·refine CX.skip (XX.next (V' := [(0, _), (1, _)]) ⟨rfl, rfl, trivial⟩ ?_)
  refine CX.seq ?_
  refine CX.seq ?_
  refine CX.region ?_
  refine RX.cons rfl rfl (op_w (yw_assign rfl rfl) rfl rfl ?_)
  refine RX.nil (XX.next (V' := [(0, _), (1, _), (5, _)]) ⟨rfl, rfl, rfl, trivial⟩ ?_)
  refine CX.block ?_
  have hlen : X.length = Y.length := by omega
  refine CX.loop (σ := Nat) (fun i => [(0, .slice A X.length ca), (1, .slice B Y.length cb), (5, .int .i64 ((i : Nat) : Int))]) (fun i => []) (fun i => i ≤ X.length ∧ X.take i = Y.take i) (fun i => X.length - i) 0 ⟨Nat.zero_le _, by simp⟩ ⟨rfl, rfl, rfl, trivial⟩ rfl (fun i hI => ?_)
  obtain ⟨hi, hf⟩ := hI
  refine CX.seq ?_
  refine CX.seq ?_
  refine CX.region ?_
  refine RX.cons rfl rfl (op_w (yw_move rfl rfl) rfl rfl ?_)
  refine RX.cons rfl rfl (op_w (yw_move rfl rfl) rfl rfl ?_)
  refine RX.cons rfl rfl (op_w (yw_lenS rfl Tryz.underlying24 rfl) rfl rfl ?_)
  refine RX.cons rfl rfl (op_w (yw_lss rfl rfl rfl) rfl rfl ?_)
  refine RX.nil (XX.next (V' := [(0, _), (1, _), (5, _), (14, _)]) ⟨rfl, rfl, rfl, rfl, trivial⟩ ?_)
  refine CX.condD (p := ((i : Nat) : Int) < ((X.length : Nat) : Int)) rfl (fun c14 => ?_) (fun c14 => ?_)
  ·obtain ⟨x0, ha⟩ := get_some (l := X) (k := i) (by omega)
   obtain ⟨y0, hb⟩ := get_some (l := Y) (k := i) (by omega)
   have hA : ∃ b j, A = some ⟨b, j, none⟩ := hrX.some (k := i) (by simp; omega)
   have hB : ∃ b j, B = some ⟨b, j, none⟩ := hrY.some (k := i) (by simp; omega)
   refine CX.skip (XX.next (V' := [(0, _), (1, _), (5, _)]) ⟨rfl, rfl, rfl, trivial⟩ ?_)
   refine CX.seq ?_
   refine CX.block ?_
   refine CX.seq ?_
   refine CX.draw 9 [(0, 1, 131072), (0, 32, 262144), (3, 393216, 524288), (4, 524288, 1048576), (0, 2, 2097152), (0, 32, 4194304), (48, 6291456, 8388608), (64, 8388608, 16777216), (136, 17825792, 33554432)] (by kernel_rfl) (by kernel_rfl) (by kernel_rfl) ?_
   refine DX.takeW 0 1 (by kernel_rfl) rfl rfl rfl rfl rfl (yw_move rfl rfl) ?_
   refine DX.takeW 1 3 (by kernel_rfl) rfl rfl rfl rfl rfl (yw_move rfl rfl) ?_
   refine DX.takeW 2 7 (by kernel_rfl) rfl rfl rfl rfl rfl (yw_index (k := i) rfl slt_24 rfl rfl (by omega) (by omega) hA) ?_
   refine DX.take 3 15 (by kernel_rfl) rfl rfl rfl rfl rfl (List.nil_sublist _) (y_elem1 rfl rfl one_3 hrX (by simp) (map_get ha)) ?_
   refine DX.takeW 4 31 (by kernel_rfl) rfl rfl rfl rfl rfl (yw_move rfl rfl) ?_
   refine DX.takeW 5 63 (by kernel_rfl) rfl rfl rfl rfl rfl (yw_move rfl rfl) ?_
   refine DX.takeW 6 127 (by kernel_rfl) rfl rfl rfl rfl rfl (yw_index (k := i) rfl slt_24 rfl rfl (by omega) (by omega) hB) ?_
   refine DX.take 7 255 (by kernel_rfl) rfl rfl rfl rfl rfl (List.nil_sublist _) (y_elem1 rfl rfl one_3 hrY (by simp) (map_get hb)) ?_
   refine DX.takeW 8 511 (by kernel_rfl) rfl rfl rfl rfl rfl (yw_neq rfl rfl rfl) ?_
   refine DX.done (by kernel_rfl) (XX.next (V' := [(0, _), (1, _), (5, _), (25, _)]) ⟨rfl, rfl, rfl, rfl, trivial⟩ ?_)
   refine CX.condD (p := x0 ≠ y0) rfl (fun c25 => ?_) (fun c25 => ?_)
   ·refine CX.seq ?_
    refine CX.region ?_
    refine RX.cons rfl rfl (op_w (yw_assign rfl rfl) rfl rfl ?_)
    refine RX.nil (XX.next (V' := [(4, .bool false)]) ⟨rfl, trivial⟩ ?_)
    refine CX.ret ?_
    refine XX.block_ret ?_
    refine XX.then_ret ?_
    refine XX.then_ret ?_
    refine XX.block_ret ?_
    refine XX.then_ret ?_
    exact ret_tmp rfl rfl fun w1 hw => ⟨by rw [decide_eq_false (differ_at ha hb (by omega))], hw.sub (List.nil_sublist _)⟩
   ·refine CX.skip (XX.inBlock (V' := [(0, _), (1, _), (5, _)]) ⟨rfl, rfl, rfl, trivial⟩ ?_)
    refine XX.next (V' := [(0, _), (1, _), (5, _)]) ⟨rfl, rfl, rfl, trivial⟩ ?_
    refine CX.region ?_
    refine RX.cons rfl rfl (op_w (yw_move rfl rfl) rfl rfl ?_)
    refine RX.cons rfl rfl (op_w (yw_add rfl rfl rfl (by omega) (by omega)) rfl rfl ?_)
    refine RX.cons rfl rfl (op_w (yw_assign rfl rfl) rfl rfl ?_)
    refine RX.nil (XX.againP ([]) (i + 1) (by omega) ⟨by omega, same_upto hf ha hb (by omega)⟩ ⟨rfl, rfl, rfl, trivial⟩ (List.Perm.refl _))
  ·refine CX.exit ?_
   refine XX.then_exit ?_
   refine XX.then_exit ?_
   refine XX.block_exit ?_
   refine XX.next (V' := []) trivial ?_
   refine CX.seq ?_
   refine CX.region ?_
   refine RX.cons rfl rfl (op_w (yw_assign rfl rfl) rfl rfl ?_)
   refine RX.nil (XX.next (V' := [(4, .bool true)]) ⟨rfl, trivial⟩ ?_)
   refine CX.ret ?_
   exact ret_tmp rfl rfl fun w1 hw => ⟨by rw [decide_eq_true (by rw [List.take_of_length_le (by omega), List.take_of_length_le (by omega)] at hf; exact hf)], hw.sub (List.nil_sublist _)⟩

def pickN (c : Int) (n : Nat) : Nat := (if c < 0 then -(c + 1) else c).toNat % n
theorem pickN_neg {c : Int} {n : Nat} (h : c < 0) : -(c + 1) % (n : Int) = ((pickN c n : Nat) : Int) := by
  rw [pickN, if_pos h, Int.natCast_emod, Int.toNat_of_nonneg (by omega)]
theorem pickN_pos {c : Int} {n : Nat} (h : ¬ c < 0) : c % (n : Int) = ((pickN c n : Nat) : Int) := by
  rw [pickN, if_neg h, Int.natCast_emod, Int.toNat_of_nonneg (by omega)]
theorem pickN_lt (c : Int) {n : Nat} (h : 0 < n) : pickN c n < n := Nat.mod_lt _ h
set_option maxRecDepth 100000 in
theorem w_pick {w : World} (c : Int) (n : Nat) (h1 : -9223372036854775808 ≤ c) (h2 : c ≤ 9223372036854775807) (hn : 0 < n) :
    Calls Tryz.prog 5 #[.int .i64 c, .int .i64 ((n : Nat) : Int)] w (fun e w' => e = .returned (.int .i64 ((pickN c n : Nat) : Int)) ∧ SL w [] w' []) := by
 refine calls_of_CX (O := []) (L := []) (args := [.int .i64 c, .int .i64 ((n : Nat) : Int)]) Tryz.func5 rfl (by simp [Tryz.ntmps5]) (SL.refl w) ?_
 refine CX.sub (V' := [(0, .int .i64 c), (1, .int .i64 ((n : Nat) : Int))]) ⟨rfl, rfl, trivial⟩ ?_
 refine CX.seq ?_
 refine CX.region ?_
 refine RX.cons rfl rfl (op_w (yw_assign rfl rfl) rfl rfl ?_)
 refine RX.nil (XX.next (V' := [(0, _), (1, _)]) ⟨rfl, rfl, trivial⟩ ?_)
 refine CX.seq ?_
 refine CX.seq ?_
 refine CX.region ?_
 refine RX.cons rfl rfl (op_w (yw_move rfl rfl) rfl rfl ?_)
 refine RX.cons rfl rfl (op_w (yw_lss rfl rfl rfl) rfl rfl ?_)
 refine RX.nil (XX.next (V' := [(0, _), (1, _), (6, _)]) ⟨rfl, rfl, rfl, trivial⟩ ?_)
 refine CX.condD (p := c < 0) rfl (fun c6 => ?_) (fun c6 => ?_)
 ·refine CX.region ?_
  refine RX.cons rfl rfl (op_w (yw_move rfl rfl) rfl rfl ?_)
  refine RX.cons rfl rfl (op_w (yw_add rfl rfl rfl (by omega) (by omega)) rfl rfl ?_)
  refine RX.cons rfl rfl (op_w (yw_neg rfl rfl (by omega) (by omega)) rfl rfl ?_)
  refine RX.cons rfl rfl (op_w (yw_assign rfl rfl) rfl rfl ?_)
  refine RX.nil (XX.next (V' := [(0, _), (1, _)]) ⟨rfl, rfl, trivial⟩ ?_)
  refine CX.seq ?_
  refine CX.region ?_
  refine RX.cons rfl rfl (op_w (yw_move rfl rfl) rfl rfl ?_)
  refine RX.cons rfl rfl (op_w (yw_move rfl rfl) rfl rfl ?_)
  refine RX.cons rfl rfl (op_w (yw_rem rfl rfl rfl (by omega) (by omega)) rfl rfl ?_)
  refine RX.know (t := 12) (u := .int .i64 ((pickN c n : Nat) : Int)) rfl (congrArg (Value.int .i64) (pickN_neg c6)) ?_
  refine RX.cons rfl rfl (op_w (yw_assign rfl rfl) rfl rfl ?_)
  refine RX.nil (XX.next (V' := [(4, .int .i64 ((pickN c n : Nat) : Int))]) ⟨rfl, trivial⟩ ?_)
  refine CX.ret ?_
  exact ret_tmp rfl rfl fun w1 hw => ⟨rfl, hw.sub (List.nil_sublist _)⟩
 ·refine CX.skip (XX.next (V' := [(0, _), (1, _)]) ⟨rfl, rfl, trivial⟩ ?_)
  refine CX.seq ?_
  refine CX.region ?_
  refine RX.cons rfl rfl (op_w (yw_move rfl rfl) rfl rfl ?_)
  refine RX.cons rfl rfl (op_w (yw_move rfl rfl) rfl rfl ?_)
  refine RX.cons rfl rfl (op_w (yw_rem rfl rfl rfl (by omega) (by omega)) rfl rfl ?_)
  refine RX.know (t := 12) (u := .int .i64 ((pickN c n : Nat) : Int)) rfl (congrArg (Value.int .i64) (pickN_pos c6)) ?_
  refine RX.cons rfl rfl (op_w (yw_assign rfl rfl) rfl rfl ?_)
  refine RX.nil (XX.next (V' := [(4, .int .i64 ((pickN c n : Nat) : Int))]) ⟨rfl, trivial⟩ ?_)
  refine CX.ret ?_
  exact ret_tmp rfl rfl fun w1 hw => ⟨rfl, hw.sub (List.nil_sublist _)⟩

end Go.Proofs.YtpcfgoadkfajfaaGreatDoor
namespace Go.Proofs.YtpcfgoadkfajfaaGreatDoor
set_option linter.all false
open Go Go.RowKit
set_option maxRecDepth 100000

end Go.Proofs.YtpcfgoadkfajfaaGreatDoor
namespace Go.Proofs.YtpcfgoadkfajfaaGreatDoor
set_option linter.all false
open Go Go.RowKit
set_option maxRecDepth 100000
/-- A stream. -/
structure Sm where
  dev : Int
  id : Int
  acc : Int
  song : Int
  ter : Int
  sec : Int
  per : Int
  ses : Int
  mark : Int
abbrev smC (s : Sm) : Array Value := #[.int .i64 s.dev, .int .i64 s.id, .int .i64 s.acc, .int .i64 s.song, .int .i64 s.ter, .int .i64 s.sec, .int .i64 s.per, .int .i64 s.ses, .int .i64 s.mark]
/-- The edges of streams. -/
def edgesOf (l : List Sm) : List (Int × Int) := l.map fun s => (s.acc, s.dev)
end Go.Proofs.YtpcfgoadkfajfaaGreatDoor
namespace Go.Proofs.YtpcfgoadkfajfaaGreatDoor
set_option linter.all false
open Go Go.RowKit
set_option maxRecDepth 100000
/-- A rule, and whether it is valid. -/
structure Ru where
  act : Int
  sub : Int
  mea : Int
  n : Int
abbrev ruC (r : Ru) : Array Value := #[.int .i64 r.act, .int .i64 r.sub, .int .i64 r.mea, .int .i64 r.n]
def okR (r : Ru) : Bool := decide ((r.act = 3 ∧ r.sub = 1 ∧ r.mea = 0 ∧ 1 ≤ r.n ∧ r.n ≤ 1000000) ∨ ((r.act = 1 ∨ r.act = 2) ∧ 1 ≤ r.sub ∧ r.sub ≤ 3 ∧ 1 ≤ r.mea ∧ r.mea ≤ 4 ∧ 0 ≤ r.n ∧ r.n ≤ 1000000))
end Go.Proofs.YtpcfgoadkfajfaaGreatDoor
namespace Go.Proofs.YtpcfgoadkfajfaaGreatDoor
set_option linter.all false
open Go Go.RowKit
set_option maxRecDepth 100000

end Go.Proofs.YtpcfgoadkfajfaaGreatDoor
namespace Go.Proofs.YtpcfgoadkfajfaaGreatDoor
set_option linter.all false
open Go Go.RowKit
set_option maxRecDepth 100000
theorem slt_23 : SlT Tryz.prog 23 42 4 := ⟨(Tryz.prog.info? 42).get!, Tryz.underlying23, by kernel_rfl, by kernel_rfl⟩
theorem zero_39 : Zero Tryz.prog 39 (.agg (#[.int .i64 0, .int .i64 0, .int .i64 0, .int .i64 0, .int .i64 0, .int .i64 0, .int .i64 0, .int .i64 0, .int .i64 0])) := ⟨(Tryz.prog.info? 39).get!, by kernel_rfl, by kernel_rfl⟩
theorem szt_39 : SzT Tryz.prog 39 9 := ⟨(Tryz.prog.info? 39).get!, by kernel_rfl, by kernel_rfl⟩
theorem agg_39 : AggT Tryz.prog 39 9 := ⟨_, _, Tryz.underlying39, rfl, (by kernel_rfl : Tryz.prog.info? 39 = some (Tryz.prog.info? 39).get!), by kernel_rfl⟩
theorem fld_39_2 : Fld Tryz.prog 39 2 2 := ⟨_, _, (Tryz.prog.info? 3).get!, Tryz.underlying39, rfl, rfl, by kernel_rfl, by decide +kernel⟩
theorem fld_39_0 : Fld Tryz.prog 39 0 0 := ⟨_, _, (Tryz.prog.info? 3).get!, Tryz.underlying39, rfl, rfl, by kernel_rfl, by decide +kernel⟩
theorem fld_39_3 : Fld Tryz.prog 39 3 3 := ⟨_, _, (Tryz.prog.info? 3).get!, Tryz.underlying39, rfl, rfl, by kernel_rfl, by decide +kernel⟩
set_option maxRecDepth 100000 in
theorem w_short {w : World} {A : Option Addr} {cap : Nat} (n : Nat) (hc : n ≤ cap) (h8 : n ≤ 9223372036854775807) :
    Calls Tryz.prog 7 #[.slice A n cap] w (fun e w' => e = .returned (.slice A (min n 12) cap) ∧ SL w [] w' []) := by
 refine calls_of_CX (O := []) (L := []) (args := [.slice A n cap]) Tryz.func7 rfl (by simp [Tryz.ntmps7]) (SL.refl w) ?_
 refine CX.sub (V' := [(0, .slice A n cap)]) ⟨rfl, trivial⟩ ?_
 refine CX.seq ?_
 refine CX.region ?_
 refine RX.cons rfl rfl (op_w (yw_assign rfl rfl) rfl rfl ?_)
 refine RX.nil (XX.next (V' := [(0, _)]) ⟨rfl, trivial⟩ ?_)
 refine CX.seq ?_
 refine CX.region ?_
 refine RX.cons rfl rfl (op_w (yw_move rfl rfl) rfl rfl ?_)
 refine RX.cons rfl rfl (op_w (yw_move rfl rfl) rfl rfl ?_)
 refine RX.cons rfl rfl (op_w (yw_lenS rfl Tryz.underlying23 rfl) rfl rfl ?_)
 refine RX.cons rfl rfl (op_w (yw_min rfl rfl rfl) rfl rfl ?_)
 refine RX.know (t := 6) (u := .int .i64 ((min n 12 : Nat) : Int)) rfl (congrArg (Value.int .i64) (by omega)) ?_
 refine RX.cons rfl rfl (op_w (yw_sliceTo (k := (min n 12)) rfl slt_23 rfl rfl (by omega) (by omega)) rfl rfl ?_)
 refine RX.cons rfl rfl (op_w (yw_assign rfl rfl) rfl rfl ?_)
 refine RX.nil (XX.next (V' := [(2, .slice A (min n 12) cap)]) ⟨rfl, trivial⟩ ?_)
 refine CX.ret ?_
 exact ret_tmp rfl rfl fun w1 hw => ⟨rfl, hw.sub (List.nil_sublist _)⟩

set_option maxRecDepth 100000 in
theorem w_stream {w : World} (a d r : Int) :
    Calls Tryz.prog 11 #[.int .i64 a, .int .i64 d, .int .i64 r] w (fun e w' => e = .returned (.agg (smC ⟨d, 1, a, r, 0, 0, 0, 0, 0⟩)) ∧ SL w [] w' []) := by
 refine calls_of_CX (O := []) (L := []) (args := [.int .i64 a, .int .i64 d, .int .i64 r]) Tryz.func11 rfl (by simp [Tryz.ntmps11]) (SL.refl w) ?_
 refine CX.sub (V' := [(0, .int .i64 a), (1, .int .i64 d), (2, .int .i64 r)]) ⟨rfl, rfl, rfl, trivial⟩ ?_
 refine CX.seq ?_
 refine CX.region ?_
 refine RX.cons rfl rfl (op_alloc rfl rfl rfl zero_39 fun gr => ?_)
 refine RX.nil (XX.next (V' := [(0, _), (1, _), (2, _), (6, .pointer (some ⟨gr, 0, none⟩))]) ⟨rfl, rfl, rfl, rfl, trivial⟩ ?_)
 refine CX.seq ?_
 refine CX.region ?_
 refine RX.cons rfl rfl (op_w (yw_move rfl rfl) rfl rfl ?_)
 refine RX.cons rfl rfl (op_w (yw_move rfl rfl) rfl rfl ?_)
 refine RX.cons rfl rfl (op_w (yw_move rfl rfl) rfl rfl ?_)
 refine RX.cons rfl rfl (op_w (yw_build (v := .agg (#[.int .i64 d, .int .i64 1, .int .i64 a, .int .i64 r, .int .i64 0, .int .i64 0, .int .i64 0, .int .i64 0, .int .i64 0])) rfl rfl (fun _ => by kernel_rfl)) rfl rfl ?_)
 refine RX.cons rfl rfl (op_storeAll (i := 0) rfl rfl rfl rfl szt_39 rfl (plain_of rfl) rfl rfl ?_)
 refine RX.nil (XX.next (V' := [(6, .pointer (some ⟨gr, 0, none⟩))]) ⟨rfl, trivial⟩ ?_)
 refine CX.ret ?_
 exact ret_cell (i := 0) rfl rfl agg_39 rfl rfl fun w1 hw => ⟨rfl, hw.sub (List.nil_sublist _)⟩

set_option maxRecDepth 100000 in
theorem w_account {w : World} (s : Sm) :
    Calls Tryz.prog 101 #[.agg (smC s)] w (fun e w' => e = .returned (.int .i64 (Sm.acc s)) ∧ SL w [] w' []) := by
 refine calls_of_CX (O := []) (L := []) (args := [.agg (smC s)]) Tryz.func101 rfl (by simp [Tryz.ntmps101]) (SL.refl w) ?_
 refine CX.sub (V' := [(0, .agg (smC s))]) ⟨rfl, trivial⟩ ?_
 refine CX.seq ?_
 refine CX.region ?_
 refine RX.cons rfl rfl (op_box rfl rfl rfl rfl fun gs => ?_)
 refine RX.cons rfl rfl (op_w (yw_assign rfl rfl) rfl rfl ?_)
 refine RX.nil (XX.next (V' := [(1, _)]) ⟨rfl, trivial⟩ ?_)
 refine CX.seq ?_
 refine CX.region ?_
 refine RX.cons rfl rfl (op_w (yw_fieldAddr rfl fld_39_2 rfl) rfl rfl ?_)
 refine RX.cons rfl rfl (op_yld (y_load (i := 0) rfl rfl one_3 rfl rfl) rfl rfl ?_)
 refine RX.cons rfl rfl (op_w (yw_assign rfl rfl) rfl rfl ?_)
 refine RX.nil (XX.next (V' := [(2, .int .i64 (Sm.acc s))]) ⟨rfl, trivial⟩ ?_)
 refine CX.ret ?_
 exact ret_tmp rfl rfl fun w1 hw => ⟨rfl, hw.sub (List.nil_sublist _)⟩

set_option maxRecDepth 100000 in
theorem w_device {w : World} (s : Sm) :
    Calls Tryz.prog 102 #[.agg (smC s)] w (fun e w' => e = .returned (.int .i64 (Sm.dev s)) ∧ SL w [] w' []) := by
 refine calls_of_CX (O := []) (L := []) (args := [.agg (smC s)]) Tryz.func102 rfl (by simp [Tryz.ntmps102]) (SL.refl w) ?_
 refine CX.sub (V' := [(0, .agg (smC s))]) ⟨rfl, trivial⟩ ?_
 refine CX.seq ?_
 refine CX.region ?_
 refine RX.cons rfl rfl (op_box rfl rfl rfl rfl fun gs => ?_)
 refine RX.cons rfl rfl (op_w (yw_assign rfl rfl) rfl rfl ?_)
 refine RX.nil (XX.next (V' := [(1, _)]) ⟨rfl, trivial⟩ ?_)
 refine CX.seq ?_
 refine CX.region ?_
 refine RX.cons rfl rfl (op_w (yw_field0 rfl fld_39_0 rfl) rfl rfl ?_)
 refine RX.cons rfl rfl (op_yld (y_load (i := 0) rfl rfl one_3 rfl rfl) rfl rfl ?_)
 refine RX.cons rfl rfl (op_w (yw_assign rfl rfl) rfl rfl ?_)
 refine RX.nil (XX.next (V' := [(2, .int .i64 (Sm.dev s))]) ⟨rfl, trivial⟩ ?_)
 refine CX.ret ?_
 exact ret_tmp rfl rfl fun w1 hw => ⟨rfl, hw.sub (List.nil_sublist _)⟩

set_option maxRecDepth 100000 in
theorem w_recording {w : World} (s : Sm) :
    Calls Tryz.prog 103 #[.agg (smC s)] w (fun e w' => e = .returned (.int .i64 (Sm.song s)) ∧ SL w [] w' []) := by
 refine calls_of_CX (O := []) (L := []) (args := [.agg (smC s)]) Tryz.func103 rfl (by simp [Tryz.ntmps103]) (SL.refl w) ?_
 refine CX.sub (V' := [(0, .agg (smC s))]) ⟨rfl, trivial⟩ ?_
 refine CX.seq ?_
 refine CX.region ?_
 refine RX.cons rfl rfl (op_box rfl rfl rfl rfl fun gs => ?_)
 refine RX.cons rfl rfl (op_w (yw_assign rfl rfl) rfl rfl ?_)
 refine RX.nil (XX.next (V' := [(1, _)]) ⟨rfl, trivial⟩ ?_)
 refine CX.seq ?_
 refine CX.region ?_
 refine RX.cons rfl rfl (op_w (yw_fieldAddr rfl fld_39_3 rfl) rfl rfl ?_)
 refine RX.cons rfl rfl (op_yld (y_load (i := 0) rfl rfl one_3 rfl rfl) rfl rfl ?_)
 refine RX.cons rfl rfl (op_w (yw_assign rfl rfl) rfl rfl ?_)
 refine RX.nil (XX.next (V' := [(2, .int .i64 (Sm.song s))]) ⟨rfl, trivial⟩ ?_)
 refine CX.ret ?_
 exact ret_tmp rfl rfl fun w1 hw => ⟨rfl, hw.sub (List.nil_sublist _)⟩

end Go.Proofs.YtpcfgoadkfajfaaGreatDoor
