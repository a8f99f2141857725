/- The operations, one rule each, over symbolic frames and heaps. -/
import Derived.Test.YtmndhiaaolfepaaDoorDraw
import Derived.Lib.SliceRun
namespace Go.Proofs.YtmndhiaaolfepaaDoor
set_option linter.all false
open Go Go.RowKit

section
variable {P : Program} {w0 : World} {O : List Nat} {n : Nat} {D : List Deferred} {o : Oper} {V : List (Nat × Value)} {L : List Ent} {T : List (Nat × Value) → List Ent → Prop}

/-! ### Facts on types -/
def oneB : TypeDesc → Bool
  | .struct _ => false
  | .array _ _ => false
  | _ => true
/-- A type of one cell. -/
def One (P : Program) (t : TypeId) : Prop := ∃ d, P.underlying t = some d ∧ oneB d = true
/-- A struct or an array of sz cells. -/
def AggT (P : Program) (t : TypeId) (sz : Nat) : Prop := ∃ d i, P.underlying t = some d ∧ oneB d = false ∧ P.info? t = some i ∧ i.size = sz
/-- Field i of struct type t lies k cells behind its beginning, and is no empty one. -/
def Fld (P : Program) (t : TypeId) (i k : Nat) : Prop := ∃ fs f j, P.underlying t = some (.struct fs) ∧ fs[i]? = some f ∧ f.offset = k ∧ P.info? f.type = some j ∧ j.size ≠ 0
/-- A slice type, its element's type and cells. -/
def SlT (P : Program) (t e : TypeId) (sz : Nat) : Prop := ∃ i, P.underlying t = some (.slice e) ∧ P.info? e = some i ∧ i.size = sz
/-- A type's cells. -/
def SzT (P : Program) (t : TypeId) (sz : Nat) : Prop := ∃ i, P.info? t = some i ∧ i.size = sz

/-! ### What looks at no memory -/
theorem yw_move {x : Operand} {v : Value} (ho : o.op = .move x) (hx : ev V x = some v) : YldW P n D o V v := by
  intro a w ha; simp [execOp, ho, ha.eval hx]
theorem yw_assign {x : Operand} {v : Value} (ho : o.op = .assign x) (hx : ev V x = some v) : YldW P n D o V v := by
  intro a w ha; simp [execOp, ho, ha.eval hx]
theorem yw_pickT {c x y : Operand} {v : Value} (ho : o.op = .pick c x y) (hc : ev V c = some (.bool true)) (hx : ev V x = some v) : YldW P n D o V v := by
  intro a w ha; simp [execOp, ho, ha.eval hc, ha.eval hx, asBool]
theorem yw_pickF {c x y : Operand} {v : Value} (ho : o.op = .pick c x y) (hc : ev V c = some (.bool false)) (hx : ev V y = some v) : YldW P n D o V v := by
  intro a w ha; simp [execOp, ho, ha.eval hc, ha.eval hx, asBool]
theorem yw_not {t : TypeId} {x : Operand} {b : Bool} (ho : o.op = .unOp .not t x) (hx : ev V x = some (.bool b)) : YldW P n D o V (.bool (!b)) := by
  intro a w ha; simp [execOp, ho, ha.eval hx, Op.unary]
theorem yw_notD {t : TypeId} {x : Operand} {p : Prop} [Decidable p] (ho : o.op = .unOp .not t x) (hx : ev V x = some (.bool (decide p))) : YldW P n D o V (.bool (decide (¬ p))) := by
  intro a w ha; simp [execOp, ho, ha.eval hx, Op.unary]
theorem yw_extract {x : Operand} {vs : Array Value} {i : Nat} {v : Value} (ho : o.op = .extract x i) (hx : ev V x = some (.tuple vs)) (hv : vs[i]? = some v) : YldW P n D o V v := by
  intro a w ha; simp [execOp, ho, ha.eval hx, Instr.extract, hv]
theorem yw_nilCheck {x : Operand} {p : Addr} (ho : o.op = .nilCheck x) (hx : ev V x = some (.pointer (some p))) : YldW P n D o V (.pointer (some p)) := by
  intro a w ha; simp [execOp, ho, ha.eval hx]
theorem yw_makeFunc {f : Fn} {xs ys : Array Operand} {us vs : List Value} (ho : o.op = .makeFunc f xs ys) (hx : evs V xs.toList = some us) (hy : evs V ys.toList = some vs) : YldW P n D o V (.func f us.toArray vs.toArray) := by
  intro a w ha
  have h1 := ha.evals hx
  have h2 := ha.evals hy
  have e1 : xs.map a.eval = us.toArray := Array.ext' (by simpa using h1)
  have e2 : ys.map a.eval = vs.toArray := Array.ext' (by simpa using h2)
  simp [execOp, ho, Instr.makeFunc, e1, e2]

section ints
variable {t u : TypeId} {x y : Operand} {k : IntKind} {a b : Int}
theorem yw_add {a b : Int} (ho : o.op = .binOp .add t x y u) (hx : ev V x = some (.int .i64 a)) (hy : ev V y = some (.int .i64 b)) (h1 : -9223372036854775808 ≤ a + b) (h2 : a + b ≤ 9223372036854775807) : YldW P n D o V (.int .i64 (a + b)) := by
  intro c w ha
  have : IntKind.i64.wrap (a + b) = a + b := by rw [IntKind.wrap_i64]; omega
  simp [execOp, ho, ha.eval hx, ha.eval hy, eqGuard, binOp, Op.intArith, this]
theorem yw_sub {a b : Int} (ho : o.op = .binOp .sub t x y u) (hx : ev V x = some (.int .i64 a)) (hy : ev V y = some (.int .i64 b)) (h1 : -9223372036854775808 ≤ a - b) (h2 : a - b ≤ 9223372036854775807) : YldW P n D o V (.int .i64 (a - b)) := by
  intro c w ha
  have : IntKind.i64.wrap (a - b) = a - b := by rw [IntKind.wrap_i64]; omega
  simp [execOp, ho, ha.eval hx, ha.eval hy, eqGuard, binOp, Op.intArith, this]
theorem yw_mul {a b : Int} (ho : o.op = .binOp .mul t x y u) (hx : ev V x = some (.int .i64 a)) (hy : ev V y = some (.int .i64 b)) (h1 : -9223372036854775808 ≤ a * b) (h2 : a * b ≤ 9223372036854775807) : YldW P n D o V (.int .i64 (a * b)) := by
  intro c w ha
  have : IntKind.i64.wrap (a * b) = a * b := by rw [IntKind.wrap_i64]; omega
  simp [execOp, ho, ha.eval hx, ha.eval hy, eqGuard, binOp, Op.intArith, this]
theorem yw_addw (ho : o.op = .binOp .add t x y u) (hx : ev V x = some (.int k a)) (hy : ev V y = some (.int k b)) : YldW P n D o V (.int k (k.wrap (a + b))) := by
  intro c w ha
  simp [execOp, ho, ha.eval hx, ha.eval hy, eqGuard, binOp, Op.intArith]
theorem yw_subw (ho : o.op = .binOp .sub t x y u) (hx : ev V x = some (.int k a)) (hy : ev V y = some (.int k b)) : YldW P n D o V (.int k (k.wrap (a - b))) := by
  intro c w ha
  simp [execOp, ho, ha.eval hx, ha.eval hy, eqGuard, binOp, Op.intArith]
theorem yw_mulw (ho : o.op = .binOp .mul t x y u) (hx : ev V x = some (.int k a)) (hy : ev V y = some (.int k b)) : YldW P n D o V (.int k (k.wrap (a * b))) := by
  intro c w ha
  simp [execOp, ho, ha.eval hx, ha.eval hy, eqGuard, binOp, Op.intArith]
theorem yw_quo {a b : Int} (ho : o.op = .binOp .quo t x y u) (hx : ev V x = some (.int .i64 a)) (hy : ev V y = some (.int .i64 b)) (h0 : 0 ≤ a) (hm : a ≤ 9223372036854775807) (hb : 0 < b) : YldW P n D o V (.int .i64 (a / b)) := by
  intro c w ha
  have e : a.tdiv b = a / b := Int.tdiv_eq_ediv_of_nonneg h0
  have h1 : 0 ≤ a / b := Int.ediv_nonneg h0 (by omega)
  have h2 : a / b ≤ a := Int.ediv_le_self b h0
  have : IntKind.i64.wrap (a / b) = a / b := by rw [IntKind.wrap_i64]; omega
  have hb0 : b ≠ 0 := by omega
  simp [execOp, ho, ha.eval hx, ha.eval hy, eqGuard, binOp, Op.intDiv, hb0, e, this]
theorem yw_rem {a b : Int} (ho : o.op = .binOp .rem t x y u) (hx : ev V x = some (.int k a)) (hy : ev V y = some (.int k b)) (h0 : 0 ≤ a) (hb : 0 < b) : YldW P n D o V (.int k (a % b)) := by
  intro c w ha
  have e : a.tmod b = a % b := Int.tmod_eq_emod_of_nonneg h0
  have hb0 : b ≠ 0 := by omega
  simp [execOp, ho, ha.eval hx, ha.eval hy, eqGuard, binOp, Op.intDiv, hb0, e]
theorem yw_quow (ho : o.op = .binOp .quo t x y u) (hx : ev V x = some (.int k a)) (hy : ev V y = some (.int k b)) (hb : b ≠ 0) : YldW P n D o V (.int k (k.wrap (a.tdiv b))) := by
  intro c w ha
  simp [execOp, ho, ha.eval hx, ha.eval hy, eqGuard, binOp, Op.intDiv, hb]
theorem yw_remw (ho : o.op = .binOp .rem t x y u) (hx : ev V x = some (.int k a)) (hy : ev V y = some (.int k b)) (hb : b ≠ 0) : YldW P n D o V (.int k (a.tmod b)) := by
  intro c w ha
  simp [execOp, ho, ha.eval hx, ha.eval hy, eqGuard, binOp, Op.intDiv, hb]
theorem yw_lss (ho : o.op = .binOp .lss t x y u) (hx : ev V x = some (.int k a)) (hy : ev V y = some (.int k b)) : YldW P n D o V (.bool (decide (a < b))) := by
  intro c w ha; simp [execOp, ho, ha.eval hx, ha.eval hy, eqGuard, binOp, Op.intCmp]
theorem yw_leq (ho : o.op = .binOp .leq t x y u) (hx : ev V x = some (.int k a)) (hy : ev V y = some (.int k b)) : YldW P n D o V (.bool (decide (a ≤ b))) := by
  intro c w ha; simp [execOp, ho, ha.eval hx, ha.eval hy, eqGuard, binOp, Op.intCmp]
theorem yw_gtr (ho : o.op = .binOp .gtr t x y u) (hx : ev V x = some (.int k a)) (hy : ev V y = some (.int k b)) : YldW P n D o V (.bool (decide (b < a))) := by
  intro c w ha; simp [execOp, ho, ha.eval hx, ha.eval hy, eqGuard, binOp, Op.intCmp]
theorem yw_geq (ho : o.op = .binOp .geq t x y u) (hx : ev V x = some (.int k a)) (hy : ev V y = some (.int k b)) : YldW P n D o V (.bool (decide (b ≤ a))) := by
  intro c w ha; simp [execOp, ho, ha.eval hx, ha.eval hy, eqGuard, binOp, Op.intCmp]
theorem yw_eql (ho : o.op = .binOp .eql t x y u) (hx : ev V x = some (.int k a)) (hy : ev V y = some (.int k b)) : YldW P n D o V (.bool (decide (a = b))) := by
  intro c w ha
  have : (a == b) = decide (a = b) := rfl
  simp [execOp, ho, ha.eval hx, ha.eval hy, eqGuard, binOp, Op.intCmp, this]
theorem yw_neq (ho : o.op = .binOp .neq t x y u) (hx : ev V x = some (.int k a)) (hy : ev V y = some (.int k b)) : YldW P n D o V (.bool (decide (a ≠ b))) := by
  intro c w ha
  have : (a != b) = decide (a ≠ b) := by
    show (!(a == b)) = _
    rw [show (a == b) = decide (a = b) from rfl, decide_not]
  simp [execOp, ho, ha.eval hx, ha.eval hy, eqGuard, binOp, Op.intCmp, this]
theorem yw_conv {s d : TypeId} {kd : IntKind} {sd : TypeDesc} (ho : o.op = .convert s d x) (hx : ev V x = some (.int k a)) (hs : P.underlying s = some sd) (hd : P.underlying d = some (.int kd)) : YldW P n D o V (.int kd (kd.wrap a)) := by
  intro c w ha
  simp [execOp, ho, ha.eval hx, convert, run_underlying hs, run_underlying hd, Conv.intToInt]
end ints

theorem yw_streq {t u : TypeId} {x y : Operand} {a b : ByteArray} (ho : o.op = .binOp .eql t x y u) (hx : ev V x = some (.string a)) (hy : ev V y = some (.string b)) : YldW P n D o V (.bool (decide (a.toList = b.toList))) := by
  intro c w ha
  have : (a.toList == b.toList) = decide (a.toList = b.toList) := by
    rw [Bool.eq_iff_iff]; simp
  simp [execOp, ho, ha.eval hx, ha.eval hy, eqGuard, binOp, Op.stringOp, this]
theorem yw_strneq {t u : TypeId} {x y : Operand} {a b : ByteArray} (ho : o.op = .binOp .neq t x y u) (hx : ev V x = some (.string a)) (hy : ev V y = some (.string b)) : YldW P n D o V (.bool (decide (a.toList ≠ b.toList))) := by
  intro c w ha
  have : (!(a.toList == b.toList)) = decide (a.toList ≠ b.toList) := by
    rw [Bool.eq_iff_iff]; simp
  simp [execOp, ho, ha.eval hx, ha.eval hy, eqGuard, binOp, Op.stringOp, this]
theorem yw_stradd {t u : TypeId} {x y : Operand} {a b : ByteArray} (ho : o.op = .binOp .add t x y u) (hx : ev V x = some (.string a)) (hy : ev V y = some (.string b)) (hs : a.size + b.size ≤ 9223372036854775807) : YldW P n D o V (.string (a ++ b)) := by
  intro c w ha
  have hs' : ¬ (9223372036854775807 < (a.size : Int) + (b.size : Int)) := by omega
  simp [execOp, ho, ha.eval hx, ha.eval hy, eqGuard, binOp, Op.stringOp, hs']
/-- A slice against nil. -/
theorem yw_slnil {t u e : TypeId} {x y : Operand} {A : Option Addr} {m c : Nat} (ho : o.op = .binOp .eql t x y u) (ht : P.underlying t = some (.slice e)) (hx : ev V x = some (.slice A m c)) (hy : ev V y = some (.slice none 0 0)) : YldW P n D o V (.bool A.isNone) := by
  intro b w ha
  simp only [execOp, ho, ha.eval hx, ha.eval hy, Sem.run_bind]
  rw [show (eqGuard .eql t x y (.slice A m c) (.slice none 0 0)) = pure () from by simp [eqGuard]]
  simp [Lib.run_eql_slice_nil w t e A m c 0 0 ht]

theorem yw_lenS {x : Operand} {t e : TypeId} {A : Option Addr} {m c : Nat} (ho : o.op = .call { callee := .builtin .len, args := #[x], argTypes := #[t] }) (ht : P.underlying t = some (.slice e)) (hx : ev V x = some (.slice A m c)) : YldW P n D o V (.int .i64 m) := by
  intro a w ha
  simp [execOp, ho, resolve, invoke, builtin, ha.eval hx, Builtin.len_, run_underlying ht, goInt]
theorem yw_lenStr {x : Operand} {t : TypeId} {s : ByteArray} (ho : o.op = .call { callee := .builtin .len, args := #[x], argTypes := #[t] }) (ht : P.underlying t = some .string) (hx : ev V x = some (.string s)) : YldW P n D o V (.int .i64 s.size) := by
  intro a w ha
  simp [execOp, ho, resolve, invoke, builtin, ha.eval hx, Builtin.len_, run_underlying ht, goInt]
theorem yw_min {x y : Operand} {ts : Array TypeId} {k : IntKind} {p q : Int} (ho : o.op = .call { callee := .builtin .min, args := #[x, y], argTypes := ts }) (hx : ev V x = some (.int k p)) (hy : ev V y = some (.int k q)) : YldW P n D o V (.int k (min p q)) := by
  intro a w ha
  have : (if q < p then q else p) = min p q := by split <;> omega
  simp [execOp, ho, resolve, invoke, builtin, ha.eval hx, ha.eval hy, Builtin.min_, Builtin.min2, this]

/-! ### Addresses -/
def ab (A : Option Addr) : Nat := (A.getD ⟨0, 0, none⟩).block
def ao (A : Option Addr) : Nat := (A.getD ⟨0, 0, none⟩).off

theorem add_none (b i k : Nat) : (⟨b, i, none⟩ : Addr).add k = ⟨b, i + k, none⟩ := Addr.add_lit b i k

theorem yw_fieldAddr {t : TypeId} {x : Operand} {i k b j : Nat} (ho : o.op = .fieldAddr t x i) (hf : Fld P t i k) (hx : ev V x = some (.pointer (some ⟨b, j, none⟩))) : YldW P n D o V (.pointer (some ⟨b, j + k, none⟩)) := by
  intro a w ha
  obtain ⟨fs, f, inf, h1, h2, h3, h4, h5⟩ := hf
  simp [execOp, ho, ha.eval hx, Instr.fieldAt, run_underlying h1, h2, Instr.sureAddr, fieldPlace, sizeOf, typeInfo, h4, h5, h3, add_none]
theorem yw_field0 {t : TypeId} {x : Operand} {i b j : Nat} (ho : o.op = .fieldAddr t x i) (hf : Fld P t i 0) (hx : ev V x = some (.pointer (some ⟨b, j, none⟩))) : YldW P n D o V (.pointer (some ⟨b, j, none⟩)) := yw_fieldAddr ho hf hx

/-- An element of a slice: A its array's address, whatever it is. -/
theorem yw_index {t e : TypeId} {x y : Operand} {A : Option Addr} {len cap sz k : Nat} {q : Int} (ho : o.op = .indexAddr t x y) (ht : SlT P t e sz) (hx : ev V x = some (.slice A len cap)) (hy : ev V y = some (.int .i64 q)) (hq : q = (k : Int)) (hk : k < len) (hA : ∃ b j, A = some ⟨b, j, none⟩) :
    YldW P n D o V (.pointer (some ⟨ab A, ao A + k * sz, none⟩)) := by
  intro a w ha
  obtain ⟨b, j, rfl⟩ := hA
  obtain ⟨i, h1, h2, h3⟩ := ht
  subst hq
  have h4 : (0 : Int) ≤ (k : Int) ∧ (k : Int) < (len : Int) := by omega
  simp [execOp, ho, ha.eval hx, ha.eval hy, Instr.indexAt, asIntOf, run_underlying h1, sizeOf, typeInfo, h2, h3, hk, add_none, ab, ao]

/-! ### Reading -/
theorem run_load_one {t : TypeId} {a : Addr} {v : Value} {w : World} (h1 : One P t) (hc : w.cell? a = some v) : (loadVar t a).run P w = .ok v w := by
  obtain ⟨d, hd, hone⟩ := h1
  have : (isAgg t).run P w = .ok false w := by
    simp only [isAgg, Sem.run_bind, run_underlying hd, Result.andThen_ok]
    cases d <;> simp [oneB] at hone ⊢
  simp only [loadVar, Sem.run_bind, this, Result.andThen_ok]
  simp [load, Sem.run, hc]

theorem run_load_agg {t : TypeId} {b j sz : Nat} {cs : List Value} {w : World} (h1 : AggT P t sz) (hsz : cs.length = sz) (hc : ∀ i v, cs[i]? = some v → w.cell? ⟨b, j + i, none⟩ = some v) : (loadVar t ⟨b, j, none⟩).run P w = .ok (.agg cs.toArray) w := by
  obtain ⟨d, i, hd, hone, hi, hs⟩ := h1
  have : (isAgg t).run P w = .ok true w := by
    simp only [isAgg, Sem.run_bind, run_underlying hd, Result.andThen_ok]
    cases d <;> simp [oneB] at hone ⊢
  have hl := run_loadCells_list (P := P) (w := w) ⟨b, j, none⟩ cs (fun i v hv => by rw [add_none]; exact hc i v hv)
  simp only [loadVar, Sem.run_bind, this, Result.andThen_ok, if_true, sizeOf, typeInfo, run_program, hi, Sem.run_pure]
  rw [hs, ← hsz, hl]
  rfl

/-- A cell of a known block. -/
theorem y_load {t : TypeId} {x : Operand} {g j : Nat} {i : Nat} {cs : Array Value} {tt : TypeId} {fr : Nat × Nat} {v : Value} (ho : o.op = .load t x) (hx : ev V x = some (.pointer (some ⟨g, j, none⟩))) (h1 : One P t)
    (hL : L[i]? = some (.blk g (.cells cs tt fr))) (hv : cs[j]? = some v) : Yld P w0 O n D o V L v := by
  intro a w ha hw
  have hg := hw.ents _ (List.mem_of_getElem? hL)
  have hc : w.cell? ⟨g, j, none⟩ = some v := by rw [cell_of_row w g j cs tt fr hg]; exact hv
  simp [execOp, ho, ha.eval hx, Instr.loadAt, Instr.sureAddr, run_load_one h1 hc]

/-- A whole block of a struct or an array. -/
theorem y_loadA {t : TypeId} {x : Operand} {g : Nat} {i sz : Nat} {cs : Array Value} {tt : TypeId} {fr : Nat × Nat} (ho : o.op = .load t x) (hx : ev V x = some (.pointer (some ⟨g, 0, none⟩))) (h1 : AggT P t sz)
    (hL : L[i]? = some (.blk g (.cells cs tt fr))) (hs : cs.size = sz) : Yld P w0 O n D o V L (.agg cs) := by
  intro a w ha hw
  have hg := hw.ents _ (List.mem_of_getElem? hL)
  have := run_load_agg (P := P) (w := w) (b := g) (j := 0) (cs := cs.toList) h1 (by simpa using hs) (fun k v hv => by rw [cell_of_row w g _ cs tt fr hg]; simpa using hv)
  simp [execOp, ho, ha.eval hx, Instr.loadAt, Instr.sureAddr, this]

/-- A struct or an array that is a part of a known block. -/
theorem y_loadP {t : TypeId} {x : Operand} {g j : Nat} {i sz : Nat} {cs vs : Array Value} {tt : TypeId} {fr : Nat × Nat} (ho : o.op = .load t x) (hx : ev V x = some (.pointer (some ⟨g, j, none⟩))) (h1 : AggT P t sz)
    (hL : L[i]? = some (.blk g (.cells cs tt fr))) (hs : vs.size = sz) (hv : ∀ k, k < sz → cs[j + k]? = vs[k]?) : Yld P w0 O n D o V L (.agg vs) := by
  intro a w ha hw
  have hg := hw.ents _ (List.mem_of_getElem? hL)
  have := run_load_agg (P := P) (w := w) (b := g) (j := j) (cs := vs.toList) h1 (by simpa using hs) (fun k v hkv => by
    have hk : k < vs.size := by
      have := (List.getElem?_eq_some_iff.1 hkv).1
      simpa using this
    rw [cell_of_row w g _ cs tt fr hg, hv k (by omega)]
    simpa using hkv)
  simp [execOp, ho, ha.eval hx, Instr.loadAt, Instr.sureAddr, this]

/-- A slice's elements, each of sz cells, as they lie in a world: A the array's address. -/
structure Rd (w : World) (A : Option Addr) (sz : Nat) (xs : List (Array Value)) : Prop where
  at_ : ∀ k c, xs[k]? = some c → c.size = sz ∧ (∃ b j, A = some ⟨b, j, none⟩) ∧ ab A < w.heap.size ∧ (∀ u ∈ c.toList, u.oneCell' = true) ∧ ∀ j, j < sz → w.cell? ⟨ab A, ao A + k * sz + j, none⟩ = c[j]?

theorem Rd.nil (w : World) (A : Option Addr) (sz : Nat) : Rd w A sz [] := ⟨fun k c h => by simp at h⟩
theorem Rd.some {w : World} {A : Option Addr} {sz : Nat} {xs : List (Array Value)} (h : Rd w A sz xs) {k : Nat} (hk : k < xs.length) : ∃ b j, A = some ⟨b, j, none⟩ :=
  (h.at_ k _ (List.getElem?_eq_getElem hk)).2.1
theorem Rd.keep {w w' : World} {A : Option Addr} {sz : Nat} {xs : List (Array Value)} (h : Rd w A sz xs) (hs : w.heap.size ≤ w'.heap.size) (hk : ab A < w.heap.size → w'.heap[ab A]? = w.heap[ab A]?) : Rd w' A sz xs :=
  ⟨fun k c hc => by
    obtain ⟨h1, h2, h3, h5, h4⟩ := h.at_ k c hc
    exact ⟨h1, h2, Nat.lt_of_lt_of_le h3 hs, h5, fun j hj => (World.cell?_of_block (w := w) (a := ⟨ab A, ao A + k * sz + j, none⟩) (hk h3)).trans (h4 j hj)⟩⟩
/-- What lay ahead of the call lies there still. -/
theorem SL.rd {w : World} (h : SL w0 O w L) {A : Option Addr} {sz : Nat} {xs : List (Array Value)} (hr : Rd w0 A sz xs) (hO : ab A ∉ O) : Rd w A sz xs :=
  hr.keep h.size (fun hlt => h.same _ hlt hO)

/-- An element of a slice that lay ahead of the call, whole. -/
theorem y_elem {t : TypeId} {x : Operand} {A : Option Addr} {sz k : Nat} {xs : List (Array Value)} {c : Array Value} (ho : o.op = .load t x) (hx : ev V x = some (.pointer (some ⟨ab A, ao A + k * sz, none⟩))) (h1 : AggT P t sz)
    (hr : Rd w0 A sz xs) (hO : ab A ∉ O) (hk : xs[k]? = some c) : Yld P w0 O n D o V L (.agg c) := by
  intro a w ha hw
  obtain ⟨hs, _, _, _, hc⟩ := (hw.rd hr hO).at_ k c hk
  have := run_load_agg (P := P) (w := w) (b := ab A) (j := ao A + k * sz) (cs := c.toList) h1 (by simpa using hs) (fun i v hv => by
    have hi : i < c.size := by
      have := (List.getElem?_eq_some_iff.1 hv).1
      simpa using this
    rw [hc i (by omega)]; simpa using hv)
  simp [execOp, ho, ha.eval hx, Instr.loadAt, Instr.sureAddr, this]
/-- One cell of an element. -/
theorem y_elemF {t : TypeId} {x : Operand} {A : Option Addr} {sz k j : Nat} {xs : List (Array Value)} {c : Array Value} {v : Value} (ho : o.op = .load t x) (hx : ev V x = some (.pointer (some ⟨ab A, ao A + k * sz + j, none⟩))) (h1 : One P t)
    (hr : Rd w0 A sz xs) (hO : ab A ∉ O) (hk : xs[k]? = some c) (hv : c[j]? = some v) : Yld P w0 O n D o V L v := by
  intro a w ha hw
  obtain ⟨hs, _, _, _, hc⟩ := (hw.rd hr hO).at_ k c hk
  have hj : j < c.size := (Array.getElem?_eq_some_iff.1 hv).1
  have hcell : w.cell? ⟨ab A, ao A + k * sz + j, none⟩ = some v := by rw [hc j (by omega)]; exact hv
  simp [execOp, ho, ha.eval hx, Instr.loadAt, Instr.sureAddr, run_load_one h1 hcell]

/-! ### Making memory -/
theorem op_box {t : TypeId} {x : Operand} {d : Nat} {v : Value} (ho : o.op = .box t x) (hd : o.dst = some d) (hdn : Nat.blt d n = true) (hx : ev V x = some v)
    (hT : ∀ g, T ((d, .pointer (some ⟨g, 0, none⟩)) :: V) (.blk g (.cells v.cells t (0, 0)) :: L)) : OpS P w0 O n D o V L T := by
  intro a w ha hw
  have hr : (execOp a.eval o).run P w = .ok (.value (.pointer (some ⟨w.heap.size, 0, none⟩))) (w.alloc (.cells v.cells t)) := by
    simp [execOp, ho, ha.eval hx, Instr.box, newVar, newRow]
  unfold Does
  rw [hr, hd]
  exact ⟨_, _, hT _, ha.put hdn _, hw.alloc _⟩

/-- The zero value of a type. -/
def Zero (P : Program) (t : TypeId) (z : Value) : Prop := ∃ i, P.info? t = some i ∧ i.zero = some z

theorem op_alloc {t : TypeId} {d : Nat} {z : Value} (ho : o.op = .alloc t) (hd : o.dst = some d) (hdn : Nat.blt d n = true) (hz : Zero P t z)
    (hT : ∀ g, T ((d, .pointer (some ⟨g, 0, none⟩)) :: V) (.blk g (.cells z.cells t (0, 0)) :: L)) : OpS P w0 O n D o V L T := by
  intro a w ha hw
  obtain ⟨i, hi, hzz⟩ := hz
  have hr : (execOp a.eval o).run P w = .ok (.value (.pointer (some ⟨w.heap.size, 0, none⟩))) (w.alloc (.cells z.cells t)) := by
    simp [execOp, ho, Instr.alloc, zeroValue, typeInfo, hi, hzz, newVar, newRow]
  unfold Does
  rw [hr, hd]
  exact ⟨_, _, hT _, ha.put hdn _, hw.alloc _⟩

theorem op_makeMap {t : TypeId} {d : Nat} (ho : o.op = .makeMap t none) (hd : o.dst = some d) (hdn : Nat.blt d n = true)
    (hT : ∀ g, T ((d, .map (some g)) :: V) (.imap g (fun _ => none) :: L)) : OpS P w0 O n D o V L T := by
  intro a w ha hw
  have hr : (execOp a.eval o).run P w = .ok (.value (.map (some w.heap.size))) (w.alloc (.map #[] 0)) := by
    simp [execOp, ho, Instr.makeMap]
  have h1 := hw.alloc (.map #[] 0)
  have h2 : SL w0 O (w.alloc (.map #[] 0)) (.imap w.heap.size (fun _ => none) :: L) := by
    refine ⟨h1.os, h1.tape, h1.output, h1.size, h1.same, ?_, h1.nodup, ?_⟩
    · intro p hp
      rcases List.mem_cons.1 hp with rfl | hp
      · exact ⟨#[], 0, h1.ents _ List.mem_cons_self, by simp, fun k => rfl⟩
      · exact h1.ents p (List.mem_cons_of_mem _ hp)
    · intro p hp
      rcases List.mem_cons.1 hp with rfl | hp
      · exact h1.own (.blk w.heap.size (.map #[] 0)) List.mem_cons_self
      · exact h1.own p (List.mem_cons_of_mem _ hp)
  unfold Does
  rw [hr, hd]
  exact ⟨_, _, hT _, ha.put hdn _, h2⟩

/-! ### Writing -/
theorem list_set_split {α : Type} : ∀ {l : List α} {i : Nat} {x : α}, l[i]? = some x → ∃ A R, l = A ++ x :: R ∧ ∀ y, l.set i y = A ++ y :: R
  | [], i, x, h => by simp at h
  | a :: l, 0, x, h => ⟨[], l, by simpa using h, fun y => rfl⟩
  | a :: l, i + 1, x, h => by
    obtain ⟨A, R, h1, h2⟩ := list_set_split (l := l) (i := i) (x := x) (by simpa using h)
    exact ⟨a :: A, R, by rw [h1]; rfl, fun y => by rw [List.set_cons_succ, h2]; rfl⟩

theorem SL.setI {w w' : World} (h : SL w0 O w L) {i : Nat} {p p' : Ent} (hL : L[i]? = some p) (hos : w'.os = w.os) (ht : w'.tape = w.tape) (hou : w'.output = w.output)
    (hsz : w.heap.size ≤ w'.heap.size) (hp : p'.sat w') (hnd : p'.blocks.Nodup) (hbl : ∀ b ∈ p'.blocks, b ∈ p.blocks ∨ w.heap.size ≤ b) (hk : ∀ k, k < w.heap.size → k ∉ p.blocks → w'.heap[k]? = w.heap[k]?) : SL w0 O w' (L.set i p') := by
  obtain ⟨A, R, h1, h2⟩ := list_set_split hL
  rw [h2]
  exact h.set h1 hos ht hou hsz hp hnd hbl hk
theorem SL.setB {w w' : World} (h : SL w0 O w L) {i g : Nat} {ob : Obj} (hL : L[i]? = some (.blk g ob)) (o' : Obj) (hos : w'.os = w.os) (ht : w'.tape = w.tape) (hou : w'.output = w.output)
    (hsz : w'.heap.size = w.heap.size) (hg : w'.heap[g]? = some o') (hk : ∀ k, k ≠ g → w'.heap[k]? = w.heap[k]?) : SL w0 O w' (L.set i (.blk g o')) :=
  h.setI hL hos ht hou (Nat.le_of_eq hsz.symm) hg (by simp [Ent.blocks]) (fun b hb => .inl (by simpa [Ent.blocks] using hb)) (fun k _ hkb => hk k (by simpa [Ent.blocks] using hkb))

theorem run_store_row {t : TypeId} {g j sz : Nat} {v : Value} {cs : Array Value} {tt : TypeId} {w : World} (hs : SzT P t sz) (hv : v.cells.size = sz) (h1 : ∀ u ∈ v.cells.toList, u.oneCell' = true)
    (hg : w.heap[g]? = some (.cells cs tt (0, 0))) (hfit : j + sz ≤ cs.size) : (storeVar t ⟨g, j, none⟩ v).run P w = .ok () (w.setRow g (cs.toList.take j ++ v.cells.toList ++ cs.toList.drop (j + sz)).toArray) := by
  obtain ⟨i, hi, hsz⟩ := hs
  have hst := run_storeCells_at P g j tt v.cells.toList 0 cs w hg (by simpa [hv] using hfit) h1
  simp only [Nat.add_zero] at hst
  have hne : ¬ (v.cells.size ≠ i.size) := by rw [hv, hsz]; simp
  simp only [storeVar, sizeOf, typeInfo, Sem.run_bind, run_program, Result.andThen_ok, hi, Sem.run_pure, hne, if_false]
  rw [hst]
  simp [hv]

/-- A store into a known block: what it holds behind it. -/
theorem op_store {t : TypeId} {x y : Operand} {g j i sz : Nat} {v : Value} {cs cs' : Array Value} {tt : TypeId} (ho : o.op = .store t x y) (hd : o.dst = none) (hx : ev V x = some (.pointer (some ⟨g, j, none⟩))) (hy : ev V y = some v) (hs : SzT P t sz)
    (hv : v.cells.size = sz) (h1 : ∀ u ∈ v.cells.toList, u.oneCell' = true) (hL : L[i]? = some (.blk g (.cells cs tt (0, 0)))) (hfit : j + sz ≤ cs.size) (hcs : cs.toList.take j ++ v.cells.toList ++ cs.toList.drop (j + sz) = cs'.toList)
    (hT : T V (L.set i (.blk g (.cells cs' tt (0, 0))))) : OpS P w0 O n D o V L T := by
  intro a w ha hw
  have hg := hw.ents _ (List.mem_of_getElem? hL)
  have hr := run_store_row (P := P) hs hv h1 hg hfit
  have hr' : (execOp a.eval o).run P w = .ok .skip (w.setRow g cs') := by
    simp only [execOp, ho, ha.eval hx, ha.eval hy, Instr.storeAt, Instr.sureAddr]
    simp only [Sem.run_bind, Sem.run_pure, Result.andThen_ok, hr, hcs]
  unfold Does
  rw [hr', hd]
  refine ⟨_, _, hT, ha, hw.setB hL _ rfl rfl rfl (by simp) ?_ (fun k hk => setRow_other w g k _ hk)⟩
  exact setRow_heap w g cs cs' tt _ hg

/-! ### Calls -/
theorem op_call {f : Operand} {xs : Array Operand} {ts : Array TypeId} {k d : Nat} {cap : Array Value} {vs : List Value} {σ : Type} {val : σ → Value} {LL : σ → List Ent} {post : σ → Prop} {M R : List Ent}
    (ho : o.op = .call { callee := .value f, args := xs, argTypes := ts }) (hd : o.dst = some d) (hdn : Nat.blt d n = true) (hf : ev V f = some (.func (.func k) #[] cap)) (hx : evs V xs.toList = some vs)
    (ent : ∀ args w, (callFunc k args).run P w = .ok (.enter k args) w) (hL : L = M ++ R)
    (hc : ∀ w, SL w0 O w L → Calls P k (vs.toArray ++ cap) w fun e w' => ∃ x, post x ∧ e = .returned (val x) ∧ SL w (M.flatMap Ent.blocks) w' (LL x))
    (hT : ∀ x, post x → T ((d, val x) :: V) (LL x ++ R)) : OpS P w0 O n D o V L T := by
  intro a w ha hw
  have h1 := ha.evals hx
  have e1 : xs.map a.eval = vs.toArray := Array.ext' (by simpa using h1)
  have hr : (execOp a.eval o).run P w = .ok (.enter k (vs.toArray ++ cap)) w := by
    simp only [execOp, ho, resolve, ha.eval hf, Deferred.ofValue, e1]
    simp only [Sem.run_bind, Sem.run_pure, Result.andThen_ok, invoke]
    simp [ent]
  unfold Does
  rw [hr, hd]
  refine CallsIn.mono (callsIn_wide.2 (hc w hw)) ?_
  rintro e w' ⟨x, hp, he, hs⟩
  subst hL
  exact ⟨val x, he, _, _, hT x hp, ha.put hdn _, hw.call rfl hs⟩

/-- .. a callee that touches nothing of the caller's and hands back what is no memory. -/
theorem op_callV {f : Operand} {xs : Array Operand} {ts : Array TypeId} {k d : Nat} {cap : Array Value} {vs : List Value} {v : Value}
    (ho : o.op = .call { callee := .value f, args := xs, argTypes := ts }) (hd : o.dst = some d) (hdn : Nat.blt d n = true) (hf : ev V f = some (.func (.func k) #[] cap)) (hx : evs V xs.toList = some vs)
    (ent : ∀ args w, (callFunc k args).run P w = .ok (.enter k args) w)
    (hc : ∀ w, SL w0 O w L → Calls P k (vs.toArray ++ cap) w fun e w' => e = .returned v ∧ SL w [] w' [])
    (hT : T ((d, v) :: V) L) : OpS P w0 O n D o V L T :=
  op_call (σ := Unit) (val := fun _ => v) (LL := fun _ => []) (post := fun _ => True) (M := []) (R := L) ho hd hdn hf hx ent rfl (fun w hw => (hc w hw).mono fun _ _ ⟨h1, h2⟩ => ⟨(), trivial, h1, h2⟩) (fun _ _ => hT)

/-- .. one that hands back memory of its own. -/
theorem op_callE {f : Operand} {xs : Array Operand} {ts : Array TypeId} {k d : Nat} {cap : Array Value} {vs : List Value} {σ : Type} {val : σ → Value} {LL : σ → List Ent} {post : σ → Prop}
    (ho : o.op = .call { callee := .value f, args := xs, argTypes := ts }) (hd : o.dst = some d) (hdn : Nat.blt d n = true) (hf : ev V f = some (.func (.func k) #[] cap)) (hx : evs V xs.toList = some vs)
    (ent : ∀ args w, (callFunc k args).run P w = .ok (.enter k args) w)
    (hc : ∀ w, SL w0 O w L → Calls P k (vs.toArray ++ cap) w fun e w' => ∃ x, post x ∧ e = .returned (val x) ∧ SL w [] w' (LL x))
    (hT : ∀ x, post x → T ((d, val x) :: V) (LL x ++ L)) : OpS P w0 O n D o V L T :=
  op_call (M := []) (R := L) ho hd hdn hf hx ent rfl hc hT
end

/-! ### A function -/
def initV : Nat → List Value → List (Nat × Value)
  | _, [] => []
  | k, v :: r => (k, v) :: initV (k + 1) r

theorem lk_initV : ∀ (vs : List Value) (k t : Nat) (v : Value), lk (initV k vs) t = some v → k ≤ t ∧ vs[t - k]? = some v
  | [], _, _, _, h => by simp [initV, lk] at h
  | u :: r, k, t, v, h => by
    simp only [initV, lk] at h
    cases e : Nat.beq k t with
    | true =>
      rw [e] at h
      have : k = t := by simpa using e
      subst this
      simpa using h
    | false =>
      rw [e] at h
      obtain ⟨h1, h2⟩ := lk_initV r (k + 1) t v (by simpa using h)
      refine ⟨by omega, ?_⟩
      rw [show t - k = (t - (k + 1)) + 1 from by omega]
      simpa using h2

theorem Holds.init {args : List Value} {n : Nat} (hn : args.length ≤ n) : Holds n [] { tmps := args.toArray ++ Array.replicate (n - args.length) undef, defers := [] } (initV 0 args) := by
  refine ⟨rfl, by simp; omega, fun t v h => ?_⟩
  obtain ⟨_, h2⟩ := lk_initV args 0 t v h
  simp only [Nat.sub_zero] at h2
  have hlt : t < args.length := (List.getElem?_eq_some_iff.1 h2).1
  rw [Array.getElem?_append]
  simp [hlt]
  simpa [hlt] using h2

section
variable {P : Program} {w0 : World} {O : List Nat} {L : List Ent} {fn : Func} {R : Ending → World → Prop}

/-- The contract of a function out of its body. -/
theorem calls_of_CX {f : FuncId} {c : Code} {args : List Value} (hf : P.funcs[f]? = some fn) (hb : fn.body = some c) (hn : args.length ≤ fn.ntmps) (hs : SL w0 O w0 L)
    (h : CX P none (bodyPost P fn R) w0 O fn.ntmps [] c (initV 0 args) L) : Calls P f args.toArray w0 R := by
  refine calls_of_wp hf hb ?_
  have := wpIn_wide.1 (h _ w0 (Holds.init hn) hs)
  simpa using this

variable {n : Nat} {V : List (Nat × Value)}
theorem ret_tmp {t : Nat} {v : Value} (hr : fn.results = #[.tmp t]) (hv : lk V t = some v) (h : ∀ w, SL w0 O w L → R (.returned v) w) : XX (bodyPost P fn R) w0 O n [] .ret V L := by
  intro a w ha hw
  have := ha.at_ _ _ hv
  exact ⟨ha.defers, v, by rw [results_tmp hr]; simp [this], h w hw⟩
theorem ret_tmp2 {t t' : Nat} {v v' : Value} (hr : fn.results = #[.tmp t, .tmp t']) (hv : lk V t = some v) (hv' : lk V t' = some v') (h : ∀ w, SL w0 O w L → R (.returned (.tuple #[v, v'])) w) : XX (bodyPost P fn R) w0 O n [] .ret V L := by
  intro a w ha hw
  have h1 := ha.at_ _ _ hv
  have h2 := ha.at_ _ _ hv'
  exact ⟨ha.defers, _, by rw [results_tmp2 hr], by simpa [h1, h2] using h w hw⟩
theorem ret_tmp3 {t t' t'' : Nat} {v v' v'' : Value} (hr : fn.results = #[.tmp t, .tmp t', .tmp t'']) (hv : lk V t = some v) (hv' : lk V t' = some v') (hv'' : lk V t'' = some v'') (h : ∀ w, SL w0 O w L → R (.returned (.tuple #[v, v', v''])) w) : XX (bodyPost P fn R) w0 O n [] .ret V L := by
  intro a w ha hw
  have h1 := ha.at_ _ _ hv
  have h2 := ha.at_ _ _ hv'
  have h3 := ha.at_ _ _ hv''
  exact ⟨ha.defers, .tuple #[v, v', v''], by simp [results, hr, h1, h2, h3], h w hw⟩
theorem ret_none (hr : fn.results = #[]) (h : ∀ w, SL w0 O w L → R (.returned (.tuple #[])) w) : XX (bodyPost P fn R) w0 O n [] .ret V L := by
  intro a w ha hw
  exact ⟨ha.defers, _, results_none hr _ _ _, h w hw⟩
theorem end_none (hr : fn.results = #[]) (h : ∀ w, SL w0 O w L → R (.returned (.tuple #[])) w) : XX (bodyPost P fn R) w0 O n [] .normal V L := by
  intro a w ha hw
  exact ⟨ha.defers, _, results_none hr _ _ _, h w hw⟩
/-- A struct result lies in a block. -/
theorem ret_cell {t g i sz : Nat} {tt : TypeId} {cs : Array Value} {te : TypeId} {fr : Nat × Nat} (hr : fn.results = #[.cell t tt]) (hv : lk V t = some (.pointer (some ⟨g, 0, none⟩))) (h1 : AggT P tt sz) (hL : L[i]? = some (.blk g (.cells cs te fr))) (hs : cs.size = sz)
    (h : ∀ w, SL w0 O w L → R (.returned (.agg cs)) w) : XX (bodyPost P fn R) w0 O n [] .ret V L := by
  intro a w ha hw
  have hp := ha.at_ _ _ hv
  have hg := hw.ents _ (List.mem_of_getElem? hL)
  have := run_load_agg (P := P) (w := w) (b := g) (j := 0) (cs := cs.toList) h1 (by simpa using hs) (fun k v hv => by rw [cell_of_row w g _ cs te fr hg]; simpa using hv)
  exact ⟨ha.defers, .agg cs, by simp [results, hr, hp, asAddr, this], h w hw⟩
theorem ret_cellT {t t' g i sz : Nat} {tt : TypeId} {v : Value} {cs : Array Value} {te : TypeId} {fr : Nat × Nat} (hr : fn.results = #[.cell t tt, .tmp t']) (hv : lk V t = some (.pointer (some ⟨g, 0, none⟩))) (hv' : lk V t' = some v) (h1 : AggT P tt sz) (hL : L[i]? = some (.blk g (.cells cs te fr))) (hs : cs.size = sz)
    (h : ∀ w, SL w0 O w L → R (.returned (.tuple #[.agg cs, v])) w) : XX (bodyPost P fn R) w0 O n [] .ret V L := by
  intro a w ha hw
  have hp := ha.at_ _ _ hv
  have hp' := ha.at_ _ _ hv'
  have hg := hw.ents _ (List.mem_of_getElem? hL)
  have := run_load_agg (P := P) (w := w) (b := g) (j := 0) (cs := cs.toList) h1 (by simpa using hs) (fun k v hv => by rw [cell_of_row w g _ cs te fr hg]; simpa using hv)
  exact ⟨ha.defers, .tuple #[.agg cs, v], by simp [results, hr, hp, hp', asAddr, this], h w hw⟩
end
end Go.Proofs.YtmndhiaaolfepaaDoor
