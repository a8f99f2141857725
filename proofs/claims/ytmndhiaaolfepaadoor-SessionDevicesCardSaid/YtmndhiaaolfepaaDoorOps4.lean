/- Still more rules: maps with integers as keys, slicing, clearing, structs compared, arrays, shifts. -/
import Derived.Test.YtmndhiaaolfepaaDoorOps3
import Derived.MapKept
import Derived.Laws.StructEq
import Derived.Laws.Slices
import Derived.Laws.Shifts
namespace Go.Proofs.YtmndhiaaolfepaaDoor
set_option linter.all false
open Go Go.RowKit

section
variable {P : Program} {w0 : World} {O : List Nat} {n : Nat} {D : List Deferred} {o : Oper} {V : List (Nat × Value)} {L : List Ent} {T : List (Nat × Value) → List Ent → Prop}

theorem plain_of {v : Value} (h : (v.cells.toList.all fun u => u.oneCell') = true) : ∀ u ∈ v.cells.toList, u.oneCell' = true := List.all_eq_true.1 h

/-! ### Maps -/
/-- A map type with keys of type int; its element's zero value. -/
def MapT (P : Program) (t : TypeId) (z : Value) : Prop := ∃ k e i, P.underlying t = some (.map k e) ∧ P.underlying k = some (.int .i64) ∧ P.info? e = some i ∧ i.zero = some z

theorem findNow_int (k : Int) : ∀ (l : List MapEntry) (i : Nat), (∀ e ∈ l, ∃ a, e.key = .int .i64 a) →
    (Instr.findNow (.int .i64) (.int .i64 k) l i = some none ∧ mget k l = none) ∨
    ∃ j e, Instr.findNow (.int .i64) (.int .i64 k) l i = some (some (i + j, e.val)) ∧ l[j]? = some e ∧ e.key = .int .i64 k ∧ mget k l = some e.val ∧
      ∀ (u : Value) k', mget k' (l.modify j fun e => { e with key := .int .i64 k, val := u }) = if k' = k then some u else mget k' l
  | [], i, _ => .inl ⟨rfl, rfl⟩
  | e :: r, i, h => by
    obtain ⟨a, ha⟩ := h e List.mem_cons_self
    by_cases hak : a = k
    · subst hak
      refine .inr ⟨0, e, ?_, rfl, ha, by simp [mget, ha], ?_⟩
      · simp [Instr.findNow, Instr.sameNow, ha]
      · intro u k'
        simp only [List.modify_zero_cons, mget, ha]
        by_cases hk : a = k'
        · simp [hk]
        · simp [hk, Ne.symm hk]
    · have hne : ¬ k = a := fun e => hak e.symm
      have hs : Instr.sameNow (.int .i64) (.int .i64 k) (.int .i64 a) = some false := by simp [Instr.sameNow, hne]
      rcases findNow_int k r (i + 1) (fun e he => h e (List.mem_cons_of_mem _ he)) with ⟨h1, h2⟩ | ⟨j, e', h1, h2, h3, h4, h5⟩
      · exact .inl ⟨by simp [Instr.findNow, ha, hs, h1], by simp [mget, ha, hak, h2]⟩
      · refine .inr ⟨j + 1, e', by simp [Instr.findNow, ha, hs, h1]; omega, by simpa using h2, h3, by simp [mget, ha, hak, h4], ?_⟩
        intro u k'
        simp only [List.modify_succ_cons, mget, ha, h5]
        by_cases hk : a = k'
        · subst hk; simp [hak]
        · simp [hk]

theorem mget_append (k' k : Int) (u : Value) (b : Nat) : ∀ (l : List MapEntry), mget k l = none → (∀ e ∈ l, ∃ a, e.key = .int .i64 a) → mget k' (l ++ [{ key := .int .i64 k, val := u, born := b }]) = if k' = k then some u else mget k' l
  | [], _, _ => by
    by_cases h : k = k'
    · simp [mget, h]
    · simp [mget, h, Ne.symm h]
  | e :: r, h, hk => by
    obtain ⟨a, ha⟩ := hk e List.mem_cons_self
    simp only [mget, ha] at h
    by_cases hak : a = k
    · simp [hak] at h
    · simp only [hak, if_false] at h
      simp only [List.cons_append, mget, ha, mget_append k' k u b r h (fun e he => hk e (List.mem_cons_of_mem _ he))]
      by_cases hak' : a = k'
      · subst hak'; simp [hak]
      · simp [hak']

theorem isKey_int (k : Int) : MapKept.IsKey (.int .i64) (.int .i64 k) := by simp [MapKept.IsKey]

theorem run_lookup_int {w : World} {t : TypeId} {z : Value} {g : Nat} {f : Int → Option Value} (ht : MapT P t z) (h : MapAt w g f) (k : Int) (b : Bool) :
    (Instr.lookup t (.map (some g)) (.int .i64 k) b).run P w = .ok (if b then .tuple #[(f k).getD z, .bool (f k).isSome] else (f k).getD z) w := by
  obtain ⟨kt, et, i, h1, h2, h3, h4⟩ := ht
  obtain ⟨es, clock, hg, hk, hf⟩ := h
  have hz : (zeroValue et).run P w = .ok z w := by simp [zeroValue, typeInfo, h3, h4]
  rcases findNow_int k es.toList 0 hk with ⟨h5, h6⟩ | ⟨j, e, h5, h6, h7, h8, _⟩
  · have : f k = none := by rw [← hf, h6]
    cases b <;> simp [Instr.lookup, run_underlying h1, MapKept.run_getObj_map hg, MapKept.run_checkKey h2 (isKey_int k), MapKept.run_findKey h2 h5, hz, Result.andThen, this]
  · have : f k = some e.val := by rw [← hf, h8]
    cases b <;> simp [Instr.lookup, run_underlying h1, MapKept.run_getObj_map hg, MapKept.run_checkKey h2 (isKey_int k), MapKept.run_findKey h2 h5, hz, Result.andThen, this]

theorem y_lookup {t : TypeId} {m x : Operand} {g i : Nat} {f : Int → Option Value} {k : Int} {z : Value} (ho : o.op = .lookup t m x false) (hm : ev V m = some (.map (some g))) (hx : ev V x = some (.int .i64 k)) (ht : MapT P t z) (hL : L[i]? = some (.imap g f)) :
    Yld P w0 O n D o V L ((f k).getD z) := by
  intro a w ha hw
  have h := run_lookup_int (P := P) ht (hw.ents _ (List.mem_of_getElem? hL)) k false
  simp [execOp, ho, ha.eval hm, ha.eval hx, h]
theorem y_lookupOk {t : TypeId} {m x : Operand} {g i : Nat} {f : Int → Option Value} {k : Int} {z : Value} (ho : o.op = .lookup t m x true) (hm : ev V m = some (.map (some g))) (hx : ev V x = some (.int .i64 k)) (ht : MapT P t z) (hL : L[i]? = some (.imap g f)) :
    Yld P w0 O n D o V L (.tuple #[(f k).getD z, .bool (f k).isSome]) := by
  intro a w ha hw
  have h := run_lookup_int (P := P) ht (hw.ents _ (List.mem_of_getElem? hL)) k true
  simp [execOp, ho, ha.eval hm, ha.eval hx, h]

theorem run_mapUpdate_int {w : World} {t : TypeId} {z : Value} {g : Nat} {f : Int → Option Value} (ht : MapT P t z) (h : MapAt w g f) (k : Int) (u : Value) :
    ∃ es' clock', (Instr.mapUpdate t (.map (some g)) (.int .i64 k) u).run P w = .ok () { w with heap := w.heap.setIfInBounds g (.map es' clock') } ∧
      (∀ e ∈ es'.toList, ∃ a, e.key = .int .i64 a) ∧ ∀ k', mget k' es'.toList = if k' = k then some u else f k' := by
  obtain ⟨kt, et, i, h1, h2, h3, h4⟩ := ht
  obtain ⟨es, clock, hg, hk, hf⟩ := h
  rcases findNow_int k es.toList 0 hk with ⟨h5, h6⟩ | ⟨j, e, h5, h6, h7, h8, h9⟩
  · refine ⟨es.push { key := .int .i64 k, val := u, born := clock }, clock + 1, ?_, ?_, ?_⟩
    · simp [Instr.mapUpdate, run_underlying h1, MapKept.run_getObj_map hg, MapKept.run_checkKey h2 (isKey_int k), MapKept.run_findKey h2 h5, MapKept.run_setObj_map _ hg, Result.andThen]
    · intro e he
      rw [Array.toList_push] at he
      rcases List.mem_append.1 he with he | he
      · exact hk e he
      · rw [List.mem_singleton] at he; subst he; exact ⟨k, rfl⟩
    · intro k'
      rw [Array.toList_push, mget_append k' k u clock es.toList h6 hk, hf]
  · have hj : es[j]? = some e := by simpa using h6
    refine ⟨es.modify j fun e => { e with key := .int .i64 k, val := u }, clock, ?_, ?_, ?_⟩
    · simp only [Nat.zero_add] at h5
      simp [Instr.mapUpdate, run_underlying h1, MapKept.run_getObj_map hg, MapKept.run_checkKey h2 (isKey_int k), MapKept.run_findKey h2 h5, hj, h7, MapKept.run_keyThatStays (isKey_int k), MapKept.run_setObj_map _ hg, Result.andThen]
    · intro e' he
      rw [Array.toList_modify] at he
      obtain ⟨m, hm⟩ := List.mem_iff_getElem?.1 he
      rw [List.getElem?_modify] at hm
      cases hq : es.toList[m]? with
      | none => rw [hq] at hm; simp at hm
      | some e0 =>
        rw [hq] at hm
        simp at hm
        split at hm
        · subst hm; exact ⟨k, rfl⟩
        · subst hm; exact hk e0 (List.mem_of_getElem? hq)
    · intro k'
      rw [Array.toList_modify, h9, hf]

theorem SL.setM {w w' : World} (h : SL w0 O w L) {i g : Nat} {f f' : Int → Option Value} (hL : L[i]? = some (.imap g f)) (hos : w'.os = w.os) (ht : w'.tape = w.tape) (hou : w'.output = w.output)
    (hsz : w'.heap.size = w.heap.size) (hg : MapAt w' g f') (hk : ∀ k, k ≠ g → w'.heap[k]? = w.heap[k]?) : SL w0 O w' (L.set i (.imap g f')) :=
  h.setI hL hos ht hou (Nat.le_of_eq hsz.symm) hg (by simp [Ent.blocks]) (fun b hb => .inl (by simpa [Ent.blocks] using hb)) (fun k _ hkb => hk k (by simpa [Ent.blocks] using hkb))

theorem setMap_SL {w : World} (hw : SL w0 O w L) {i g : Nat} {f f' : Int → Option Value} (hL : L[i]? = some (.imap g f)) {es' : Array MapEntry} {clock' : Nat} (h1 : ∀ e ∈ es'.toList, ∃ a, e.key = .int .i64 a) (h2 : ∀ k, mget k es'.toList = f' k) :
    SL w0 O { w with heap := w.heap.setIfInBounds g (.map es' clock') } (L.set i (.imap g f')) := by
  obtain ⟨es, clock, hg, _, _⟩ : MapAt w g f := hw.ents _ (List.mem_of_getElem? hL)
  exact hw.setM hL rfl rfl rfl (by simp) ⟨es', clock', (MapKept.heap_set hg).1, h1, h2⟩ (fun k hk => (MapKept.heap_set hg).2 k hk)

theorem op_mapUpdate {t : TypeId} {m x y : Operand} {g i : Nat} {f : Int → Option Value} {k : Int} {u z : Value} (ho : o.op = .mapUpdate t m x y ∨ o.op = .insert t m x y) (hd : o.dst = none) (hm : ev V m = some (.map (some g))) (hx : ev V x = some (.int .i64 k)) (hy : ev V y = some u)
    (ht : MapT P t z) (hL : L[i]? = some (.imap g f)) (hT : T V (L.set i (.imap g fun k' => if k' = k then some u else f k'))) : OpS P w0 O n D o V L T := by
  intro a w ha hw
  obtain ⟨es', clock', h1, h2, h3⟩ := run_mapUpdate_int (P := P) ht (hw.ents _ (List.mem_of_getElem? hL)) k u
  have hr : (execOp a.eval o).run P w = .ok .skip { w with heap := w.heap.setIfInBounds g (.map es' clock') } := by
    rcases ho with ho | ho <;> simp [execOp, ho, ha.eval hm, ha.eval hx, ha.eval hy, h1]
  unfold Does
  rw [hr, hd]
  exact ⟨_, _, hT, ha, setMap_SL hw hL h2 h3⟩

theorem op_clearMap {t : TypeId} {x : Operand} {g i : Nat} {f : Int → Option Value} {z : Value} (ho : o.op = .call { callee := .builtin .clear, args := #[x], argTypes := #[t] }) (hd : o.dst = none) (hx : ev V x = some (.map (some g)))
    (ht : MapT P t z) (hL : L[i]? = some (.imap g f)) (hT : T V (L.set i (.imap g fun _ => none))) : OpS P w0 O n D o V L T := by
  intro a w ha hw
  obtain ⟨kt, et, _, h1, _⟩ := ht
  obtain ⟨es, clock, hg, _, _⟩ : MapAt w g f := hw.ents _ (List.mem_of_getElem? hL)
  have hr : (execOp a.eval o).run P w = .ok (.value (.tuple #[])) { w with heap := w.heap.setIfInBounds g (.map #[] clock) } := by
    simp [execOp, ho, resolve, invoke, builtin, ha.eval hx, Builtin.clear_, run_underlying h1, MapKept.run_getObj_map hg, MapKept.run_setObj_map _ hg, Result.andThen]
  unfold Does
  rw [hr, hd]
  exact ⟨_, _, hT, ha, setMap_SL hw hL (by simp) (fun k => rfl)⟩

/-! ### Slicing -/
theorem add_zero' (A : Option Addr) : A.map (·.add 0) = A := by
  cases A with
  | none => rfl
  | some a => simp [Addr.add]

/-- x[:hi] -/
theorem yw_sliceTo {t e : TypeId} {x h : Operand} {A : Option Addr} {len cap sz k : Nat} {q : Int} (ho : o.op = .slice t x none (some h) none) (ht : SlT P t e sz) (hx : ev V x = some (.slice A len cap)) (hy : ev V h = some (.int .i64 q)) (hq : q = (k : Int)) (hk : k ≤ cap) :
    YldW P n D o V (.slice A k cap) := by
  intro a w ha
  obtain ⟨i, h1, h2, h3⟩ := ht
  subst hq
  have e1 : (if cap = 0 then A else A.map (·.add (0 * i.size))) = A := by split <;> simp [add_zero']
  have hk' : (k : Int) ≤ (cap : Int) := by omega
  simp [execOp, ho, ha.eval hx, ha.eval hy, Instr.sliceAt, Instr.slice, run_underlying h1, Instr.sliceBounds, Instr.sliceBound, asIntOf, hk, sizeOf, typeInfo, h2]
  simpa using e1

/-- x[lo:] -/
theorem yw_sliceFrom {t e : TypeId} {x l : Operand} {A : Option Addr} {len cap sz k : Nat} {q : Int} (ho : o.op = .slice t x (some l) none none) (ht : SlT P t e sz) (hx : ev V x = some (.slice A len cap)) (hy : ev V l = some (.int .i64 q)) (hq : q = (k : Int)) (hk : k ≤ len) :
    YldW P n D o V (.slice (if cap = k then A else A.map (·.add (k * sz))) (len - k) (cap - k)) := by
  intro a w ha
  obtain ⟨i, h1, h2, h3⟩ := ht
  subst hq
  subst h3
  have hk' : (k : Int) ≤ (len : Int) := by omega
  simp [execOp, ho, ha.eval hx, ha.eval hy, Instr.sliceAt, Instr.slice, run_underlying h1, Instr.sliceBounds, Instr.sliceBound, asIntOf, hk, sizeOf, typeInfo, h2]

/-- s[:hi] -/
theorem yw_strTo {t : TypeId} {x h : Operand} {s : ByteArray} {k : Nat} {q : Int} (ho : o.op = .slice t x none (some h) none) (ht : P.underlying t = some .string) (hx : ev V x = some (.string s)) (hy : ev V h = some (.int .i64 q)) (hq : q = (k : Int)) (hk : k ≤ s.size) :
    YldW P n D o V (.string (s.extract 0 k)) := by
  intro a w ha
  subst hq
  simp [execOp, ho, ha.eval hx, ha.eval hy, Instr.sliceAt, Instr.slice, run_underlying ht, Instr.sliceBounds, Instr.sliceBound, asIntOf, hk]

/-! ### Structs compared -/
theorem yw_eqlAgg {t u : TypeId} {x y : Operand} {xs ys : Array Value} {b : Bool} (ho : o.op = .binOp .eql t x y u) (hx : ev V x = some (.agg xs)) (hy : ev V y = some (.agg ys)) (hm : P.eqGuardType P.depth t = false)
    (h : ∀ w, (Op.equalIn 10000 t (.agg xs) (.agg ys)).run P w = .ok b w) : YldW P n D o V (.bool b) := by
  intro a w ha
  have h1 := run_eqGuard_agg (P := P) (w := w) .eql t x y xs ys hm
  have h2 := run_eql_struct (P := P) (w := w) t xs ys
  simp [execOp, ho, ha.eval hx, ha.eval hy, h1, h2, h]
theorem yw_neqAgg {t u : TypeId} {x y : Operand} {xs ys : Array Value} {b : Bool} (ho : o.op = .binOp .neq t x y u) (hx : ev V x = some (.agg xs)) (hy : ev V y = some (.agg ys)) (hm : P.eqGuardType P.depth t = false)
    (h : ∀ w, (Op.equalIn 10000 t (.agg xs) (.agg ys)).run P w = .ok b w) : YldW P n D o V (.bool (!b)) := by
  intro a w ha
  have h1 := run_eqGuard_agg (P := P) (w := w) .neq t x y xs ys hm
  have h2 := run_neq_struct (P := P) (w := w) t xs ys
  simp [execOp, ho, ha.eval hx, ha.eval hy, h1, h2, h]

/-! ### An array behind a pointer -/
/-- Element k of the array of sz-cell elements that begins at block b. -/
theorem yw_indexArr {t e : TypeId} {x y : Operand} {b len sz k : Nat} {q : Int} (ho : o.op = .indexAddr t x y) (ht : P.underlying t = some (.array len e)) (hs : SzT P e sz) (hx : ev V x = some (.pointer (some ⟨b, 0, none⟩))) (hy : ev V y = some (.int .i64 q)) (hq : q = (k : Int)) (hk : k < len) :
    YldW P n D o V (.pointer (some ⟨b, k * sz, none⟩)) := by
  intro a w ha
  obtain ⟨i, h2, h3⟩ := hs
  subst hq
  have h4 : (0 : Int) ≤ (k : Int) ∧ (k : Int) < (len : Int) := by omega
  simp [execOp, ho, ha.eval hx, ha.eval hy, Instr.indexAt, Instr.sureAddr, asIntOf, run_underlying ht, sizeOf, typeInfo, h2, h3, hk, add_none]

/-- A cell that lay ahead of the call. -/
theorem y_loadG {t : TypeId} {x : Operand} {b j : Nat} {v : Value} (ho : o.op = .load t x) (hx : ev V x = some (.pointer (some ⟨b, j, none⟩))) (h1 : One P t) (hc : w0.cell? ⟨b, j, none⟩ = some v) (hO : b ∉ O) : Yld P w0 O n D o V L v := by
  intro a w ha hw
  have hb : (⟨b, j, none⟩ : Addr).block < w0.heap.size := World.block_lt_of_cell? w0 _ hc
  have hcell : w.cell? ⟨b, j, none⟩ = some v := by rw [hw.cell0 hb hO]; exact hc
  simp [execOp, ho, ha.eval hx, Instr.loadAt, Instr.sureAddr, run_load_one h1 hcell]

/-! ### Shifts -/
theorem yw_shr1 {t u : TypeId} {x y : Operand} {k : IntKind} {a : Int} (ho : o.op = .binOp .shr t x y u) (hx : ev V x = some (.int .u64 a)) (hy : ev V y = some (.int k 1)) : YldW P n D o V (.int .u64 (a / 2)) := by
  intro c w ha
  have := shift_shr_any .u64 k a 1 (by decide)
  have e : min (1 : Int).toNat IntKind.u64.bits = 1 := by decide
  rw [e] at this
  simp [execOp, ho, ha.eval hx, ha.eval hy, eqGuard, binOp, this]

/-! ### Clearing a slice's tail -/
theorem Ent.take {w : World} {A : Option Addr} {cap : Nat} {e : TypeId} {sz : Nat} {xs : List (Array Value)} (h : (Ent.row A cap e sz xs).sat w) (k : Nat) (hk : k ≤ xs.length) : (Ent.row A cap e sz (xs.take k)).sat w := by
  obtain ⟨⟨h1, h2⟩, h3⟩ := h
  have hlen : (xs.take k).length = k := by simp; omega
  have h3' : ∀ c ∈ xs.take k, c.size = sz ∧ ∀ u ∈ c.toList, u.oneCell' = true := fun c hc => h3 c (List.mem_of_mem_take hc)
  have hfl := flat_length (fun c hc => (h3 c hc).1)
  have hft : flat (xs.take k) = (flat xs).take (k * sz) := by
    have e0 : flat xs = flat (xs.take k) ++ flat (xs.drop k) := by rw [← flat_append, List.take_append_drop]
    have e1 : (flat (xs.take k)).length = k * sz := by rw [flat_length (fun c hc => (h3' c hc).1), hlen]
    rw [e0, List.take_append_of_le_length (Nat.le_of_eq e1.symm), List.take_of_length_le (Nat.le_of_eq e1)]
  refine ⟨⟨flat_length (fun c hc => (h3' c hc).1), ?_⟩, h3'⟩
  rcases h2 with ⟨hv, hn⟩ | ⟨g, cp, cur, hv, hb, hg, hnc, hcm, hcs, ht⟩
  · injection hv with hA _ hc
    subst hA; subst hc
    exact .inl ⟨by simp; omega, by omega⟩
  · injection hv with hA _ hc
    subst hA; subst hc
    refine .inr ⟨g, cap, cur, rfl, hb, hg, by omega, hcm, hcs, ?_⟩
    rw [hft, hlen, ← ht, List.take_take, Nat.min_eq_left (Nat.mul_le_mul_right _ hk)]

theorem op_clearTail {t e : TypeId} {x : Operand} {A : Option Addr} {cap sz bytes k i len : Nat} {z : Value} {xs : List (Array Value)} (ho : o.op = .call { callee := .builtin .clear, args := #[x], argTypes := #[t] }) (hd : o.dst = none)
    (ht : SlB P t e sz bytes z) (hz1 : ∀ u ∈ z.cells.toList, u.oneCell' = true)
    (hx : ev V x = some (.slice (if cap = k then A else A.map (·.add (k * sz))) (len - k) (cap - k))) (hL : L[i]? = some (.row A cap e sz xs)) (hlen : xs.length = len) (hk : k ≤ len)
    (hT : T V (L.set i (.row A cap e sz (xs.take k)))) : OpS P w0 O n D o V L T := by
  intro a w ha hw
  subst hlen
  have hzs := ht.zs
  have hsat := hw.ents _ (List.mem_of_getElem? hL)
  have hsat' := Ent.take hsat k hk
  unfold Does
  by_cases hfull : xs.length - k = 0
  · have hr : (execOp a.eval o).run P w = .ok (.value (.tuple #[])) w := by
      have h0 := ht.under
      have hx' := ha.eval hx
      generalize (if cap = k then A else A.map (·.add (k * sz))) = B at hx'
      rw [hfull] at hx'
      cases B <;> simp [execOp, ho, resolve, hx', invoke, builtin, Builtin.clear_, run_underlying h0]
    rw [hr, hd]
    exact ⟨_, _, hT, ha, hw.setI hL rfl rfl rfl (Nat.le_refl _) hsat' row_blocks_nodup (fun b hb => .inl hb) (fun _ _ _ => rfl)⟩
  · obtain ⟨⟨hl, h2⟩, hxs⟩ := hsat
    rcases h2 with ⟨hvv, hn⟩ | ⟨g, cp, cur, hvv, _, hg, hnc, hcm, hcs, htake⟩
    · omega
    · injection hvv with hA hn hc
      subst hA; subst hc
      have hne : cap ≠ k := by omega
      have hx' : a.eval x = .slice (some ⟨g, k * sz, none⟩) (xs.length - k) (cap - k) := by
        rw [ha.eval hx, if_neg hne]
        simp [add_none]
      obtain ⟨m, hm⟩ : ∃ m, xs.length - k = m + 1 := ⟨xs.length - k - 1, by omega⟩
      have hzl : (Builtin.zeroCells z.cells (xs.length - k)).toList.length = (xs.length - k) * sz := by simp [Builtin.zeroCells, hzs]
      have hz1' : ∀ u ∈ (Builtin.zeroCells z.cells (xs.length - k)).toList, u.oneCell' = true := by
        intro u hu
        simp only [Builtin.zeroCells, Array.toList_map, List.mem_map, Array.mem_toList_iff, Array.mem_range] at hu
        obtain ⟨j, hj, rfl⟩ := hu
        have hpos : 0 < z.cells.size := by
          rcases Nat.eq_zero_or_pos z.cells.size with h | h
          · rw [h] at hj; omega
          · exact h
        have hlt := Nat.mod_lt j hpos
        rw [getElem!_pos z.cells (j % z.cells.size) hlt]
        exact hz1 _ (by simp)
      have hle : xs.length * sz ≤ cap * sz := Nat.mul_le_mul_right _ hnc
      have hsub : (xs.length - k) * sz = xs.length * sz - k * sz := Nat.sub_mul _ _ _
      have hkle : k * sz ≤ xs.length * sz := Nat.mul_le_mul_right _ hk
      have hst := run_storeCells_at P g (k * sz) e (Builtin.zeroCells z.cells (xs.length - k)).toList 0 cur w hg (by rw [hzl]; omega) hz1'
      have hr : (execOp a.eval o).run P w = .ok (.value (.tuple #[])) (w.setRow g (cur.toList.take (k * sz) ++ (Builtin.zeroCells z.cells (xs.length - k)).toList ++ cur.toList.drop (k * sz + (xs.length - k) * sz)).toArray) := by
        have h0 := ht.under
        obtain ⟨inf, hi, hzz, _, _⟩ := ht.info
        have hzv : (zeroValue e).run P w = .ok z w := by simp [zeroValue, typeInfo, hi, hzz]
        rw [hm] at hst hx'
        simp only [Nat.add_zero] at hst
        simp [execOp, ho, resolve, invoke, builtin, hx', Builtin.clear_, run_underlying h0, hzv, hst]
        rw [← hm, Array.length_toList] at *
        simp [hm] at hzl ⊢
        rw [hzl]
      rw [hr, hd]
      refine ⟨_, _, hT, ha, hw.setI hL rfl rfl rfl (by simp) ?_ row_blocks_nodup (fun b hb => .inl hb) (fun j _ hj => setRow_other w g j _ (by simpa [Ent.blocks] using hj))⟩
      have hlen : (xs.take k).length = k := by simp; omega
      obtain ⟨⟨h1', h2'⟩, h3'⟩ := hsat'
      refine ⟨⟨h1', .inr ⟨g, cap, _, rfl, Nat.zero_le _, setRow_heap w g cur _ e _ hg, by omega, hcm, ?_, ?_⟩⟩, h3'⟩
      · have : (Builtin.zeroCells z.cells (xs.length - k)).size = (xs.length - k) * sz := by simpa using hzl
        simp [this]; omega
      · rcases h2' with ⟨hv, _⟩ | ⟨g', cp', cur', hv, _, hg', _, _, _, ht'⟩
        · cases hv
        · injection hv with hA' _ _
          injection hA' with hA'
          injection hA' with hgg _ _
          subst hgg
          have : cur' = cur := by
            rw [hg] at hg'; injection hg' with hg'; injection hg' with hg' _; exact hg'.symm
          subst this
          rw [← ht', hlen]
          have hclen : cur'.toList.length = cap * sz := by simpa using hcs
          simp only [List.toList_toArray, List.append_assoc]
          rw [List.take_append_of_le_length (by rw [List.length_take, hclen]; omega), List.take_take, Nat.min_self]
end
end Go.Proofs.YtmndhiaaolfepaaDoor
